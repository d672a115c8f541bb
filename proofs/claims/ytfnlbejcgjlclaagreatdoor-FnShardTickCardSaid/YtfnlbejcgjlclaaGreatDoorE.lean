/- The functions of the library that are met keep their contracts. Condition: what is known of the world at first (WOk). -/
import Derived.Shelf.Strings.Prefix
import Derived.Shelf.Strings.Cut
import Derived.Shelf.Strings.Split
import Derived.Shelf.Strings.OnBuilder
import Derived.Shelf.Strconv.Itoa3
import Derived.Shelf.SlicesE.Clone
import Derived.Shelf.Strconv.AtoiAll
import Derived.Shelf.Strings.Repeat
import Derived.Shelf.Strings.BuilderF
import Derived.Deep.RegionLaw
import Derived.Shelf.Spec.TrailingZeros
import Derived.Lib.ItoaMem
import Derived.Shelf.Spec.SlicesInsertGrow
import Derived.Lib.AppendZerosOnto
import Derived.Test.YtfnlbejcgjlclaaGreatDoorD
set_option linter.all false
namespace Go.Proofs
open Go.Shelf Tryz
theorem bN{a b:Func}(h:a=b):some a=some b:=congrArg some h
def Tryz.alW:Go.Shelf.Ren:=⟨λ|99=>97|206=>144|n=>n,λ|9=>9|4=>4|3=>3|n=>n,λ|n=>n⟩
theorem Tryz.arX:Go.Proofs.Lays.n99 Tryz.prog Tryz.alW:={
 mixed:=by kernel_rfl
 f99:=func97.trans (bN (by kernel_rfl))
 f206:=func144.trans (bN (by kernel_rfl))
 t3:=underlying3
 a3:=isAgg3
 z3:=sizeOf3
 v3:=zeroValue3
 t4:=underlying4
 a4:=isAgg4
 z4:=sizeOf4
 v4:=zeroValue4
 t9:=underlying9
 a9:=isAgg9
 z9:=sizeOf9
 v9:=zeroValue9}
def Tryz.alu:Go.Shelf.Ren:=⟨λ|145=>94|220=>141|219=>173|217=>213|225=>214|224=>215|267=>216|266=>257|314=>258|n=>n,λ|9=>9|4=>4|59=>114|3=>3|5=>5|46=>223|146=>258|51=>189|n=>n,λ|1=>1|n=>n⟩
theorem Tryz.aqe:Go.Proofs.Lays.n145 Tryz.prog Tryz.alu:={
 mixed:=by kernel_rfl
 f145:=func94.trans (bN (by kernel_rfl))
 f217:=func213.trans (bN (by kernel_rfl))
 f219:=func173.trans (bN (by kernel_rfl))
 f220:=func141.trans (bN (by kernel_rfl))
 f224:=func215.trans (bN (by kernel_rfl))
 f225:=func214.trans (bN (by kernel_rfl))
 f266:=func257.trans (bN (by kernel_rfl))
 f267:=func216.trans (bN (by kernel_rfl))
 f314:=func258.trans (bN (by kernel_rfl))
 t3:=underlying3
 a3:=isAgg3
 z3:=sizeOf3
 v3:=zeroValue3
 t4:=underlying4
 a4:=isAgg4
 z4:=sizeOf4
 v4:=zeroValue4
 t5:=underlying5
 a5:=isAgg5
 z5:=sizeOf5
 v5:=zeroValue5
 t9:=underlying9
 a9:=isAgg9
 z9:=sizeOf9
 v9:=zeroValue9
 t46:=underlying223
 a46:=isAgg223
 z46:=sizeOf223
 v46:=zeroValue223
 t51:=underlying189
 a51:=isAgg189
 z51:=sizeOf189
 v51:=zeroValue189
 t59:=underlying114
 a59:=isAgg114
 z59:=sizeOf114
 v59:=zeroValue114
 t146:=underlying258
 a146:=isAgg258
 z146:=sizeOf258
 v146:=zeroValue258
 g1:=by kernel_rfl}
def Tryz.OZ:Go.Shelf.Ren:=⟨λ|146=>100|221=>147|268=>183|138=>184|143=>185|195=>226|197=>227|218=>228|219=>173|260=>265|217=>213|225=>214|224=>215|267=>216|266=>257|314=>258|n=>n,λ|9=>9|31=>81|3=>3|4=>4|0=>0|105=>235|21=>21|5=>5|46=>223|119=>296|139=>299|138=>298|146=>258|51=>189|n=>n,λ|1=>1|3=>6|4=>7|n=>n⟩
theorem Tryz.aqf:Go.Proofs.Lays.n146 Tryz.prog Tryz.OZ:={
 mixed:=by kernel_rfl
 f138:=func184.trans (bN (by kernel_rfl))
 f143:=func185.trans (bN (by kernel_rfl))
 f146:=func100.trans (bN (by kernel_rfl))
 f195:=func226.trans (bN (by kernel_rfl))
 f197:=func227.trans (bN (by kernel_rfl))
 f217:=func213.trans (bN (by kernel_rfl))
 f218:=func228.trans (bN (by kernel_rfl))
 f219:=func173.trans (bN (by kernel_rfl))
 f221:=func147.trans (bN (by kernel_rfl))
 f224:=func215.trans (bN (by kernel_rfl))
 f225:=func214.trans (bN (by kernel_rfl))
 f260:=func265.trans (bN (by kernel_rfl))
 f266:=func257.trans (bN (by kernel_rfl))
 f267:=func216.trans (bN (by kernel_rfl))
 f268:=func183.trans (bN (by kernel_rfl))
 f314:=func258.trans (bN (by kernel_rfl))
 t0:=underlying0
 a0:=isAgg0
 z0:=sizeOf0
 v0:=zeroValue0
 t3:=underlying3
 a3:=isAgg3
 z3:=sizeOf3
 v3:=zeroValue3
 t4:=underlying4
 a4:=isAgg4
 z4:=sizeOf4
 v4:=zeroValue4
 t5:=underlying5
 a5:=isAgg5
 z5:=sizeOf5
 v5:=zeroValue5
 t9:=underlying9
 a9:=isAgg9
 z9:=sizeOf9
 v9:=zeroValue9
 t21:=underlying21
 a21:=isAgg21
 z21:=sizeOf21
 v21:=zeroValue21
 t31:=underlying81
 a31:=isAgg81
 z31:=sizeOf81
 v31:=zeroValue81
 t46:=underlying223
 a46:=isAgg223
 z46:=sizeOf223
 v46:=zeroValue223
 t51:=underlying189
 a51:=isAgg189
 z51:=sizeOf189
 v51:=zeroValue189
 t105:=underlying235
 a105:=isAgg235
 z105:=sizeOf235
 v105:=zeroValue235
 t119:=underlying296
 a119:=isAgg296
 z119:=sizeOf296
 t138:=underlying298
 a138:=isAgg298
 z138:=sizeOf298
 v138:=zeroValue298
 t139:=underlying299
 a139:=isAgg299
 z139:=sizeOf299
 v139:=zeroValue299
 t146:=underlying258
 a146:=isAgg258
 z146:=sizeOf258
 v146:=zeroValue258
 g1:=by kernel_rfl
 g3:=by kernel_rfl
 g4:=by kernel_rfl}
def Tryz.abi:Go.Shelf.Ren:=⟨λ|156=>133|165=>169|166=>170|169=>171|240=>211|241=>212|276=>255|277=>256|n=>n,λ|31=>81|9=>9|3=>3|4=>4|0=>0|20=>20|72=>181|76=>151|70=>179|37=>22|75=>150|127=>221|164=>255|5=>5|80=>183|n=>n,λ|n=>n⟩
theorem Tryz.HC:Go.Proofs.Lays.n156 Tryz.prog Tryz.abi:={
 mixed:=by kernel_rfl
 f156:=func133.trans (bN (by kernel_rfl))
 f165:=func169.trans (bN (by kernel_rfl))
 f166:=func170.trans (bN (by kernel_rfl))
 f169:=func171.trans (bN (by kernel_rfl))
 f240:=func211.trans (bN (by kernel_rfl))
 f241:=func212.trans (bN (by kernel_rfl))
 f276:=func255.trans (bN (by kernel_rfl))
 f277:=func256.trans (bN (by kernel_rfl))
 t0:=underlying0
 a0:=isAgg0
 z0:=sizeOf0
 v0:=zeroValue0
 t3:=underlying3
 a3:=isAgg3
 z3:=sizeOf3
 v3:=zeroValue3
 t4:=underlying4
 a4:=isAgg4
 z4:=sizeOf4
 v4:=zeroValue4
 t9:=underlying9
 a9:=isAgg9
 z9:=sizeOf9
 v9:=zeroValue9
 t20:=underlying20
 a20:=isAgg20
 z20:=sizeOf20
 v20:=zeroValue20
 t31:=underlying81
 a31:=isAgg81
 z31:=sizeOf81
 v31:=zeroValue81
 t37:=underlying22
 a37:=isAgg22
 z37:=sizeOf22
 v37:=zeroValue22
 t70:=underlying179
 a70:=isAgg179
 z70:=sizeOf179
 v70:=zeroValue179
 t72:=underlying181
 a72:=isAgg181
 z72:=sizeOf181
 v72:=zeroValue181
 t75:=underlying150
 a75:=isAgg150
 z75:=sizeOf150
 v75:=zeroValue150
 t76:=underlying151
 a76:=isAgg151
 z76:=sizeOf151
 v76:=zeroValue151
 t127:=underlying221
 a127:=isAgg221
 z127:=sizeOf221
 v127:=zeroValue221
 t164:=underlying255
 a164:=isAgg255
 z164:=sizeOf255
 v164:=zeroValue255}
def Tryz.alv:Go.Shelf.Ren:=⟨λ|171=>81|243=>129|246=>167|283=>206|284=>207|285=>208|286=>209|129=>251|317=>250|318=>252|319=>253|320=>254|337=>285|338=>286|n=>n,λ|3=>3|9=>9|2=>2|4=>4|171=>215|0=>0|53=>187|37=>22|5=>5|173=>218|212=>252|51=>189|20=>20|213=>253|46=>223|232=>316|233=>317|n=>n,λ|17=>3|18=>8|19=>9|n=>n⟩
theorem Tryz.aqg:Go.Proofs.LaysM.n171 Tryz.prog Tryz.alv:={
 mixed:=by kernel_rfl
 f129:=func251.trans (bN (by kernel_rfl))
 f171:=func81.trans (bN (by kernel_rfl))
 f243:=func129.trans (bN (by kernel_rfl))
 f246:=func167.trans (bN (by kernel_rfl))
 f283:=func206.trans (bN (by kernel_rfl))
 f284:=func207.trans (bN (by kernel_rfl))
 f285:=func208.trans (bN (by kernel_rfl))
 f286:=func209.trans (bN (by kernel_rfl))
 f317:=func250.trans (bN (by kernel_rfl))
 f318:=func252.trans (bN (by kernel_rfl))
 f319:=func253.trans (bN (by kernel_rfl))
 f320:=func254.trans (bN (by kernel_rfl))
 f337:=func285.trans (bN (by kernel_rfl))
 f338:=func286.trans (bN (by kernel_rfl))
 t0:=underlying0
 a0:=isAgg0
 z0:=sizeOf0
 v0:=zeroValue0
 t2:=underlying2
 a2:=isAgg2
 z2:=sizeOf2
 v2:=zeroValue2
 t3:=underlying3
 a3:=isAgg3
 z3:=sizeOf3
 v3:=zeroValue3
 t4:=underlying4
 a4:=isAgg4
 z4:=sizeOf4
 v4:=zeroValue4
 t5:=underlying5
 a5:=isAgg5
 z5:=sizeOf5
 v5:=zeroValue5
 t9:=underlying9
 a9:=isAgg9
 z9:=sizeOf9
 v9:=zeroValue9
 t20:=underlying20
 a20:=isAgg20
 z20:=sizeOf20
 v20:=zeroValue20
 t37:=underlying22
 a37:=isAgg22
 z37:=sizeOf22
 v37:=zeroValue22
 t46:=underlying223
 a46:=isAgg223
 z46:=sizeOf223
 v46:=zeroValue223
 t51:=underlying189
 a51:=isAgg189
 z51:=sizeOf189
 v51:=zeroValue189
 t53:=underlying187
 a53:=isAgg187
 z53:=sizeOf187
 v53:=zeroValue187
 t171:=underlying215
 a171:=isAgg215
 z171:=sizeOf215
 v171:=zeroValue215
 t173:=underlying218
 a173:=isAgg218
 z173:=sizeOf218
 v173:=zeroValue218
 t212:=underlying252
 a212:=isAgg252
 z212:=sizeOf252
 v212:=zeroValue252
 t213:=underlying253
 a213:=isAgg253
 z213:=sizeOf253
 t232:=underlying316
 a232:=isAgg316
 z232:=sizeOf316
 v232:=zeroValue316
 t233:=underlying317
 a233:=isAgg317
 z233:=sizeOf317
 v233:=zeroValue317
 g17:=by kernel_rfl
 g18:=by kernel_rfl
 g19:=by kernel_rfl
 i0:=by kernel_rfl
 i2:=by kernel_rfl
 i3:=by kernel_rfl
 i4:=by kernel_rfl
 i5:=by kernel_rfl
 i9:=by kernel_rfl
 i20:=by kernel_rfl
 i37:=by kernel_rfl
 i46:=by kernel_rfl
 i51:=by kernel_rfl
 i53:=by kernel_rfl
 i171:=by kernel_rfl
 i173:=by kernel_rfl
 i212:=by kernel_rfl
 i232:=by kernel_rfl
 i233:=by kernel_rfl
 m17:=by kernel_rfl
 m18:=by kernel_rfl
 m19:=by kernel_rfl}
def Tryz.alw:Go.Shelf.Ren:=⟨λ|172=>142|244=>174|245=>175|247=>217|279=>218|280=>219|281=>220|282=>221|287=>259|316=>260|171=>81|205=>261|321=>287|322=>288|243=>129|246=>167|283=>206|284=>207|285=>208|286=>209|129=>251|317=>250|318=>252|319=>253|320=>254|337=>285|338=>286|n=>n,λ|9=>9|3=>3|75=>150|76=>151|4=>4|5=>5|167=>224|37=>22|0=>0|85=>225|2=>2|168=>227|53=>187|175=>260|46=>223|210=>263|127=>221|145=>295|143=>293|21=>21|171=>215|173=>218|212=>252|51=>189|20=>20|213=>253|232=>316|233=>317|80=>183|n=>n,λ|15=>4|16=>5|17=>3|18=>8|19=>9|n=>n⟩
theorem Tryz.W4:Go.Proofs.LaysC.n172 Tryz.prog Tryz.alw:={
 mixed:=by kernel_rfl
 f129:=func251.trans (bN (by kernel_rfl))
 f171:=func81.trans (bN (by kernel_rfl))
 f172:=func142.trans (bN (by kernel_rfl))
 f205:=func261.trans (bN (by kernel_rfl))
 f243:=func129.trans (bN (by kernel_rfl))
 f244:=func174.trans (bN (by kernel_rfl))
 f245:=func175.trans (bN (by kernel_rfl))
 f246:=func167.trans (bN (by kernel_rfl))
 f247:=func217.trans (bN (by kernel_rfl))
 f279:=func218.trans (bN (by kernel_rfl))
 f280:=func219.trans (bN (by kernel_rfl))
 f281:=func220.trans (bN (by kernel_rfl))
 f282:=func221.trans (bN (by kernel_rfl))
 f283:=func206.trans (bN (by kernel_rfl))
 f284:=func207.trans (bN (by kernel_rfl))
 f285:=func208.trans (bN (by kernel_rfl))
 f286:=func209.trans (bN (by kernel_rfl))
 f287:=func259.trans (bN (by kernel_rfl))
 f316:=func260.trans (bN (by kernel_rfl))
 f317:=func250.trans (bN (by kernel_rfl))
 f318:=func252.trans (bN (by kernel_rfl))
 f319:=func253.trans (bN (by kernel_rfl))
 f320:=func254.trans (bN (by kernel_rfl))
 f321:=func287.trans (bN (by kernel_rfl))
 f322:=func288.trans (bN (by kernel_rfl))
 f337:=func285.trans (bN (by kernel_rfl))
 f338:=func286.trans (bN (by kernel_rfl))
 t0:=underlying0
 a0:=isAgg0
 z0:=sizeOf0
 v0:=zeroValue0
 t2:=underlying2
 a2:=isAgg2
 z2:=sizeOf2
 v2:=zeroValue2
 t3:=underlying3
 a3:=isAgg3
 z3:=sizeOf3
 v3:=zeroValue3
 t4:=underlying4
 a4:=isAgg4
 z4:=sizeOf4
 v4:=zeroValue4
 t5:=underlying5
 a5:=isAgg5
 z5:=sizeOf5
 v5:=zeroValue5
 t9:=underlying9
 a9:=isAgg9
 z9:=sizeOf9
 v9:=zeroValue9
 t20:=underlying20
 a20:=isAgg20
 z20:=sizeOf20
 v20:=zeroValue20
 t21:=underlying21
 a21:=isAgg21
 z21:=sizeOf21
 v21:=zeroValue21
 t37:=underlying22
 a37:=isAgg22
 z37:=sizeOf22
 v37:=zeroValue22
 t46:=underlying223
 a46:=isAgg223
 z46:=sizeOf223
 v46:=zeroValue223
 t51:=underlying189
 a51:=isAgg189
 z51:=sizeOf189
 v51:=zeroValue189
 t53:=underlying187
 a53:=isAgg187
 z53:=sizeOf187
 v53:=zeroValue187
 t75:=underlying150
 a75:=isAgg150
 z75:=sizeOf150
 v75:=zeroValue150
 t76:=underlying151
 a76:=isAgg151
 z76:=sizeOf151
 v76:=zeroValue151
 t85:=underlying225
 a85:=isAgg225
 z85:=sizeOf225
 v85:=zeroValue225
 t127:=underlying221
 a127:=isAgg221
 z127:=sizeOf221
 v127:=zeroValue221
 t143:=underlying293
 a143:=isAgg293
 z143:=sizeOf293
 v143:=zeroValue293
 t145:=underlying295
 a145:=isAgg295
 z145:=sizeOf295
 v145:=zeroValue295
 t167:=underlying224
 a167:=isAgg224
 z167:=sizeOf224
 v167:=zeroValue224
 t168:=underlying227
 a168:=isAgg227
 z168:=sizeOf227
 v168:=zeroValue227
 t171:=underlying215
 a171:=isAgg215
 z171:=sizeOf215
 v171:=zeroValue215
 t173:=underlying218
 a173:=isAgg218
 z173:=sizeOf218
 v173:=zeroValue218
 t175:=underlying260
 a175:=isAgg260
 z175:=sizeOf260
 v175:=zeroValue260
 t210:=underlying263
 a210:=isAgg263
 z210:=sizeOf263
 v210:=zeroValue263
 t212:=underlying252
 a212:=isAgg252
 z212:=sizeOf252
 v212:=zeroValue252
 t213:=underlying253
 a213:=isAgg253
 z213:=sizeOf253
 t232:=underlying316
 a232:=isAgg316
 z232:=sizeOf316
 v232:=zeroValue316
 t233:=underlying317
 a233:=isAgg317
 z233:=sizeOf317
 v233:=zeroValue317
 g15:=by kernel_rfl
 g16:=by kernel_rfl
 g17:=by kernel_rfl
 g18:=by kernel_rfl
 g19:=by kernel_rfl
 t80:=underlying183
 a80:=isAgg183
 z80:=sizeOf183
 v80:=zeroValue183
 i0:=by kernel_rfl
 i2:=by kernel_rfl
 i3:=by kernel_rfl
 i4:=by kernel_rfl
 i5:=by kernel_rfl
 i9:=by kernel_rfl
 i20:=by kernel_rfl
 i21:=by kernel_rfl
 i37:=by kernel_rfl
 i46:=by kernel_rfl
 i51:=by kernel_rfl
 i53:=by kernel_rfl
 i75:=by kernel_rfl
 i76:=by kernel_rfl
 i80:=by kernel_rfl
 i85:=by kernel_rfl
 i127:=by kernel_rfl
 i143:=by kernel_rfl
 i145:=by kernel_rfl
 i167:=by kernel_rfl
 i168:=by kernel_rfl
 i171:=by kernel_rfl
 i173:=by kernel_rfl
 i175:=by kernel_rfl
 i210:=by kernel_rfl
 i212:=by kernel_rfl
 i232:=by kernel_rfl
 i233:=by kernel_rfl
 m15:=by kernel_rfl
 m16:=by kernel_rfl
 m17:=by kernel_rfl
 m18:=by kernel_rfl
 m19:=by kernel_rfl
 c0:=by kernel_rfl
 c2:=by kernel_rfl
 c3:=by kernel_rfl
 c4:=by kernel_rfl
 c5:=by kernel_rfl
 c9:=by kernel_rfl
 c20:=by kernel_rfl
 c21:=by kernel_rfl
 c37:=by kernel_rfl
 c46:=by kernel_rfl
 c51:=by kernel_rfl
 c53:=by kernel_rfl
 c75:=by kernel_rfl
 c76:=by kernel_rfl
 c80:=by kernel_rfl
 c85:=by kernel_rfl
 c127:=by kernel_rfl
 c143:=by kernel_rfl
 c145:=by kernel_rfl
 c167:=by kernel_rfl
 c168:=by kernel_rfl
 c171:=by kernel_rfl
 c173:=by kernel_rfl
 c175:=by kernel_rfl
 c210:=by kernel_rfl
 c212:=by kernel_rfl
 c213:=by kernel_rfl
 c232:=by kernel_rfl
 c233:=by kernel_rfl}
def Tryz.abj:Go.Shelf.Ren:=⟨λ|105=>176|212=>222|99=>97|165=>169|166=>170|170=>223|169=>171|263=>262|264=>263|206=>144|240=>211|241=>212|276=>255|277=>256|n=>n,λ|9=>9|3=>3|4=>4|20=>20|0=>0|46=>223|109=>230|5=>5|72=>181|76=>151|51=>189|146=>258|53=>187|148=>266|70=>179|37=>22|75=>150|127=>221|164=>255|80=>183|n=>n,λ|n=>n⟩
theorem Tryz.aqh:Go.Proofs.Lays.n105 Tryz.prog Tryz.abj:={
 mixed:=by kernel_rfl
 f99:=func97.trans (bN (by kernel_rfl))
 f105:=func176.trans (bN (by kernel_rfl))
 f165:=func169.trans (bN (by kernel_rfl))
 f166:=func170.trans (bN (by kernel_rfl))
 f169:=func171.trans (bN (by kernel_rfl))
 f170:=func223.trans (bN (by kernel_rfl))
 f206:=func144.trans (bN (by kernel_rfl))
 f212:=func222.trans (bN (by kernel_rfl))
 f240:=func211.trans (bN (by kernel_rfl))
 f241:=func212.trans (bN (by kernel_rfl))
 f263:=func262.trans (bN (by kernel_rfl))
 f264:=func263.trans (bN (by kernel_rfl))
 f276:=func255.trans (bN (by kernel_rfl))
 f277:=func256.trans (bN (by kernel_rfl))
 t0:=underlying0
 a0:=isAgg0
 z0:=sizeOf0
 v0:=zeroValue0
 t3:=underlying3
 a3:=isAgg3
 z3:=sizeOf3
 v3:=zeroValue3
 t4:=underlying4
 a4:=isAgg4
 z4:=sizeOf4
 v4:=zeroValue4
 t5:=underlying5
 a5:=isAgg5
 z5:=sizeOf5
 v5:=zeroValue5
 t9:=underlying9
 a9:=isAgg9
 z9:=sizeOf9
 v9:=zeroValue9
 t20:=underlying20
 a20:=isAgg20
 z20:=sizeOf20
 v20:=zeroValue20
 t37:=underlying22
 a37:=isAgg22
 z37:=sizeOf22
 v37:=zeroValue22
 t46:=underlying223
 a46:=isAgg223
 z46:=sizeOf223
 v46:=zeroValue223
 t51:=underlying189
 a51:=isAgg189
 z51:=sizeOf189
 v51:=zeroValue189
 t53:=underlying187
 a53:=isAgg187
 z53:=sizeOf187
 v53:=zeroValue187
 t70:=underlying179
 a70:=isAgg179
 z70:=sizeOf179
 v70:=zeroValue179
 t72:=underlying181
 a72:=isAgg181
 z72:=sizeOf181
 v72:=zeroValue181
 t75:=underlying150
 a75:=isAgg150
 z75:=sizeOf150
 v75:=zeroValue150
 t76:=underlying151
 a76:=isAgg151
 z76:=sizeOf151
 v76:=zeroValue151
 t109:=underlying230
 a109:=isAgg230
 z109:=sizeOf230
 v109:=zeroValue230
 t127:=underlying221
 a127:=isAgg221
 z127:=sizeOf221
 v127:=zeroValue221
 t146:=underlying258
 a146:=isAgg258
 z146:=sizeOf258
 v146:=zeroValue258
 t148:=underlying266
 a148:=isAgg266
 z148:=sizeOf266
 v148:=zeroValue266
 t164:=underlying255
 a164:=isAgg255
 z164:=sizeOf255
 v164:=zeroValue255}
def Tryz.aa2:Go.Shelf.Ren:=⟨λ|41=>180|n=>n,λ|22=>45|23=>3|4=>4|n=>n,λ|n=>n⟩
theorem Tryz.aog:Go.Proofs.SlLaysE0.n41 Tryz.prog Tryz.aa2:={
 mixed:=by kernel_rfl
 f41:=⟨Tryz.f180.name,by decide,func180.trans (bN (by kernel_rfl))⟩
 t4:=underlying4
 a4:=isAgg4
 z4:=sizeOf4
 v4:=zeroValue4
 t22:=underlying45
 a22:=isAgg45
 z22:=sizeOf45
 v22:=zeroValue45}
def Tryz.aa3:Go.Shelf.Ren:=⟨λ|41=>182|n=>n,λ|22=>46|23=>50|4=>4|n=>n,λ|n=>n⟩
theorem Tryz.aoh:Go.Proofs.SlLaysE0.n41 Tryz.prog Tryz.aa3:={
 mixed:=by kernel_rfl
 f41:=⟨Tryz.f182.name,by decide,func182.trans (bN (by kernel_rfl))⟩
 t4:=underlying4
 a4:=isAgg4
 z4:=sizeOf4
 v4:=zeroValue4
 t22:=underlying46
 a22:=isAgg46
 z22:=sizeOf46
 v22:=zeroValue46}
def Tryz.aa4:Go.Shelf.Ren:=⟨λ|41=>124|n=>n,λ|22=>24|23=>34|4=>4|n=>n,λ|n=>n⟩
theorem Tryz.aoi:Go.Proofs.SlLaysE0.n41 Tryz.prog Tryz.aa4:={
 mixed:=by kernel_rfl
 f41:=⟨Tryz.f124.name,by decide,func124.trans (bN (by kernel_rfl))⟩
 t4:=underlying4
 a4:=isAgg4
 z4:=sizeOf4
 v4:=zeroValue4
 t22:=underlying24
 a22:=isAgg24
 z22:=sizeOf24
 v22:=zeroValue24}
def Tryz.aa5:Go.Shelf.Ren:=⟨λ|41=>126|n=>n,λ|22=>32|23=>77|4=>4|n=>n,λ|n=>n⟩
theorem Tryz.aoj:Go.Proofs.SlLaysE0.n41 Tryz.prog Tryz.aa5:={
 mixed:=by kernel_rfl
 f41:=⟨Tryz.f126.name,by decide,func126.trans (bN (by kernel_rfl))⟩
 t4:=underlying4
 a4:=isAgg4
 z4:=sizeOf4
 v4:=zeroValue4
 t22:=underlying32
 a22:=isAgg32
 z22:=sizeOf32
 v22:=zeroValue32}
theorem Tryz.Hl:Builder.Extra Tryz.prog Tryz.abi where
 sizeBuilder:=by kernel_rfl
 liesBuilder:=by kernel_rfl
 t5:=underlying5
 a5:=isAgg5
 z5:=sizeOf5
 v5:=zeroValue5
 infoByte:=by kernel_rfl
 cellsByte:=by kernel_rfl
 sizeByte:=by kernel_rfl
 neB5:=by decide
theorem Tryz.aok:Builder.Extra Tryz.prog Tryz.abj where
 sizeBuilder:=by kernel_rfl
 liesBuilder:=by kernel_rfl
 t5:=underlying5
 a5:=isAgg5
 z5:=sizeOf5
 v5:=zeroValue5
 infoByte:=by kernel_rfl
 cellsByte:=by kernel_rfl
 sizeByte:=by kernel_rfl
 neB5:=by decide
end Go.Proofs
namespace Go.Sd
open Go Go.RowKit
open Go.Ev hiding World Event Rd
open Go.Proofs hiding Enters
section
structure qW(W:World):Prop where
 sz:10<=W.heap.size
 mx:∃m,W.cell? ⟨1,0,none⟩=some (.int .i64 m)
 pow:Lib.TabIs Tryz.prog W "internal/strconv.uint64pow10" .u64 Lib.pow10Tab
 e4:∃te pe,W.cell? ⟨4,0,none⟩=some (.iface te pe)
 e5:∃te pe,W.cell? ⟨5,0,none⟩=some (.iface te pe)
 tz:W.cell? ⟨9,15,none⟩=some (.int .u8 4)
variable{W:World}{γ:Nat->G}{w w':World}
theorem Y7(hW:qW W)(a:Ey vO (ye W) γ w){i:Nat}(hi:i<10):γ i=.im/\w.heap[i]?=W.heap[i]?:=by
 have x:=hW.sz;have e:ye W i=some W.heap[i]:=by
  unfold ye
  have:Nat.blt i 10=true:=by simpa[wO] using hi
  rw[this,aF,jX (by omega)]
 obtain⟨j,u⟩:=a.2 i _ e;exact⟨j,by rw[u,jX (by omega)]⟩
theorem u3{X:Rt->aZ->Prop}(j:∀b,w.heap.size<=b->γ b=.fr)(h:Below w.heap.size w w')(e:∀b,γ b≠.fr->b<w.heap.size):bw X γ w γ w' where
 im:=λb a=>⟨a,h.block b (e b (by rw[a];simp))⟩
 at':=λb q p a _=>⟨a,h.block b (e b (by rw[a];simp))⟩
 fr:=λb a h0=>⟨h0,h.block b a⟩
 size:=h.size
 new:=λb a=>j b (Fh h.size a)
 tape:=h.tape
 os:=h.os
 output:=h.output
theorem mr(a:∀b,w.heap.size<=b->γ b=.fr):∀b,γ b≠.fr->b<w.heap.size:=λb e=>Jf λh=>e (a b h)
theorem xi{c:Rc}{i:Nat}{a v:Value}{x:aj}(h:uF c i a (.val (.el .str [])) x v):v=.string ⟨⟨x⟩⟩:=by
 have h:Rd c (some (.aw i,[])) (.s x) v:=h;cases h;rfl
theorem DX{k:IntKind}{c:Rc}{i:Nat}{a v:Value}{x:Int}(h:uF c i a (.val (.el (.int k) [])) x v):v=.int k x:=by
 have h:Rd c (some (.aw i,[])) (.i k x) v:=h;cases h;rfl
theorem enters{f:Nat}{fn:Func}(j:Tryz.prog.funcs[f]?=some fn)(a:(fn.body.isSome&&!(fn.name== "runtime.NumGoroutine"))=true):Enters Tryz.prog f:=by
 simp only[bo] at a;refine⟨fn,j,λe=>?_,?_⟩
 ·rw[e] at a;simp at a
 ·cases u:fn.body with
  |none=>rw[u] at a;simp at a
  |some x=>rfl
variable(W)
theorem k97(n:Nat):mg W 97 (S97 n):=by
 refine⟨enters Tryz.func97 (by kernel_rfl),λγ w a C x y A I u j=>?_⟩;obtain⟨s,p,_⟩:=x
 match a,u with
 |[J,M],u=>
  obtain⟨D,E,N⟩:=u;obtain rfl:=xi D;obtain rfl:=xi E;have j:some (Lib.hasPrefix s p)=some y:=j;injection j with j;subst j;have F:=Any.strings_HasPrefix Tryz.arX ⟨⟨s⟩⟩ ⟨⟨p⟩⟩ w;refine Calls.mono F λe w' H=>?_;obtain⟨rfl,rfl⟩:=H;exact⟨_,γ,rfl,u3 A (Below.refl _ _) (mr A),Rd.b _ _,trivial,trivial,trivial⟩
variable{W}
theorem aco{w w':World}{b:Nat}{j:Int}(h:w.heap[b]?=w'.heap[b]?)(k:Nat):w.cell? ⟨b,k,none⟩=w'.cell? ⟨b,k,none⟩:=by
 unfold World.cell?;simp only[h]
theorem Qf(hW:qW W)(a:Ey vO (ye W) γ w){i:Nat}(hi:i<10):w.cell? ⟨i,0,none⟩=W.cell? ⟨i,0,none⟩:=aco (j:=0) (Y7 hW a hi).2 0
theorem aol(hW:qW W)(j:Ey vO (ye W) γ w):Lib.TabIs Tryz.prog w "internal/strconv.uint64pow10" .u64 Lib.pow10Tab:=by
 have a:=hW.pow;unfold Lib.TabIs World.var? at a⊢;have e:Tryz.prog.globalNamed "internal/strconv.uint64pow10" =some 3:=by kernel_rfl
 rw[e] at a⊢;simp only[sx] at a⊢;rw[(Y7 hW j (show 3<10 by omega)).2];exact a
theorem alx(B:Nat)(w:World)(n:Nat):Below B w (w.drewN n):=⟨rfl,rfl,rfl,iI _,λ_ _=>rfl⟩
theorem abK(w:World)(n:Nat)(os:Array Obj):Below w.heap.size w (Sort.grow (w.drewN n) os):=⟨rfl,rfl,rfl,by show _<=(w.heap++os).size;simp,λk a=>by
 show(w.heap++os)[k]?=_
 rw[aaw a]⟩
theorem aly(w:World)(e:TypeId)(s:ByteArray):Below w.heap.size w (Lib.bytesWorld w e s):=⟨rfl,rfl,rfl,by rw[Lib.bytesWorld_size];omega,λj a=>Lib.bytesWorld_at_old w e s j a⟩
variable(W)
theorem k81(hW:qW W)(n:Nat):mg W 81 (S81 n):=by
 refine⟨enters Tryz.func81 (by kernel_rfl),λγ w u E x y D F C j=>?_⟩;obtain⟨a,_⟩:=x
 match u,C with
 |[M],C=>
  obtain⟨H,N⟩:=C;obtain rfl:=DX H;have j:rz n a=some y:=j;unfold rz at j;split at j
  ·rename_i A;injection j with j;subst j;have I:Calls Tryz.prog 81 #[.int .i64 a] w _:=Any.strconv_Itoa Tryz.aqg a A.1 A.2 w (aol hW F);refine Calls.mono I λe w' J=>?_;obtain⟨rfl,k,os,rfl⟩:=J;exact⟨_,γ,rfl,u3 D (abK w k os) (mr D),Rd.s _ _,trivial,trivial⟩
  ·cases j
theorem auO(n:Nat):mg W 176 (ahN n):=by
 refine⟨enters Tryz.func176 (by kernel_rfl),λγ w u E x y D N C j=>?_⟩;obtain⟨s,a,_⟩:=x
 match u,C with
 |[P,Q],C=>
  obtain⟨F,H,R⟩:=C;obtain rfl:=xi F;obtain rfl:=DX H;have j:A7 n s a=some y:=j;unfold A7 at j;split at j
  ·rename_i A;injection j with j;subst j;obtain⟨c,rfl⟩:=gD A.1;have I:Calls Tryz.prog 176 #[.string ⟨⟨s⟩⟩,.int .i64 (c:Int)] w _:=Any.strings_Repeat Tryz.aqh Tryz.aok ⟨⟨s⟩⟩ c w (by omega) (by
    have:=A.2.2
    show s.length*c<=_
    exact Int.ofNat_le.1 (by rw[Int.natCast_mul];exact this));refine Calls.mono I λe w' J=>?_;obtain⟨rfl,M⟩:=J;exact⟨_,γ,rfl,u3 D M (mr D),Rd.s _ _,trivial,trivial,trivial⟩
  ·cases j
theorem Rn{c:Rc}{m:Option Gp}{a b:TV}{x y:Value}(h:ik a=true)(C:ik b=true)(D:Rd c (lZ m 0 0) a x)(E:Rd c (lZ m 0 1) b y):Rd c m (.dM [a,b]) (.tuple #[x,y]):=by
 refine Rd.dM m [a,b] #[x,y] (λF A=>?_) rfl λj F v e u=>?_
 ·simp only[cO,oP,oQ] at A;rcases A with rfl|rfl
  ·exact h
  ·exact C
 ·match j with
  |0=>injection e with e;injection u with u;subst e;subst u;exact D
  |1=>injection e with e;injection u with u;subst e;subst u;exact E
  |j+2=>cases e
theorem aqi{c:Rc}{m:Option Gp}{a b d:TV}{x y z:Value}(h:ik a=true)(C:ik b=true)(D:ik d=true)(E:Rd c (lZ m 0 0) a x)(F:Rd c (lZ m 0 1) b y)(H:Rd c (lZ m 0 2) d z):Rd c m (.dM [a,b,d]) (.tuple #[x,y,z]):=by
 refine Rd.dM m [a,b,d] #[x,y,z] (λI A=>?_) rfl λj I v e u=>?_
 ·simp only[cO,oP,oQ] at A;rcases A with rfl|rfl|rfl
  ·exact h
  ·exact C
  ·exact D
 ·match j with
  |0=>injection e with e;injection u with u;subst e;subst u;exact E
  |1=>injection e with e;injection u with u;subst e;subst u;exact F
  |2=>injection e with e;injection u with u;subst e;subst u;exact H
  |j+3=>cases e
theorem k94(hW:qW W)(n:Nat):mg W 94 (S94 n):=by
 refine⟨enters Tryz.func94 (by kernel_rfl),λγ w j D x y C E u a=>?_⟩;obtain⟨s,p,_⟩:=x
 match j,u with
 |[N,P],u=>
  obtain⟨F,H,Q⟩:=u;obtain rfl:=xi F;obtain rfl:=xi H;have a:Eh n s p=some y:=a;unfold Eh at a;split at a
  ·rename_i A;injection a with a;subst a;obtain⟨m,I⟩:=hW.mx;have J:Calls Tryz.prog 94 #[.string ⟨⟨s⟩⟩,.string ⟨⟨p⟩⟩] w _:=Any.strings_Cut Tryz.aqe ⟨⟨s⟩⟩ ⟨⟨p⟩⟩ m w A ((Qf hW E (show 1<10 by omega)).trans I);refine Calls.mono J λe w' M=>?_;obtain⟨rfl,k,rfl⟩:=M;exact⟨_,γ,rfl,u3 C (alx _ w k) (mr C),aqi rfl rfl rfl (Rd.s _ _) (Rd.s _ _) (Rd.b _ _),trivial,trivial,trivial⟩
  ·cases a
theorem auP(hW:qW W)(n:Nat):mg W 142 (ahK n):=by
 refine⟨enters Tryz.func142 (by kernel_rfl),λγ w u P x y j M E a=>?_⟩;obtain⟨s,_⟩:=x
 match u,E with
 |[U],E=>
  obtain⟨Q,Y⟩:=E;obtain rfl:=xi Q;have a:LG n s=some y:=a;unfold LG at a;split at a
  ·rename_i R;injection a with a;subst a;cases F:Lib.atoiAll s with
   |ok v=>
    have A:Calls Tryz.prog 142 #[.string ⟨⟨s⟩⟩] w _:=Any.strconv_Atoi_ok Tryz.W4 ⟨⟨s⟩⟩ (by show s.length<=_;omega) v F w;refine Calls.mono A λe w' C=>?_;obtain⟨rfl,S⟩:=C;have D:Below w.heap.size w w':=by
     rcases S with rfl|⟨t,rfl⟩
     ·exact Below.refl _ _
     ·exact aly _ _ _
    exact⟨_,γ,rfl,u3 j D (mr j),Rn rfl rfl (Rd.i _ _ _) (Rd.vQ _),trivial,trivial⟩
   |range=>
    obtain⟨H,pe,J⟩:=hW.e5;have A:Calls Tryz.prog 142 #[.string ⟨⟨s⟩⟩] w _:=Any.strconv_Atoi_range Tryz.W4 ⟨⟨s⟩⟩ (by show s.length<=_;omega) F _ w ((Qf hW M (show 5<10 by omega)).trans J) (.inr ⟨H,pe,rfl⟩);refine Calls.mono A λe w' C=>?_;obtain⟨N,rfl,_,_,D⟩:=C;exact⟨_,γ,rfl,u3 j D (mr j),Rn rfl rfl (Rd.i _ _ _) (Rd.vP _ _ _),trivial,trivial⟩
   |_=>
    obtain⟨H,pe,I⟩:=hW.e4;have A:Calls Tryz.prog 142 #[.string ⟨⟨s⟩⟩] w _:=Any.strconv_Atoi_syntax Tryz.W4 ⟨⟨s⟩⟩ (by show s.length<=_;omega) F _ w ((Qf hW M (show 4<10 by omega)).trans I) (.inr ⟨H,pe,rfl⟩);refine Calls.mono A λe w' C=>?_;obtain⟨N,rfl,_,_,D⟩:=C;exact⟨_,γ,rfl,u3 j D (mr j),Rn rfl rfl (Rd.i _ _ _) (Rd.vP _ _ _),trivial,trivial⟩
  ·cases a
end
end Go.Sd
namespace Go.Proofs
open Go.Shelf
set_option maxRecDepth 100000 in
theorem clone_any{P:Program}{ρ:Ren}(L:SlLaysE0.n41 P ρ)(i0:TypeInfo)(z:Value)(size bytes:Nat)(hi:P.info? (ρ.t 23)=some i0)(hz0:i0.zero=some z)(hz1:i0.size=size)(hz2:i0.bytes=bytes)(hzs:z.cells.size=size)(hsz:0<size)
  (z23:∀w,(Go.sizeOf (ρ.t 23)).run P w=.ok size w)(ad:Addr)(n c:Nat)(news:List Value)(w:World)(hl:news.length=n*size)(hn:n<=maxLen)(hbig:n*bytes<=140737488355328)
  (hc:∀j u,news[j]?=some u->w.cell? (ad.add j)=some u)(h1:∀u∈news,u.oneCell'=true):
  Calls P (ρ.f 41) #[.slice (some ad) n c] w λe w'=>∃v',e=.returned v'/\w'.ownsRow w.heap.size (ρ.t 23) size v' n news/\RowKit.Below w.heap.size w w':=by
 have mixed:=L.mixed;have t4:=L.t4;have a4:=L.a4;have z4:=L.z4;have v4:=L.v4;have t22:=L.t22;have a22:=L.a22;have z22:=L.z22;have v22:=L.v22;have q22:∀(w:World)(a:Option Addr)(n c n' c':Nat),(binOp .eql (ρ.t 22) (.slice a n c) (.slice none n' c')).run P w=.ok (.bool a.isNone) w:=λw a n c n' c'=>Lib.run_eql_slice_nil w _ _ a n c n' c' L.t22;have u22:∀w,Sem.run P (underlying (ρ.t 22)) w=.ok (TypeDesc.slice (ρ.t 23)) w:=run_underlying t22;have A:Aside (∀j u,news[j]?=some u->w.cell? (ad.add j)=some u):=hc;clear hc;obtain⟨_,_,FG⟩:=L.f41
 go_enter FG,SlBodyN.n41_ntmps ρ
 go_wp2_with (at_builtin;refine wpList_append_own _ rfl _ _ (ρ.t 22) rfl w.heap.size (ρ.t 23) i0 z size bytes t22 hi hz0 hz1 hz2 hzs hsz _ _ _ rfl (World.ownsRow_made w #[] 0 (iI _) (CF _) (by simp)) ad n c news rfl ?qc1 ?qc2 ?qc3 ?qc4 ?qc5 ?qc6 ?_)
 case qc1=>exact hl
 case qc2=>exactλj u hj=>Lib.cell?_alloc_some _ (A.out j u hj)
 case qc3=>exact h1
 case qc4=>rw[iu];exact hn
 case qc5=>rw[iu];exact hbig
 case qc6=>simp
 intro v' w1 hown hgrow hnil
 go_wp2
 go_ret
 exact⟨v',rfl,by simpa using hown,((RowKit.Below.refl _ w).alloc (iI _) _).grown hgrow (by simp) (by intro k hk;simp[Value.ownBlock] at hk;omega)⟩
end Go.Proofs
namespace Go.Sd
open Go Go.RowKit
open Go.Ev hiding World Event Rd
open Go.Proofs hiding Enters
section
variable{W:World}{γ:Nat->G}{w w':World}
theorem W5{c:Rc}{i:Nat}{y v:Value}{t:Ty}{e:List (El t)}(h:uF c i y (.val (.sl .l t)) e v):(e=[]/\∃a cap,v=.slice a 0 cap)\/∃b o cap,∃f:Nat->Nat->Value,v=.slice (some ⟨b,o,none⟩) e.length cap/\e.length<=cap/\c.γ b=.im/\
   (∀(r:Nat)x(j:Nat)u,e[r]?=some x->(enc false t x)[j]?=some u->cellAt c.w b (o+r*aA t+j)=some (f r j)/\(f r j).oneCell'=true)/\
   (∀(r:Nat)x(j:Nat)u,e[r]?=some x->(enc false t x)[j]?=some u->Rd c none u (f r j)):=by
 have h:Rd c (some (.aw i,[])) (.bJ t e) v:=by
  cases t<;>exact h
 exact h.ub
theorem aeQ{X:Rt->aZ->Prop}(e:∀b,w.heap.size<=b->γ b=.fr)(h:Below w.heap.size w w'){g:Nat}(u:w.heap.size<=g)(j:g<w'.heap.size)(x:G):bw X γ w (iE γ g x) w' where
 im:=λb a=>by
  have:=mr e b (by rw[a];simp);exact⟨by rw[kh (by omega)];exact a,h.block b this⟩
 at':=λb q p a _=>by
  have:=mr e b (by rw[a];simp);exact⟨by rw[kh (by omega)];exact a,h.block b this⟩
 fr:=λb a h0=>⟨by rw[kh (by omega)];exact h0,h.block b a⟩
 size:=h.size
 new:=λb a=>by
  have:=h.size;rw[kh (by omega)];exact e b (by omega)
 tape:=h.tape
 os:=h.os
 output:=h.output
theorem arY(C:∀b,w.heap.size<=b->γ b=.fr)(h:Below w.heap.size w w'){g:Nat}(E:w.heap.size<=g)(x:G){tv:TV}{v:Value}(y:Rd (bW γ w) none tv v)(m:Option Gp):Rd (bW (iE γ g x) w') m tv v:=by
 have A:∀p,¬ MV p tv:=λp a=>by
  obtain⟨u,D⟩:=y.R8 a
  cases D
 exact Rd.lift (Rd.same (c':=bW (iE γ g x) w') y (λb j=>by
  have j:γ b=.im:=j
  have:=mr C b (by rw[j];simp)
  exact⟨by show iE γ g x b=_;rw[kh (by omega)];exact j,h.block b this⟩) (λ_ _ e=>by cases e) (λ_ _=>rfl) (λp a=>(A p a).elim) λp a=>(A p a.mv).elim) m
def kW(n k:Nat)(f:Nat->Nat->Value):List Value:=(List.range (n*k)).map λj=>f (j/k) (j % k)
theorem u4{n k r j:Nat}{f:Nat->Nat->Value}(u:r<n)(e:j<k):(kW n k f)[r*k+j]?=some (f r j):=by
 have a:r*k+j<n*k:=by
  have:(r+1)*k<=n*k:=od _ (by omega)
  rw[jY] at this
  omega
 unfold kW;rw[ir,Fm a];simp only[jA];rw[Ar r k,Nat.mul_add_div (by omega),aax e,uQ,Nat.mul_add_mod,Fo e]
theorem sI{n k:Nat}{f:Nat->Nat->Value}:(kW n k f).length=n*k:=by simp[kW]
theorem afV{t:Ty}{xs:List (El t)}{f:Nat->Nat->Value}{e:TypeId}{v':Value}(N:Nat)(E:∀b,w.heap.size<=b->γ b=.fr)(h:Below w.heap.size w w')
  (a:w'.ownsRow w.heap.size e (aA t) v' xs.length (kW xs.length (aA t) f))
  (P:∀x:El t,(enc false t x).length=aA t)
  (Q:∀(r:Nat)x(j:Nat)u,xs[r]?=some x->(enc false t x)[j]?=some u->(f r j).oneCell'=true)
  (R:∀(r:Nat)x(j:Nat)u,xs[r]?=some x->(enc false t x)[j]?=some u->Rd (bW γ w) none u (f r j)):
  ∃y,bw (λq _=>∃n,q=.aw n) γ w y w'/\Rd (bW y w') (some (.aw N,[])) (.own false t xs) v':=by
 obtain⟨_,a⟩:=a;rcases a with⟨rfl,S⟩|⟨g,cap,A,rfl,M,F,C,_,U,I⟩
 ·have:xs=[]:=qg.1 S;subst this;exact⟨γ,u3 E h (mr E),Rd.j6 _ _ _ _⟩
 ·have J:g<w'.heap.size:=by
    rcases CK g w'.heap.size with h|h
    ·exact h
    ·rw[CI h] at F;cases F
  refine⟨iE γ g (.at (.aw N) [tg t]),aeQ E h M J _,Rd.kY (.aw N) [] false t xs g 0 cap A e (0,0) f C sK F oC.zero (by omega) (λr x j u hx D=>⟨?_,Q r x j u hx D⟩) λr x j u hx D=>arY E h M _ (R r x j u hx D) _⟩;have Y:r<xs.length:=by
   rcases CK r xs.length with h|h
   ·exact h
   ·rw[pz h] at hx;cases hx
  have Z:j<aA t:=by
   rw[<-P x]
   rcases CK j (enc false t x).length with h|h
   ·exact h
   ·rw[pz h] at D;cases D
  have H:=u4 (f:=f) Y Z;rw[<-I,q8] at H;split at H
  ·have:A[r*aA t+j]?=some (f r j):=by simpa using H
   simp[cellAt,World.cell?,bW,F,this]
  ·cases H
variable(W)
theorem auQ(n:Nat):mg W 133 (ahM n):=by
 refine⟨enters Tryz.func133 (by kernel_rfl),λγ w E Y(x:List aj×aj×Unit)(y:aj)P hG Q A=>?_⟩;obtain⟨xs,p,_⟩:=x
 match E,Q with
 |[v1,v2],Q=>
  obtain⟨Z,h2,h3⟩:=Q;obtain rfl:=xi h2;have A:HN n xs p=some y:=A;unfold HN at A;split at A
  ·rename_i F;injection A with A;subst A;have u:∀{w':World},Below w.heap.size w w'->∃v H,Ending.returned (.string ⟨⟨Lib.join xs p⟩⟩)=.returned v/\bw (λq _=>∃n,q=.aw n) γ w H w'/\uG (bW H w') 2 [.val (.el .str [])] ((Lib.join xs p,()):kt [.val (.el .str [])]) v/\(True/\True/\True):=λI=>
    ⟨_,γ,rfl,u3 P I (mr P),Rd.s _ _,trivial,trivial,trivial⟩
   rcases W5 Z with⟨rfl,a,cap,rfl⟩|⟨b,o,cap,f,rfl,J,N9,gf,gk⟩
   ·have C:Calls Tryz.prog 133 #[.slice a 0 cap,.string ⟨⟨p⟩⟩] w _:=Any.strings_Join_none Tryz.HC Tryz.Hl a cap ⟨⟨p⟩⟩ w;refine Calls.mono C λe w' D=>?_;obtain⟨rfl,rfl⟩:=D;exact u (Below.refl _ _)
   ·have I:b<w.heap.size:=mr P b (by rw[show γ b=.im from N9];simp);have S:∀(j:Nat)x,(xs.map λs=>(⟨⟨s⟩⟩:ByteArray))[j]?=some x->w.cell? ⟨b,o+j,none⟩=some (.string x):=λj x hx=>by
     rw[ir] at hx
     cases N:xs[j]? with
     |none=>rw[N] at hx;cases hx
     |some s=>
      rw[N] at hx
      injection hx with hx
      subst hx
      obtain⟨R,_⟩:=gf j s 0 (.s s) N rfl
      have hv:=(gk j s 0 (.s s) N rfl).pK
      rw[hv] at R
      have:o+j*aA .str+0=o+j:=by simp[aA]
      rw[this] at R
      exact R
    have M:(xs.map λs=>(⟨⟨s⟩⟩:ByteArray)).map (λx=>x.data.toList)=xs:=by
     rw[Jg]
     exact aaD _
    rcases xs with _|⟨s,_|⟨s2,l⟩⟩
    ·have C:Calls Tryz.prog 133 #[.slice (some ⟨b,o,none⟩) 0 cap,.string ⟨⟨p⟩⟩] w _:=Any.strings_Join_none Tryz.HC Tryz.Hl _ cap ⟨⟨p⟩⟩ w;refine Calls.mono C λe w' D=>?_;obtain⟨rfl,rfl⟩:=D;exact u (Below.refl _ _)
    ·have C:Calls Tryz.prog 133 #[.slice (some ⟨b,o,none⟩) 1 cap,.string ⟨⟨p⟩⟩] w _:=Any.strings_Join_one Tryz.HC Tryz.Hl b o cap ⟨⟨s⟩⟩ ⟨⟨p⟩⟩ w (S 0 ⟨⟨s⟩⟩ rfl);refine Calls.mono C λe w' D=>?_;obtain⟨rfl,rfl⟩:=D;have e:Lib.join [s] p=s:=Lib.join_one s p;have U:=u (Below.refl _ w');rw[e] at U;rw[e];exact U
    ·have C:=Any.strings_Join_many Tryz.HC Tryz.Hl b o cap ((s::s2::l).map λs=>(⟨⟨s⟩⟩:ByteArray)) ⟨⟨p⟩⟩ w S I (by simp) (by rw[qf];exact F.1) (by rw[qf];exact J) (by rw[M];exact F.2);rw[M,qf] at C;refine Calls.mono (show Calls Tryz.prog 133 #[.slice (some ⟨b,o,none⟩) (s::s2::l).length cap,.string ⟨⟨p⟩⟩] w _ from C) λe w' D=>?_;obtain⟨rfl,I⟩:=D;exact u I
  ·cases A
end
section
variable{W:World}{γ:Nat->G}{w w':World}
theorem alz(w:World)(o:Obj):Below w.heap.size w (w.alloc o):=(Below.refl _ w).alloc (iI _) _
theorem aqj{l:List ByteArray}{y:List aj}{e:TypeId}(N:Nat)(D:l.map (λx=>x.data.toList)=y)(E:w'.heap[w.heap.size]?=some (.cells (l.map Value.string).toArray e)):Rd (bW (iE γ w.heap.size (.at (.aw N) [tg .str])) w') (some (.aw N,[])) (.own true .str y) (.slice (some ⟨w.heap.size,0,none⟩) l.length l.length):=by
 have J:∀(r:Nat)(x:aj),y[r]?=some x->l[r]?=some ⟨⟨x⟩⟩:=λr x hx=>by
  rw[<-D,ir] at hx
  cases F:l[r]? with
  |none=>rw[F] at hx;cases hx
  |some q=>
   rw[F] at hx
   injection hx with hx
   rw[<-hx]
 have H:y.length=l.length:=by rw[<-D,qf]
 have I:∀(x:aj)(j:Nat)(u:TV),(enc true .str x)[j]?=some u->j=0/\u=.s x:=λx j u a=>by
  match j with
  |0=>injection a with a;exact⟨rfl,a.symm⟩
  |j+1=>cases a
 have A:Rd (bW (iE γ w.heap.size (.at (.aw N) [tg .str])) w') (some (.aw N,[])) (.own true .str y) (.slice (some ⟨w.heap.size,0,none⟩) y.length l.length):=by
  refine Rd.kY (.aw N) [] true .str y w.heap.size 0 l.length _ e (0,0) (λr _=>.string ⟨⟨(y[r]?).getD []⟩⟩) (akA H) sK E oC.zero (by simp[aA]) (λr x j u hx a=>?_) λr x j u hx a=>?_
  ·obtain⟨rfl,rfl⟩:=I x j u a;have hx:y[r]?=some x:=hx;have M:=J r x hx;have:(l.map Value.string)[r]?=some (.string ⟨⟨x⟩⟩):=by rw[ir,M];rfl
   refine⟨?_,rfl⟩;have C:(y[r]?).getD ([]:aj)=x:=by rw[hx];rfl
   rw[C];simp only[cellAt,World.cell?,bW,E];simpa[aA] using this
  ·obtain⟨rfl,rfl⟩:=I x j u a;have hx:y[r]?=some x:=hx;have C:(y[r]?).getD ([]:aj)=x:=by rw[hx];rfl
   rw[C];exact Rd.s _ _
 rw[H] at A;exact A
variable(W)
theorem auR(hW:qW W)(n:Nat):mg W 100 (ahL n):=by
 refine⟨enters Tryz.func100 (by kernel_rfl),λγ w u H(x:aj×aj×Unit)(y:List aj)I J C a=>?_⟩;obtain⟨s,p,_⟩:=x
 match u,C with
 |[U,Y],C=>
  obtain⟨M,N,Z⟩:=C;obtain rfl:=xi M;obtain rfl:=xi N;have a:ud n s p=some y:=a;unfold ud at a;split at a
  ·rename_i A;injection a with a;obtain⟨m,P⟩:=hW.mx;have D:(Lib.splitB ⟨⟨p⟩⟩ 0 (Lib.countB ⟨⟨s⟩⟩ ⟨⟨p⟩⟩) ⟨⟨s⟩⟩).map (λx=>x.data.toList)=y:=by rw[<-a];exact Lib.splitB_data _ _ _ _
   have E:1<=(⟨⟨p⟩⟩:ByteArray).size:=A.2;have j:(Lib.splitB ⟨⟨p⟩⟩ 0 (Lib.countB ⟨⟨s⟩⟩ ⟨⟨p⟩⟩) ⟨⟨s⟩⟩).length=Lib.countB ⟨⟨s⟩⟩ ⟨⟨p⟩⟩+1:=Lib.splitB_all _ E _ _ _ rfl;have F:Calls Tryz.prog 100 #[.string ⟨⟨s⟩⟩,.string ⟨⟨p⟩⟩] w _:=Any.strings_Split Tryz.aqf (by kernel_rfl) ⟨⟨s⟩⟩ ⟨⟨p⟩⟩ m w A.1 ((Qf hW J (show 1<10 by omega)).trans P) E;rw[<-j] at F;refine Calls.mono F λe w' Q=>?_;obtain⟨rfl,rfl⟩:=Q;generalize Lib.splitB ⟨⟨p⟩⟩ 0 (Lib.countB ⟨⟨s⟩⟩ ⟨⟨p⟩⟩) ⟨⟨s⟩⟩=l at D j;have R:=alz w (.cells (l.map Value.string).toArray (Tryz.OZ.t 9));have S:(w.alloc (.cells (l.map Value.string).toArray (Tryz.OZ.t 9))).heap[w.heap.size]?=some (.cells (l.map Value.string).toArray (Tryz.OZ.t 9)):=by
    show(w.heap.push _)[w.heap.size]?=_;simp
   exact⟨_,iE γ w.heap.size (.at (.aw 2) [tg .str]),rfl,aeQ I R (iI _) (by show _<(w.heap.push _).size;simp) _,aqj 2 D S,trivial,trivial,trivial⟩
  ·cases a
theorem QE{t:Ty}{f:Nat}{ρ:Go.Shelf.Ren}(L:Go.Proofs.SlLaysE0.n41 Tryz.prog ρ)(E:TypeInfo)(z:Value)(bytes:Nat)(hi:Tryz.prog.info? (ρ.t 23)=some E)(F:E.zero=some z)(H:E.size=aA t)(I:E.bytes=bytes)(J:z.cells.size=aA t)(C:0<aA t)(qL:bytes<=1000)
  (M:∀w,(Go.sizeOf (ρ.t 23)).run Tryz.prog w=.ok (aA t) w){xs:List (El t)}{v1 Q:Value}(R:∀b,w.heap.size<=b->γ b=.fr)(h1:uF (bW γ w) 0 Q (.val (.sl .l t)) xs v1)(hl:xs.length<4294967296):
  Calls Tryz.prog (ρ.f 41) #[v1] w λe w'=>∃v y,e=.returned v/\bw (λq _=>∃n,q=.aw n) γ w y w'/\Rd (bW y w') (some (.aw 1,[])) (.own false t xs) v:=by
 have xY:∀(a:Option Addr)(cap:Nat),Calls Tryz.prog (ρ.f 41) #[.slice a 0 cap] w λe w'=>∃v y,e=.returned v/\bw (λq _=>∃n,q=.aw n) γ w y w'/\Rd (bW y w') (some (.aw 1,[])) (.own false t []) v:=λa cap=>by
  cases a with
  |none=>
   refine Calls.mono (AnyE.slices_Clone_nil L 0 cap w) λe w' N=>?_
   obtain⟨rfl,rfl⟩:=N
   exact⟨_,γ,rfl,u3 R (Below.refl _ _) (mr R),Rd.j6 _ _ _ _⟩
  |some ad=>
   refine Calls.mono (clone_any L E z (aA t) bytes hi F H I J C M ad 0 cap [] w (by simp) (by omega) (by omega) (by simp) (by simp)) λe w' N=>?_
   obtain⟨S,rfl,A,U⟩:=N
   have Y:w'.ownsRow w.heap.size (ρ.t 23) (aA t) S ([]:List (El t)).length (kW ([]:List (El t)).length (aA t) λ_ _=>.bool true):=by
    have:kW ([]:List (El t)).length (aA t) (λ_ _=>Value.bool true)=[]:=qg.1 (by rw[sI];simp)
    rw[this];exact A
   obtain⟨y,Z,h3⟩:=afV (xs:=([]:List (El t))) 1 R U Y (λx=>ic _ _ _) (λr x j tv hx=>by simp at hx) (λr x j tv hx=>by simp at hx)
   exact⟨S,y,rfl,Z,h3⟩
 rcases W5 h1 with⟨rfl,a,cap,rfl⟩|⟨b,o,cap,g,rfl,ab,N9,gf,gk⟩
 ·exact xY a cap
 ·have P:∀j u,(kW xs.length (aA t) g)[j]?=some u->w.cell? ((⟨b,o,none⟩:Addr).add j)=some u/\u.oneCell'=true:=λj u D=>by
    have aa:j<xs.length*aA t:=by
     rw[<-sI (f:=g)]
     rcases CK j (kW xs.length (aA t) g).length with h|h
     ·exact h
     ·rw[pz h] at D;cases D
    have hm:j % aA t<aA t:=Uw _ C;have Q:j/aA t<xs.length:=by
     rw[Nat.div_lt_iff_lt_mul C];exact aa
    have e:=u4 (f:=g) Q hm;have ej:j/aA t*aA t+j % aA t=j:=by rw[Ar];exact aaz j _
    rw[ej,D] at e;injection e with e;obtain⟨X,hx⟩:∃X,xs[j/aA t]?=some X:=⟨_,cT Q⟩;obtain⟨tv,a8⟩:∃tv,(enc false t X)[j % aA t]?=some tv:=⟨_,cT (by rw[ic];exact hm)⟩;obtain⟨c1,c2⟩:=gf _ _ _ _ hx a8;rw[<-e] at c1 c2;rw[show o+j/aA t*aA t+j % aA t=o+j by omega] at c1;refine⟨?_,c2⟩;rw[Addr.add_lit];exact c1
  refine Calls.mono (clone_any L E z (aA t) bytes hi F H I J C M ⟨b,o,none⟩ xs.length cap (kW xs.length (aA t) g) w sI (by unfold maxLen;omega) (by
   have:xs.length*bytes<=4294967296*1000:=Ux (by omega) qL
   omega) (λj u D=>(P j u D).1) λu hu=>by
   obtain⟨j,D,rfl⟩:=q9 hu
   exact(P j _ (cT D)).2) λe w' N=>?_;obtain⟨S,rfl,A,U⟩:=N;obtain⟨y,Z,h3⟩:=afV 1 R U A (λx=>ic _ _ _) (λr x j tv hx D=>(gf r x j tv hx D).2) gk;exact⟨S,y,rfl,Z,h3⟩
end
section
variable(W:World)
noncomputable def agJ(T:TypeId)(k:Nat):Bool:=match Tryz.prog.info? T with
 |some i=>(match i.zero with|some z=>Nat.beq i.size k&&Nat.beq z.cells.size k|none=>false)&&Nat.ble i.bytes 1000
 |none=>false
theorem Bh{T:TypeId}{k:Nat}(h:agJ T k=true):∃i z,Tryz.prog.info? T=some i/\i.zero=some z/\i.size=k/\z.cells.size=k/\i.bytes<=1000:=by
 unfold agJ at h;cases hi:Tryz.prog.info? T with
 |none=>rw[hi] at h;cases h
 |some i=>
  rw[hi] at h;simp only at h;cases hz:i.zero with
  |none=>rw[hz] at h;simp at h
  |some z=>
   rw[hz] at h;simp only[bo] at h;exact⟨i,z,rfl,hz,gr h.1.1,gr h.1.2,akC h.2⟩
theorem auS(n:Nat):mg W 182 (ahS n):=by
 refine⟨enters Tryz.func182 (by kernel_rfl),λγ w j D(x:List bc×Unit)(y:List bc)E Z u a=>?_⟩;obtain⟨F,_⟩:=x
 match j,u with
 |[H],u=>
  obtain⟨I,h3⟩:=u;have a:KS n F=some y:=a;unfold KS at a;split at a
  ·rename_i A;injection a with a;subst a;obtain⟨i,z,J,M,N,P,Q⟩:=Bh (T:=Tryz.aa3.t 23) (k:=3) (by kernel_rfl);have R:Calls Tryz.prog 182 #[H] w _:=QE (t:=.hold) (f:=182) Tryz.aoh i z i.bytes J M N rfl P (by decide) Q (λw=>by kernel_rfl) E I A;refine Calls.mono R λe w' S=>?_;obtain⟨v,C,rfl,U,Y⟩:=S;exact⟨v,C,rfl,U,Y.G6 rfl,trivial,trivial⟩
  ·cases a
theorem auT(n:Nat):mg W 180 (ahR n):=by
 refine⟨enters Tryz.func180 (by kernel_rfl),λγ w j D(x:List Int×Unit)(y:List Int)E Z u a=>?_⟩;obtain⟨F,_⟩:=x
 match j,u with
 |[H],u=>
  obtain⟨I,h3⟩:=u;have a:KR n F=some y:=a;unfold KR at a;split at a
  ·rename_i A;injection a with a;subst a;obtain⟨i,z,J,M,N,P,Q⟩:=Bh (T:=Tryz.aa2.t 23) (k:=1) (by kernel_rfl);have R:Calls Tryz.prog 180 #[H] w _:=QE (t:=.int .i64) (f:=180) Tryz.aog i z i.bytes J M N rfl P (by decide) Q (λw=>by kernel_rfl) E I A;refine Calls.mono R λe w' S=>?_;obtain⟨v,C,rfl,U,Y⟩:=S;exact⟨v,C,rfl,U,Y.G6 rfl,trivial,trivial⟩
  ·cases a
theorem auU(n:Nat):mg W 126 (ahU n):=by
 refine⟨enters Tryz.func126 (by kernel_rfl),λγ w j D(x:List aY×Unit)(y:List aY)E Z u a=>?_⟩;obtain⟨F,_⟩:=x
 match j,u with
 |[H],u=>
  obtain⟨I,h3⟩:=u;have a:Wg n F=some y:=a;unfold Wg at a;split at a
  ·rename_i A;injection a with a;subst a;obtain⟨i,z,J,M,N,P,Q⟩:=Bh (T:=Tryz.aa5.t 23) (k:=4) (by kernel_rfl);have R:Calls Tryz.prog 126 #[H] w _:=QE (t:=.op) (f:=126) Tryz.aoj i z i.bytes J M N rfl P (by decide) Q (λw=>by kernel_rfl) E I A;refine Calls.mono R λe w' S=>?_;obtain⟨v,C,rfl,U,Y⟩:=S;exact⟨v,C,rfl,U,Y.G6 rfl,trivial,trivial⟩
  ·cases a
theorem auV(n:Nat):mg W 124 (ahT n):=by
 refine⟨enters Tryz.func124 (by kernel_rfl),λγ w j D(x:List dt×Unit)(y:List dt)E Z u a=>?_⟩;obtain⟨F,_⟩:=x
 match j,u with
 |[H],u=>
  obtain⟨I,h3⟩:=u;have a:Wf n F=some y:=a;unfold Wf at a;split at a
  ·rename_i A;injection a with a;subst a;obtain⟨i,z,J,M,N,P,Q⟩:=Bh (T:=Tryz.aa4.t 23) (k:=3) (by kernel_rfl);have R:Calls Tryz.prog 124 #[H] w _:=QE (t:=.stx) (f:=124) Tryz.aoi i z i.bytes J M N rfl P (by decide) Q (λw=>by kernel_rfl) E I A;refine Calls.mono R λe w' S=>?_;obtain⟨v,C,rfl,U,Y⟩:=S;exact⟨v,C,rfl,U,Y,trivial,trivial⟩
  ·cases a
end
end Go.Sd
namespace Go.Proofs
open Go.Shelf Go.RowKit
theorem wpList_append_run{P:Program}{ops:Array Oper}{e:List Oper}{o:Oper}{a:Act}{Q:Exit->Act->World->Prop}{w j:World}(C:o.guard=none)(s x:Operand)(t u:TypeId)
  (D:o.op=.call {callee:=.builtin .append,args:=#[s,x],argTypes:=#[t,u]}){vs y A:Value}(E:a.eval s=vs)(hx:a.eval x=y){ty:TypeId}(F:o.type=ty)
  (H:(Builtin.append_ #[t,u] ty #[vs,y]).run P w=.ok A j)(h:wpList P ops Q e (a.put o.dst A) j):wpList P ops Q (o::e) a w:=
 wpList_plain C λ_ I=>by
  subst F;unfold Oper.wp execOp;simp only[D,resolve,invoke,builtin,Sem.run_bind,Sem.run_pure,Result.andThen_ok,List.map_toArray,mM,wP,E,hx,H];exact I _ _ h
set_option maxHeartbeats 2000000 in
set_option maxRecDepth 100000 in
theorem bwrite_walk{b:Nat}{ao ao':Option Addr}{n0 cap n1 cap':Nat}{s:ByteArray}{w w1 w2:World}(hcc:Calls Tryz.prog 211 #[.pointer (some ⟨b,0,none⟩)] w λe w'=>e=.returned (.tuple #[])/\w'=w1)
  (hb1:w1.heap[b]?=some (.cells #[.pointer (some ⟨b,0,none⟩),.slice ao n0 cap] 181 (0,0)))
  (hap:(Builtin.append_ #[22,9] 22 #[.slice ao n0 cap,.string s]).run Tryz.prog w1=.ok (.slice ao' n1 cap') w2)
  (hb2:w2.heap[b]?=some (.cells #[.pointer (some ⟨b,0,none⟩),.slice ao n0 cap] 181 (0,0))):
  Calls Tryz.prog 170 #[.pointer (some ⟨b,0,none⟩),.string s] w λe w'=>e=.returned (.tuple #[.int .i64 s.size,.nilIface])/\w'=w2.setCell ⟨b,1,none⟩ (.slice ao' n1 cap'):=by
 go_enter Tryz.func170,Tryz.ntmps170
 go_wp2_with (go_at_call 211;refine hcc.mono ?_)
 rintro e w' ⟨rfl,rfl⟩;have c0:w'.cell? ⟨b,0,none⟩=some (.pointer (some ⟨b,0,none⟩)):=by rw[Lib.cell_of_heap hb1];rfl
 have c1:w'.cell? ⟨b,1,none⟩=some (.slice ao n0 cap):=by rw[Lib.cell_of_heap hb1];rfl
 have d0:w2.cell? ⟨b,0,none⟩=some (.pointer (some ⟨b,0,none⟩)):=by rw[Lib.cell_of_heap hb2];rfl
 have d1:w2.cell? ⟨b,1,none⟩=some (.slice ao n0 cap):=by rw[Lib.cell_of_heap hb2];rfl
 have f1:w2.frozen? ⟨b,1,none⟩=false:=Lib.frozen_of_heap hb2 1
 go_wp2_with (at_builtin;refine wpList_append_run rfl _ _ 22 9 rfl rfl rfl rfl hap ?_)
 go_wp2
 go_ret2
 exact⟨rfl,rfl⟩
end Go.Proofs
namespace Go.Sd
open Go Go.RowKit
open Go.Ev hiding World Event Rd
open Go.Proofs hiding Enters
section
variable{W:World}{γ:Nat->G}{w w':World}
def Fa:Cx:=⟨[],λ_=>.un,λ_=>true,true,λ_=>true,λ_=>true,λ_=>[],λ_ _=>none,λ_=>none⟩
theorem ahY(a:∀b,w.heap.size<=b->γ b=.fr):Rel Fa ⟨w.heap.size,γ,w⟩ ⟨sM,vh⟩ ⟨γ,λ_=>0,λ_=>.bool true⟩ w where
 eK k:=by
  rw[show TS.slot ⟨sM,vh⟩ k=.un from US k];exact .un _ _
 boxes k:=by
  rw[show TS.box ⟨sM,vh⟩ k=.none from U5 k];trivial
 aC:=⟨rfl,rfl,rfl,iI _,λb _ h=>⟨h,rfl⟩,λb _ h=>⟨h,rfl⟩,a⟩
 gl i:=.un _ _
 l9 i:=⟨λp h=>(by cases h),λk h=>by cases h⟩
 gb i o h:=by cases h
def qE(γ:Nat->G)(b:Nat):Nat->G:=λi=>if i=b then .at (.box 0) [] else match γ i with
 |.at q (x::p)=>if q=.aw 0/\x=(0,1) then .at (.aw 0) p else .at q (x::p)
 |y=>y
theorem arZ{b:Nat}:qE γ b b=.at (.box 0) []:=aD rfl
theorem aeR{b i:Nat}(a:γ b≠.im)(h:γ i=.im):qE γ b i=.im:=by
 have hi:i≠b:=by rintro rfl;exact a h
 unfold qE;rw[aE hi,h]
theorem aeS{b i:Nat}(a:γ b≠.fr)(h:γ i=.fr):qE γ b i=.fr:=by
 have hi:i≠b:=by rintro rfl;exact a h
 unfold qE;rw[aE hi,h]
theorem aqk{b i:Nat}{q:Rt}{p:aZ}(a:i≠b)(h:γ i=.at q p)(j:∀n,q≠.aw n):qE γ b i=.at q p:=by
 unfold qE;rw[aE a,h];cases p with
 |nil=>rfl
 |cons x p=>exact aE (λe=>j 0 e.1)
theorem aom{b i:Nat}{p:aZ}(a:i≠b)(h:γ i=.at (.aw 0) ((0,1)::p)):qE γ b i=.at (.aw 0) p:=by
 unfold qE;rw[aE a,h];exact aD ⟨rfl,rfl⟩
theorem aql{b:Nat}{y A C:World}{D I:Nat->G}(M:∀i,w.heap.size<=i->γ i=.fr)(E:γ b=.at (.aw 0) [])(P:b<w.heap.size)
  (a:y.heap.size=w.heap.size/\(∀i,i≠b->y.heap[i]?=w.heap[i]?)/\y.tape=w.tape/\y.os=w.os/\y.output=w.output)
  (j:bw (λq _=>∃n,q=.aw n) (qE γ b) y D A)
  (x:C.heap.size=A.heap.size/\(∀i,i≠b->C.heap[i]?=A.heap[i]?)/\C.tape=A.tape/\C.os=A.os/\C.output=A.output)
  (F:∀i,I i=γ i\/∃p,D i=.at (.aw 0) p):bw (λq _=>∃n,q=.aw n) γ w I C where
 im i hi:=by
  have u:i≠b:=by rintro rfl;rw[E] at hi;cases hi
  obtain⟨k1,k2⟩:=j.im i (aeR (by rw[E];simp) hi);refine⟨?_,by rw[x.2.1 i u,k2,a.2.1 i u]⟩;rcases F i with e|⟨p,e⟩
  ·rw[e];exact hi
  ·rw[k1] at e;cases e
 at' i q p hi hx:=by
  have H:∀n,q≠.aw n:=λn e=>hx ⟨n,e⟩;have u:i≠b:=by rintro rfl;rw[E] at hi;cases hi;exact H 0 rfl
  obtain⟨k1,k2⟩:=j.at' i q p (aqk u hi H) hx;refine⟨?_,by rw[x.2.1 i u,k2,a.2.1 i u]⟩;rcases F i with e|⟨J,e⟩
  ·rw[e];exact hi
  ·rw[k1] at e;cases e;exact absurd rfl (H 0)
 fr i hi h0:=by
  have u:i≠b:=by rintro rfl;rw[E] at h0;cases h0
  obtain⟨k1,k2⟩:=j.fr i (by rw[a.1];exact hi) (aeS (by rw[E];simp) h0);refine⟨?_,by rw[x.2.1 i u,k2,a.2.1 i u]⟩;rcases F i with e|⟨J,e⟩
  ·rw[e];exact h0
  ·rw[k1] at e;cases e
 size:=by have:=j.size;rw[a.1] at this;rw[x.1];exact this
 new i hi:=by
  have N:=j.size;rw[a.1] at N;rw[x.1] at hi;rcases F i with e|⟨J,e⟩
  ·rw[e];exact M i (by omega)
  ·rw[j.new i hi] at e;cases e
 tape:=x.2.2.1.trans (j.tape.trans a.2.2.1)
 os:=x.2.2.2.1.trans (j.os.trans a.2.2.2.1)
 output:=x.2.2.2.2.trans (j.output.trans a.2.2.2.2)
theorem acp{b i:Nat}{a:Array Value}{t:TypeId}{v:Value}(h:w.heap[b]?=some (.cells a t (0,0))):((w.setCell ⟨b,i,none⟩ v).heap.size=w.heap.size/\(∀k,k≠b->(w.setCell ⟨b,i,none⟩ v).heap[k]?=w.heap[k]?)/\(w.setCell ⟨b,i,none⟩ v).tape=w.tape/\(w.setCell ⟨b,i,none⟩ v).os=w.os/\(w.setCell ⟨b,i,none⟩ v).output=w.output)/\(w.setCell ⟨b,i,none⟩ v).heap[b]?=some (.cells (a.setIfInBounds i v) t (0,0)):=⟨⟨by simp[World.setCell],λk e=>Below.heap_setCell w ⟨b,i,none⟩ v k e,rfl,rfl,rfl⟩,Go.heap_setCell_same w b i a t v h⟩
theorem L6{d:Bool}{y:Int}{j:Nat}{a:TV}(h:(enc d (.int .u8) y)[j]?=some a):j=0/\a=.i .u8 y:=by
 match j with
 |0=>injection h with h;exact⟨rfl,h.symm⟩
 |j+1=>cases h
theorem aon{a:Type}{l m:List a}{n r:Nat}{x:a}(h:l.take n=m)(e:r<n)(hx:m[r]?=some x):l[r]?=some x:=by
 rw[<-h,q8,aD e] at hx;exact hx
theorem ar0{x:aj}{v:Value}(h:xu γ w (.aw 0) x v)(E:x.length<=140737488355328):Rd (bW γ w) (some (.aw 0,[(0,1)])) (.own true (.int .u8) (bB x)) v:=by
 rcases h E with⟨rfl,rfl⟩|⟨g,cap,u,rfl,F,D,Q,R,h6,S,H⟩
 ·exact Rd.j6 _ _ _ _
 ·have I:(bB x).length=x.length:=by simp[bB]
  have A:Rd (bW γ w) (some (.aw 0,[(0,1)])) (.own true (.int .u8) (bB x)) (.slice (some ⟨g,0,none⟩) (bB x).length cap):=by
   refine Rd.kY (.aw 0) [(0,1)] true (.int .u8) (bB x) g 0 cap u 5 (0,0) (λr _=>.int .u8 ((x[r]?).getD 0).toNat) (by show List.length (α:=Int) (bB x)<=cap;omega) F D oC.zero (by simp[aA];omega) (λr y j J a C=>⟨?_,rfl⟩) λr y j J a C=>?_
   ·obtain⟨rfl,rfl⟩:=L6 C;have a:(x.map λc=>(c.toNat:Int))[r]?=some y:=a;rw[ir] at a;cases e:x[r]? with
    |none=>rw[e] at a;cases a
    |some c=>
     have M:r<x.length:=(da.1 e).1;have N:(x.map λc=>Value.int .u8 c.toNat)[r]?=some (.int .u8 c.toNat):=by rw[ir,e];rfl
     have:=aon H M N;have P:(bW γ w).w.heap[g]?=some (.cells u 5 (0,0)):=D;simp only[cellAt,World.cell?,P,aA];simpa using this
   ·obtain⟨rfl,rfl⟩:=L6 C;have a:(x.map λc=>(c.toNat:Int))[r]?=some y:=a;rw[ir] at a;cases e:x[r]? with
    |none=>rw[e] at a;cases a
    |some c=>
     rw[e] at a;have a:(c.toNat:Int)=y:=gB a;rw[<-a];exact Rd.i _ _ _
  rw[I] at A;exact A
theorem aqm{x:aj}{v:Value}(h:xu γ w (.aw 0) x v)(e:x.length<=140737488355328):w.ownsRow 0 5 1 v x.length (x.map λc=>Value.int .u8 c.toNat):=by
 refine⟨by simp,?_⟩;rcases h e with⟨rfl,rfl⟩|⟨g,cap,a,rfl,A,j,u,C,h6,D,y⟩
 ·exact .inl ⟨rfl,rfl⟩
 ·exact .inr ⟨g,cap,a,rfl,CF _,j,u,h6,by omega,by rw[Uu];exact y⟩
theorem amT{b:Nat}{x s:aj}(hf:∀i,w.heap.size<=i->γ i=.fr)(hB:BA (bW γ w) (.aw 0) b x)(iY:1<=s.length)(hl:x.length+s.length<=140737488355328):
  Calls Tryz.prog 170 #[qw b,.string ⟨⟨s⟩⟩] w λe w'=>∃F,e=.returned (.tuple #[.int .i64 (s.length:Int),.nilIface])/\bw (λq _=>∃n,q=.aw n) γ w F w'/\BA (bW F w') (.aw 0) b (x++s):=by
 obtain⟨p,v,C,A,hp,S⟩:=hB;have S:xu γ w (.aw 0) x v:=S;have C:w.heap[b]?=some (.cells #[p,v] 181 (0,0)):=C;have A:γ b=.at (.aw 0) []:=A;have hr:=ar0 S (by omega);have H:=aqm S (by omega);have Cz:b<w.heap.size:=mr hf b (by rw[A];simp);obtain⟨w1,aa,a,I1⟩:∃w1,(Calls Tryz.prog 211 #[qw b] w λe w'=>e=.returned (.tuple #[])/\w'=w1)/\(w1.heap.size=w.heap.size/\(∀i,i≠b->w1.heap[i]?=w.heap[i]?)/\w1.tape=w.tape/\w1.os=w.os/\w1.output=w.output)/\w1.heap[b]?=some (.cells #[qw b,v] 181 (0,0)):=by
  have c0:w.cell? ⟨b,0,none⟩=some p:=by rw[Lib.cell_of_heap C];rfl
  rcases hp with rfl|rfl
  ·have E:=acp (i:=0) (v:=qw b) C;exact⟨_,Any.Builder_copyCheck_fresh {Tryz.HC with} Tryz.Hl.toX72 b w c0 (show w.shape? b=some (181,2) by simp[World.shape?,C]) (Lib.frozen_of_heap C 0),E.1,E.2⟩
  ·exact⟨w,Any.Builder_copyCheck_used {Tryz.HC with} Tryz.Hl.toX72 b w c0,⟨rfl,λ_ _=>rfl,rfl,rfl,rfl⟩,C⟩
 have Zp:∀i,w1.heap.size<=i->qE γ b i=.fr:=λi hi=>by
  rw[a.1] at hi
  exact aeS (by rw[A];simp) (hf i hi)
 have hx:Rd (Gs.rc Fa ⟨qE γ b,λ_=>0,λ_=>.bool true⟩ w1) (some (.aw 0,[])) (.own true (.int .u8) (bB x)) v:=by
  refine hr.mono _ (λi hi=>?_) (λq I U=>?_) (λk J=>by cases J) (λk J=>by cases J) (λk J=>by cases J)
  ·have hi:γ i=.im:=hi;have Y:i≠b:=by rintro rfl;rw[A] at hi;cases hi
   exact⟨aeR (by rw[A];simp) hi,a.2.1 i Y⟩
  ·simp only[aQ,cZ] at U;obtain⟨rfl,rfl⟩:=U;refine⟨_,_,rfl,λi I hi=>?_⟩;have hi:γ i=.at (.aw 0) ((0,1)::I):=hi;have Y:i≠b:=by rintro rfl;rw[A] at hi;cases hi
   exact⟨aom Y hi,a.2.1 i Y⟩
 obtain⟨i,z,Z,a2,a3,a4,a5⟩:=Bh (T:=5) (k:=1) (by kernel_rfl);have qL:i.bytes=1:=by
  have:(Tryz.prog.info? 5).map (·.bytes)=some 1:=by kernel_rfl
  rw[Z] at this
  injection this
 have T:St Tryz.prog 22 9 (.int .u8) 5 i z:=⟨Tryz.underlying22,Z,a2,a3,a4,.inr Tryz.underlying9⟩;have ab:(bB s).length=s.length:=by simp[bB]
 have nz:(bB x).length=x.length:=by simp[bB]
 have src:Src Tryz.prog (aA (.int .u8)) 9 (.string ⟨⟨s⟩⟩) (bB s).length (Go.byteCells ⟨⟨s⟩⟩) w1:=by
  rw[ab]
  exact Src.ofString w1 Tryz.underlying9 ⟨⟨s⟩⟩
 have lJ:mW (Gs.rc Fa ⟨qE γ b,λ_=>0,λ_=>.bool true⟩ w1) true (.int .u8) (bB s) (Go.byteCells ⟨⟨s⟩⟩):=by
  refine⟨by rw[Go.byteCells_length];show s.length=(bB s).length*1;omega,λr y j tv u hj=>?_⟩
  obtain⟨rfl,rfl⟩:=L6 hj
  refine⟨.int .u8 y,?_,rfl,Rd.i _ _ _⟩
  have u:(s.map λc=>(c.toNat:Int))[r]?=some y:=u
  rw[ir] at u
  show(s.map λb=>Value.int .u8 b.toNat)[r*1+0]?=_
  rw[show r*1+0=r by omega,ir]
  cases hc:s[r]? with
  |none=>rw[hc] at u;cases u
  |some c=>
   rw[hc] at u
   simp only[jA,aQ] at u⊢
   have u:(c.toNat:Int)=y:=gB u
   rw[u]
 obtain⟨v',w2,M,gh,_,dC,a7⟩:=Ld (ty:=22) (γ1:=qE γ b) (g:=⟨qE γ b,λ_=>0,λ_=>.bool true⟩) (ahY Zp) T hx src lJ (by rw[qL];show 2*(List.length (α:=Int) (bB x)+List.length (α:=Int) (bB s))*1<=2^48;omega) (by show List.length (α:=Int) (bB x)+List.length (α:=Int) (bB s)<=2^62;omega);have ad:w1.ownsRow 0 5 1 v x.length (x.map λc=>Value.int .u8 c.toNat):=by
  refine⟨H.1,?_⟩
  rcases H.2 with h|⟨g,cap,D,k1,k2,k3,k4⟩
  ·exact .inl h
  ·refine .inr ⟨g,cap,D,k1,k2,(a.2.1 g ?_).trans k3,k4⟩;rintro rfl;rw[C] at k3;simp at k3
 have am:i.zero=some (.int .u8 0):=by
  have:(Tryz.prog.info? 5).bind (·.zero)=some (.int .u8 0):=by kernel_rfl
  rw[Z] at this
  exact this
 obtain⟨v3,w3,ap,aM,_,_⟩:=Lib.run_append_own_string (P:=Tryz.prog) w1 0 22 9 22 5 i Tryz.underlying22 Tryz.underlying9 Z am a3 qL v x.length _ ad ⟨⟨s⟩⟩ (by show x.length+s.length<=_;unfold maxLen;omega) hl (CF _);obtain⟨rfl,rfl⟩:v3=v'/\w3=w2:=by
  have:=ap.symm.trans gh
  injection this with e1 e2
  exact⟨e1,e2⟩
 obtain⟨ao,cap,rfl,_⟩:=hx.QQ;obtain⟨k1,k2⟩:=a7.at' b (.box 0) [] arZ (λ⟨n,e⟩=>by cases e);have rY:=k2.trans I1;have eF:bB (x++s)=bB x++bB s:=oO;have Y8:(x++s).length=x.length+s.length:=dG;rcases aM.2 with⟨_,h0⟩|⟨g,cap',D,rfl,_,r3,r4,r5,r6,r7⟩
 ·have h0:x.length+s.length=0:=h0;omega
 have r4:x.length+s.length<=cap':=r4;refine Calls.mono (bwrite_walk aa I1 gh rY) λe w' U=>?_;obtain⟨rfl,rfl⟩:=U;have E:=acp (i:=1) (v:=.slice (some ⟨g,0,none⟩) (x.length+s.length) cap') rY;obtain⟨q,I,g2,N,Ia,Q,e,fr,f,hm,hv,jT,eO,_⟩:∃q p b o cap Q e fr,∃f:Nat->Nat->Value,some (Rt.aw 0,([]:aZ))=some (q,p)/\Value.slice (some ⟨g,0,none⟩) (x.length+s.length) cap'=.slice (some ⟨b,o,none⟩) (List.length (α:=Int) (bB x++bB s)) cap/\(List.length (α:=Int) (bB x++bB s))<=cap/\M b=.at q (p++[tg (.int .u8)])/\Q=(Q:Array Value)/\e=(e:TypeId)/\fr=(fr:Nat×Nat)/\f=f:=by
  rcases dC.mR with⟨h0,_⟩|⟨q,I,g2,N,Ia,Q,e,fr,f,hm,hv,jT,eO,_⟩
  ·have h0:bB x++bB s=([]:List Int):=h0;have:=congrArg List.length h0;rw[dG] at this;simp only[jZ] at this;omega
  ·exact⟨q,I,g2,N,Ia,Q,e,fr,f,hm,hv,jT,eO,rfl,rfl,rfl,rfl⟩
 simp only[aQ,cZ] at hm;obtain⟨rfl,rfl⟩:=hm;simp only[Value.slice.injEq,aQ,Addr.mk.injEq] at hv;obtain⟨⟨rfl,_⟩,_⟩:=hv;have Y9:M g=.at (.aw 0) [tg (.int .u8)]:=eO;have R:g≠b:=λe=>by
  rw[e,k1] at Y9
  cases Y9
 refine⟨iE γ g (.at (.aw 0) [(0,1),tg (.int .u8)]),rfl,aql hf A Cz a a7 E.1 (λi=>?_),qw b,_,E.2,?_,.inr rfl,λ_=>.inr ⟨g,cap',D,by rw[Y8],sK,(E.1.2.1 g R).trans r3,by rw[Y8];exact r4,by omega,r5,by omega,?_⟩⟩
 ·by_cases c:i=g
  ·subst c;exact .inr ⟨_,Y9⟩
  ·exact .inl (kh c)
 ·exact(kh (q7 R)).trans A
 ·rw[Y8,oO,<-Uu (x.length+s.length)];exact r7
variable(W)
theorem auW(n:Nat):mg W 170 (ahV n):=by
 refine⟨enters Tryz.func170 (by kernel_rfl),λγ w j E(x:aj×aj×Unit)(y:Int×Bool×aj)F P A a=>?_⟩;obtain⟨c,s,_⟩:=x
 match j,A with
 |[Q,R],A=>
  obtain⟨H,I,S⟩:=A;obtain⟨b,rfl,J⟩:=H;obtain rfl:=xi I;have a:KT n c s=some y:=a;unfold KT at a;split at a
  ·rename_i u;injection a with a;subst a;refine Calls.mono (amT F J u.1 u.2) λe w' M=>?_;obtain⟨C,rfl,N,D⟩:=M;exact⟨_,C,rfl,N,Rn rfl rfl (Rd.i _ _ _) (Rd.vQ _),⟨b,rfl,D⟩,trivial,trivial⟩
  ·cases a
end
end Go.Sd
namespace Go.Proofs
open Go.Shelf Go.RowKit
set_option maxHeartbeats 2000000 in
set_option maxRecDepth 100000 in
theorem bstring_walk{b g cap:Nat}{p:Value}{l:List UInt8}{cur:Array Value}{w:World}(hbk:w.heap[b]?=some (.cells #[p,.slice (some ⟨g,0,none⟩) l.length cap] 181 (0,0)))(hg:w.heap[g]?=some (.cells cur 5 (0,0)))
  (hn:l.length<=cap)(hc0:cap≠0)(hcm:cap<=maxLen)(hcs:cur.size=cap)(htake:cur.toList.take l.length=l.map λc=>Value.int .u8 c.toNat)(h0:l≠[]):
  Calls Tryz.prog 171 #[.pointer (some ⟨b,0,none⟩)] w λe w'=>e=.returned (.string ⟨l.toArray⟩)/\w'=w.drew.freeze ⟨g,0,none⟩ l.length:=by
 have c1:w.drew.cell? ⟨b,1,none⟩=some (.slice (some ⟨g,0,none⟩) l.length cap):=by
  have:w.drew.heap[b]?=some (.cells #[p,.slice (some ⟨g,0,none⟩) l.length cap] 181 (0,0)):=hbk
  rw[Lib.cell_of_heap this];rfl
 have hSD:(Builtin.unsafeSliceData_ #[22] 221 #[.slice (some ⟨g,0,none⟩) l.length cap]).run Tryz.prog w.drew=.ok (.pointer (some ⟨g,0,none⟩)) w.drew:=
  Lib.run_unsafeSliceData_row _ _ _ _ _ _ hc0;have hUS:(Builtin.unsafeString_ #[221,3] 9 #[.pointer (some ⟨g,0,none⟩),.int .i64 l.length]).run Tryz.prog w.drew=.ok (.string ⟨l.toArray⟩) (w.drew.freeze ⟨g,0,none⟩ l.length):=by
  have hg':w.drew.heap[g]?=some (.cells cur 5 (0,0)):=hg
  refine Lib.run_unsafeString_row w.drew 221 3 9 5 Tryz.underlying221 (by kernel_rfl) g cur.size (by simp[World.shape?,hg']) l h0 (by omega) (by unfold maxLen at hcm;omega) ?_
  intro j x hx
  rw[Addr.add_lit]
  have hj:j<l.length:=(da.1 hx).1
  have hm:(l.map λc=>Value.int .u8 c.toNat)[j]?=some (.int .u8 x.toNat):=by rw[ir,hx];rfl
  have:cur.toList[j]?=some (.int .u8 x.toNat):=by
   rw[<-htake,q8,aD hj] at hm
   exact hm
  simp only[World.cell?,hg']
  simpa using this
 go_enter Tryz.func171,Tryz.ntmps171
 go_wp2
 go_region
 all_goals(go_wp2;go_ret;exact⟨rfl,rfl⟩)
end Go.Proofs
namespace Go.Sd
open Go Go.RowKit
open Go.Ev hiding World Event Rd
open Go.Proofs hiding Enters
section
variable{γ:Nat->G}{w w':World}
theorem auX(W:World)(n:Nat):mg W 171 (ahW n):=by
 refine⟨enters Tryz.func171 (by kernel_rfl),λγ w A P(x:aj×Unit)(y:aj×aj)Q hG H j=>?_⟩;obtain⟨c,_⟩:=x
 match A,H with
 |[v1],H=>
  obtain⟨R,h3⟩:=H;obtain⟨b,rfl,p,v,D,E,S,U⟩:=R;have j:PJ n c=some y:=j;unfold PJ at j;split at j
  ·rename_i a;injection j with j;subst j;have D:w.heap[b]?=some (.cells #[p,v] 181 (0,0)):=D;have E:γ b=.at (.aw 0) []:=E;rcases U a.2 with⟨_,h0⟩|⟨g,cap,I,rfl,u,J,e4,e5,Y,Z,e8⟩
   ·have h0:c=[]:=h0;rw[h0] at a;simp at a
   have u:γ g=.at (.aw 0) [(0,1),tg (.int .u8)]:=u;have J:w.heap[g]?=some (.cells I 5 (0,0)):=J;have eO:b≠g:=λe=>by
    rw[<-e,E] at u
    cases u
   have bS:c≠[]:=λe=>by rw[e] at a;simp at a
   refine Calls.mono (bstring_walk D J e4 (by omega) Y Z e8 bS) λe w' he=>?_;obtain⟨rfl,rfl⟩:=he;have F:∀i,i≠g->(w.drew.freeze ⟨g,0,none⟩ c.length).heap[i]?=w.heap[i]?:=λi hi=>by
    unfold World.freeze
    split
    ·rfl
    ·simp only[ayA];rw[aE (λe=>hi e.symm)];rfl
   have C:(w.drew.freeze ⟨g,0,none⟩ c.length).heap.size=w.heap.size:=by
    unfold World.freeze
    split
    ·rfl
    ·simp only[Array.size_modify];rfl
   have M:(w.drew.freeze ⟨g,0,none⟩ c.length).tape=w.tape/\(w.drew.freeze ⟨g,0,none⟩ c.length).os=w.os/\(w.drew.freeze ⟨g,0,none⟩ c.length).output=w.output:=by
    unfold World.freeze
    split<;>exact⟨rfl,rfl,rfl⟩
   refine⟨_,γ,rfl,?_,Rd.s _ _,⟨b,rfl,p,_,(F b eO).trans D,E,S,λN=>?_⟩,trivial⟩
   ·exact{
     im:=λi hi=>⟨hi,F i (λe=>by rw[e,u] at hi;cases hi)⟩
     at':=λi q π hi hx=>⟨hi,F i (λe=>by rw[e,u] at hi;cases hi;exact hx ⟨0,rfl⟩)⟩
     fr:=λi _ h0=>⟨h0,F i (λe=>by rw[e,u] at h0;cases h0)⟩
     size:=by rw[C];exact iI _
     new:=λi hi=>by rw[C] at hi;exact Q i hi
     tape:=M.1
     os:=M.2.1
     output:=M.2.2}
   ·have N:Ye.length<=140737488355328:=N;rw[amS] at N;omega
  ·cases j
end
end Go.Sd
namespace Go.Proofs
open Go.Shelf Go.RowKit Go.Lib
set_option maxHeartbeats 4000000 in
set_option maxRecDepth 1000000 in
theorem del_walk{blk off len cap i j:Nat}{w W1 W2:World}{news:List Value}{A:Addr}{i0:TypeInfo}(hi0:Tryz.prog.info? 50=some i0)(hz1:i0.size=3)(hlt:i<j)(hj:j<=len)(hcap:len<=cap)
  (hA:(if cap=j then some (⟨blk,off,none⟩:Addr) else some ⟨blk,off+j*3,none⟩)=some A)(hsrc:Hid (∀t u,news[t]?=some u->w.drew.cell? (A.add t)=some u))
  (s1:Hid (news.length=(len-j)*3))(s2:Hid (∀u∈news,u.oneCell'=true))(s3:Hid (∀t,t<news.length->(w.drew.cell? ⟨blk,off+i*3+t,none⟩).isSome=true/\w.drew.frozen? ⟨blk,off+i*3+t,none⟩=false))
  (hW:Hid (W1=w.drew.setCells blk (off+i*3) news))
  (hcl:∀ty,(Builtin.clear_ #[46] ty #[.slice (some ⟨blk,off+(i+(len-j))*3,none⟩) (len-(i+(len-j))) (cap-(i+(len-j)))]).run Tryz.prog W1=.ok (.tuple #[]) W2):
  Calls Tryz.prog 189 #[.slice (some ⟨blk,off,none⟩) len cap,.int .i64 i,.int .i64 j] w λe w'=>e=.returned (.slice (some ⟨blk,off,none⟩) (i+(len-j)) cap)/\w'=W2:=by
 have hic:i<=cap:=by omega
 have hjc:j<=cap:=by omega
 have heq:¬ i=j:=by omega
 go_enter Tryz.func189,Tryz.ntmps189
 go_wp2_with fail
 go_region_law (refine step_append_room rfl (.tmp 22) (.tmp 25) 46 rfl 50 i0 3 Tryz.underlying46 hi0 hz1 blk off i cap (by simp[Act.eval,Act.put]) A (len-j) (cap-j) news (by simp[Act.eval,Act.put]) s1.out hsrc.out s2.out (by omega) s3.out ?_;rw[<-hW.out])
 go_wp2
 go_ret
 exact⟨rfl,rfl⟩
end Go.Proofs
namespace Go.Sd
open Go Go.RowKit
open Go.Ev hiding World Event Rd
open Go.Proofs hiding Enters
section
variable{W:World}{γ:Nat->G}{w w':World}
theorem amU{b o c:Nat}{w:World}(x:∀t,t<3->(w.cell? ⟨b,o+t,none⟩).isSome=true)(y:∀t,t<3->w.frozen? ⟨b,o+t,none⟩=false)(ty:TypeId):(Builtin.clear_ #[46] ty #[.slice (some ⟨b,o,none⟩) 1 c]).run Tryz.prog w=.ok (.tuple #[]) (w.setCells b o [.int .i64 0,.int .i64 0,.int .i64 0]):=by
 have u:=run_storeCells_cells (P:=Tryz.prog) b o [.int .i64 0,.int .i64 0,.int .i64 0] 0 w (λj a=>by simpa using x j a) (λj a=>by simpa using y j a) (by simp[Value.oneCell']);rw[uQ] at u;have hz:=Tryz.zeroValue50 w;have e:(Builtin.zeroCells (Value.cells (.agg #[.int .i64 0,.int .i64 0,.int .i64 0])) 1).toList=[Value.int .i64 0,.int .i64 0,.int .i64 0]:=by kernel_rfl
 simp[Builtin.clear_,run_underlying Tryz.underlying46,hz,e,u]
theorem K6{d:Bool}{x:bc}{j:Nat}{a:TV}(h:(enc d .hold x)[j]?=some a):j<3/\∃z,a=.i .i64 z:=by
 match j with
 |0=>injection h with h;exact⟨by omega,_,h.symm⟩
 |1=>injection h with h;exact⟨by omega,_,h.symm⟩
 |2=>injection h with h;exact⟨by omega,_,h.symm⟩
 |j+3=>cases h
variable(W)
theorem auY(n:Nat):mg W 189 (ahQ n):=by
 refine⟨enters Tryz.func189 (by kernel_rfl),λγ w Y aM(x:List bc×Int×Int×Unit)(y:List bc)hf hG hP D=>?_⟩;obtain⟨xs,i,j,_⟩:=x
 match Y,hP with
 |[v1,v2,v3],hP=>
  obtain⟨h1,h2,h3,h4⟩:=hP;obtain rfl:=DX h2;obtain rfl:=DX h3;have h1:Rd (bW γ w) (some (.aw 0,[])) (.own true .hold xs) v1:=h1;have D:DJ n xs i j=some y:=D;unfold DJ at D;split at D
  ·rename_i am;injection D with D;obtain⟨k0,k1,k2,k3⟩:=am;obtain⟨i,rfl⟩:=gD k0;obtain rfl:j=((i+1:Nat):Int):=by omega
   rw[eC,eC] at D;have uN:i+1<=xs.length:=by omega
   rcases h1.mR with⟨h0,_⟩|⟨q,π,b,a,cap,cs,e,fr,f,hm,rfl,hl,Q,R,hu,hs,hc,hr⟩
   ·have h0:xs=[]:=h0;rw[h0] at uN;simp at uN
   simp only[aQ,cZ] at hm;obtain⟨rfl,rfl⟩:=hm;have Q:γ b=.at (.aw 0) [tg .hold]:=Q;have R:w.heap[b]?=some (.cells cs e fr):=R;have hl:xs.length<=cap:=hl;have hs:a+cap*3<=cs.size:=hs;have gf:∀r c,r<xs.length->c<3->cs[a+r*3+c]?=some (f r c)/\(f r c).oneCell'=true:=λr c qM H=>by
    have hx:xs[r]?=some xs[r]:=cT qM
    obtain⟨tv,a8⟩:∃tv,(enc true .hold xs[r])[c]?=some tv:=⟨_,cT (show c<(enc true .hold xs[r]).length from H)⟩
    obtain⟨I,c2⟩:=hc r _ c tv hx a8
    have I:w.cell? ⟨b,a+r*3+c,none⟩=some (f r c):=I
    simp only[World.cell?,R] at I
    exact⟨by simpa using I,c2⟩
   have zV:∀k,k<cs.size->w.frozen? ⟨b,k,none⟩=false:=λk C=>by
    have:=hu k C
    simp only[World.frozen?,R]
    simpa using this
   obtain⟨news,Ec⟩:∃news,news=kW (xs.length-(i+1)) 3 (λr c=>f (i+1+r) c):=⟨_,rfl⟩;have mH:news.length=(xs.length-(i+1))*3:=by rw[Ec];exact sI
   have J:∀t u,news[t]?=some u->t<(xs.length-(i+1))*3/\u=f (i+1+t/3) (t % 3):=λt u E=>by
    have M:t<news.length:=(da.1 E).1
    rw[mH] at M
    have:=u4 (n:=xs.length-(i+1)) (k:=3) (r:=t/3) (j:=t % 3) (f:=λr c=>f (i+1+r) c) (by omega) (by omega)
    rw[show t/3*3+t % 3=t by omega,<-Ec,E] at this
    injection this with this
    exact⟨M,this⟩
   have Z:∀k,k<xs.length*3->w.cell? ⟨b,a+k,none⟩=some (f (k/3) (k % 3)):=λk C=>by
    have:=(gf (k/3) (k % 3) (by omega) (by omega)).1
    rw[show a+k/3*3+k % 3=a+k by omega] at this
    simp only[World.cell?,R]
    simpa using this
   obtain⟨A,hA,aa⟩:∃A:Addr,(if cap=i+1 then(some ⟨b,a,none⟩:Option Addr) else some ⟨b,a+(i+1)*3,none⟩)=some A/\Hid (∀t u,news[t]?=some u->w.drew.cell? (A.add t)=some u):=by
    by_cases h:cap=i+1
    ·refine⟨⟨b,a,none⟩,by rw[aD h],λt u E=>?_⟩;have:=(J t u E).1;omega
    ·refine⟨⟨b,a+(i+1)*3,none⟩,by rw[aE h],λt u E=>?_⟩;obtain⟨S,rfl⟩:=J t u E;rw[Addr.add_lit,show a+(i+1)*3+t=a+((i+1)*3+t) by omega];refine(Z ((i+1)*3+t) (by omega)).trans ?_;rw[show((i+1)*3+t)/3=i+1+t/3 by omega,show((i+1)*3+t) % 3=t % 3 by omega]
   have s2:Hid (∀u∈news,u.oneCell'=true):=λu E=>by
    obtain⟨t,S⟩:=tT E
    obtain⟨M,rfl⟩:=J t u S
    exact(gf _ _ (by omega) (by omega)).2
   have s3:Hid (∀t,t<news.length->(w.drew.cell? ⟨b,a+i*3+t,none⟩).isSome=true/\w.drew.frozen? ⟨b,a+i*3+t,none⟩=false):=λt S=>by
    rw[mH] at S
    refine⟨?_,zV _ (by omega)⟩
    have:=Z (i*3+t) (by omega)
    rw[show a+(i*3+t)=a+i*3+t by omega] at this
    show(w.cell? _).isSome=true
    rw[this];rfl
   obtain⟨U,tN⟩:∃U,U=w.drew.setCells b (a+i*3) news:=⟨_,rfl⟩;have N:=kR b news (a+i*3) w.drew;rw[<-tN] at N;obtain⟨kP,g1,g2,g3,g4⟩:=N.this cs e fr R;have H:∀ty,(Builtin.clear_ #[46] ty #[.slice (some ⟨b,a+(i+(xs.length-(i+1)))*3,none⟩) (xs.length-(i+(xs.length-(i+1)))) (cap-(i+(xs.length-(i+1))))]).run Tryz.prog U=.ok (.tuple #[]) (U.setCells b (a+(i+(xs.length-(i+1)))*3) [.int .i64 0,.int .i64 0,.int .i64 0]):=λty=>by
    rw[show xs.length-(i+(xs.length-(i+1)))=1 by omega]
    refine amU (λt S=>?_) (λt S=>?_) ty
    ·simp only[World.cell?,g1];have:a+(i+(xs.length-(i+1)))*3+t<kP.size:=by omega
     simp[this]
    ·have:=hu (a+(i+(xs.length-(i+1)))*3+t) (by omega);simp only[World.frozen?,g1];simpa using this
   obtain⟨ii,zz,a1,a2,a3,a4,a5⟩:=Bh (T:=50) (k:=3) (by kernel_rfl);have ao:=del_walk a1 a3 (show i<i+1 by omega) uN hl hA aa mH s2 s3 tN H;refine Calls.mono ao λe' w' he=>?_;obtain⟨rfl,rfl⟩:=he;have P:=kR b [.int .i64 0,.int .i64 0,.int .i64 0] (a+(i+(xs.length-(i+1)))*3) U;generalize U.setCells b (a+(i+(xs.length-(i+1)))*3) [.int .i64 0,.int .i64 0,.int .i64 0]=W2 at P;obtain⟨IH,d1,d2,d3,d4⟩:=P.this kP e fr g1;have Cz:b<w.heap.size:=mr hf b (by rw[Q];simp);have uM:y.length=i+(xs.length-(i+1)):=by rw[<-D,dG,lv,oN];omega
   have IA:∀(r:Nat)(x:bc),y[r]?=some x->r<i+(xs.length-(i+1))/\xs[if r<i then r else r+1]?=some x:=λr x hx=>by
    have hr:r<y.length:=(da.1 hx).1
    refine⟨by omega,?_⟩
    rw[<-D] at hx
    by_cases c:r<i
    ·rw[aD c];rw[rb (by rw[lv];omega),q8,aD c] at hx;exact hx
    ·rw[aE c];rw[sB (by rw[lv];omega),lv,An,show i+1+(r-min i xs.length)=r+1 by omega] at hx;exact hx
   refine⟨_,iE γ b (.at (.aw 3) [tg .hold]),rfl,?_,?_,trivial,trivial,trivial,trivial⟩
   ·have vH:∀k,k≠b->W2.heap[k]?=w.heap[k]?:=λk C=>(P.other k C).trans (N.other k C);have ab:W2.heap.size=w.heap.size:=P.size.trans N.size;exact{
     im:=λk C=>by
      have F:k≠b:=λe=>by rw[e,Q] at C;cases C
      exact⟨by rw[kh F];exact C,vH k F⟩
     at':=λk q π C hx=>by
      have F:k≠b:=λe=>by rw[e,Q] at C;cases C;exact hx ⟨0,rfl⟩
      exact⟨by rw[kh F];exact C,vH k F⟩
     fr:=λk _ h0=>by
      have F:k≠b:=λe=>by rw[e,Q] at h0;cases h0
      exact⟨by rw[kh F];exact h0,vH k F⟩
     size:=by rw[ab];exact iI _
     new:=λk C=>by
      rw[ab] at C
      rw[kh (by omega)];exact hf k C
     tape:=P.tape.trans N.tape
     os:=P.os.trans N.os
     output:=P.output.trans N.output}
   ·have ad:Rd (bW (iE γ b (.at (.aw 3) [tg .hold])) W2) (some (.aw 3,[])) (.own true .hold y) (.slice (some ⟨b,a,none⟩) y.length cap):=by
      refine Rd.kY (.aw 3) [] true .hold y b a cap IH e fr (λr c=>f (if r<i then r else r+1) c) (by show List.length (α:=bc) y<=cap;omega) sK d1 (by rw[d2,g2];exact hu) (by show a+cap*3<=_;omega) (λr x c tv hx hj=>?_) λr x c tv hx hj=>?_
      ·obtain⟨qM,nX⟩:=IA r x hx;obtain⟨fT,_⟩:=K6 hj;have ap:(if r<i then r else r+1)<xs.length:=(da.1 nX).1;obtain⟨I,c2⟩:=gf _ c ap fT;refine⟨?_,c2⟩;have hd:(bW (iE γ b (.at (.aw 3) [tg .hold])) W2).w.heap[b]?=some (.cells IH e fr):=d1;simp only[cellAt,World.cell?,hd];have g0:IH[a+r*3+c]?=kP[a+r*3+c]?:=d4 _ (by simp;omega);have g5:kP[a+r*3+c]?=cs[a+(if r<i then r else r+1)*3+c]?:=by
        by_cases cr:r<i
        ·rw[aD cr];exact g4 _ (by omega)
        ·rw[I,aE cr];have:=g3 ((r-i)*3+c) (by omega) (by omega);rw[show a+i*3+((r-i)*3+c)=a+r*3+c by omega] at this;rw[this,Ec,u4 (by omega) fT,show i+1+(r-i)=r+1 by omega]
       have g6:=g0.trans (g5.trans I);simpa[aA] using g6
      ·obtain⟨qM,nX⟩:=IA r x hx;obtain⟨fT,z,rfl⟩:=K6 hj;have:=(hr _ x c _ nX hj).kU;rw[this];exact Rd.i _ _ _
    rw[show y.length=i+(xs.length-(i+1)) from uM] at ad;exact ad
  ·cases D
end
end Go.Sd
namespace Go.Ev
def digs36:ByteArray:=⟨#[48,49,50,51,52,53,54,55,56,57,97,98,99,100,101,102,103,104,105,106,107,108,109,110,111,112,113,114,115,116,117,118,119,120,121,122]⟩
def dig1(v:Nat):UInt8:=([48,49,50,51,52,53,54,55,56,57,97,98,99,100,101,102]:List UInt8).getD v 0
theorem ala:∀i:Fin 16,digs36[i.val]'(by have:=i.isLt;show _<36;omega)=dig1 i.val:=by decide+kernel
structure HexInv(u i v:Nat)(dk:Array UInt8):Prop where
 size:dk.size=65
 lo:50<=i
 hi:i<=65
 lt:v<16^(i-49)
 eq:hexDs 16 u=hexDs (i-49) v++dk.toList.drop i
theorem HexInv.start{u:Nat}(h:u<18446744073709551616){a:Array UInt8}(e:a.size=65):HexInv u 65 u a where
 size:=e
 lo:=by omega
 hi:=by omega
 lt:=by
  show u<16^16;exact h
 eq:=by
  rw[List.drop_eq_nil_of_le (by rw[Jb];omega),Ow]
theorem aaY{l:List UInt8}{i:Nat}(h:i<l.length)(x:UInt8):(l.set i x).drop i=x::l.drop (i+1):=by
 rw[lx (by rw[aaG];exact h),List.getElem_set_self,List.drop_set,aD (by omega)]
theorem HexInv.two{u i v:Nat}{a:Array UInt8}(h:HexInv u i v a)(x:16<=v):51<=i:=by
 have y:=h.lo;refine Jf λj=>?_;have e:i=50:=by omega
 have:=h.lt;rw[e] at this;have:v<16:=this;omega
theorem HexInv.step{u i v:Nat}{j:Array UInt8}(h:HexInv u (i+1) v j)(a:16<=v):HexInv u i (v/16) (j.setIfInBounds i (dig1 (v % 16))) where
 size:=by rw[Om];exact h.size
 lo:=by have:=h.two a;omega
 hi:=by have:=h.hi;omega
 lt:=by
  have x:=h.two a;have e:=h.lt;rw[show i+1-49=(i-49)+1 by omega,yy] at e;exact aay (by rw[Ar];exact e)
 eq:=by
  have x:=h.two a;have y:=h.size;have e:=h.hi;rw[h.eq,show i+1-49=(i-49)+1 by omega,hexDs,aE (by omega),ayJ,aaY (by rw[Jb];omega),kD];rfl
theorem HexInv.last{u i v:Nat}{a:Array UInt8}(h:HexInv u (i+1) v a)(e:v<16):(a.setIfInBounds i (dig1 v)).toList.drop i=hexDs 16 u:=by
 have j:=h.lo;have x:=h.size;have y:=h.hi;rw[h.eq,show i+1-49=(i-49)+1 by omega,hexDs,aD e,ayJ,aaY (by rw[Jb];omega)];rfl
end Go.Ev
namespace Go.Proofs
open Go.Shelf Go.RowKit Go.Lib Go.Sort Go.Ev Go.Sd
theorem tz16_86(w:World)(hT:w.cell? ⟨9,15,none⟩=some (.int .u8 4)):Calls Tryz.prog 286 #[.int .u64 16] w λe w'=>e=.returned (.int .i64 4)/\w'=w:=by
 have key:IntKind.u64.wrap (bits BinOp.and IntKind.u64 16 (IntKind.u64.wrap (-16))*285870213051353865)/288230376151711744=(15:Int):=by decide+kernel
 go_enter Tryz.func286,Tryz.ntmps286
 go_wp2_with (simp only[key])
 go_ret
 exact⟨rfl,rfl⟩
theorem tz16_54(w:World)(hT:w.cell? ⟨9,15,none⟩=some (.int .u8 4)):Calls Tryz.prog 254 #[.int .u64 16] w λe w'=>e=.returned (.int .i64 4)/\w'=w:=by
 go_enter Tryz.func254,Tryz.ntmps254
 go_wp2_with (go_at_call 286;refine(tz16_86 _ hT).mono ?_;rintro e w' ⟨rfl,rfl⟩)
 go_ret
 exact⟨rfl,rfl⟩
theorem pow16_53(w:World):Calls Tryz.prog 253 #[.int .i64 16] w λe w'=>e=.returned (.bool true)/\w'=w:=by
 have key:bits BinOp.and IntKind.i64 16 (16-1)=(0:Int):=by decide+kernel
 have key':bits BinOp.and IntKind.i64 16 15=(0:Int):=by decide+kernel
 go_enter Tryz.func253,Tryz.ntmps253
 go_wp2_with (simp only[key,key'])
 go_ret
 exact⟨rfl,rfl⟩
theorem zero253(w:World):Holds (λ(b:UInt8)=>Value.int .u8 (b.toNat:Int)) (w.alloc (.cells Tryz.zeroCells253 253)) w.heap.size 0 (Array.replicate 65 (0:UInt8)):=λj a=>by
 have u:j<65:=by simpa using a
 refine⟨?_,World.frozen?_alloc_new _ _ _ _⟩;have e:Tryz.zeroCells253=Array.replicate 65 (.int .u8 0):=by rfl
 rw[World.cell?_alloc_new,e,aaB,iu,aD u,aky _ j a];simp
theorem idx36(z:Int)(i:Nat)(hz:z=(i:Int))(hi:i<16)(w:World):
  (Instr.index 9 (.string digs36) (.int .u64 z)).run Tryz.prog w=.ok (.int .u8 ((dig1 i).toNat:Int)) w:=by
 subst hz;have a:digs36.size=36:=rfl;rw[run_index_string w 9 digs36 .u64 _ (by kernel_rfl),Ut ⟨by omega,by rw[a];omega⟩];have e:((i:Int)).toNat=i:=by omega
 simp only[e];rw[ala ⟨i,hi⟩]
theorem below_put(w:World)(o:Obj)(j:Array UInt8)(n:Nat):Below w.heap.size w ((putRow (λ(b:UInt8)=>Value.int .u8 (b.toNat:Int)) (w.alloc o) w.heap.size 0 j).drewN n):=by
 obtain⟨a,_,e⟩:=putRow_grow_new (λ(b:UInt8)=>Value.int .u8 (b.toNat:Int)) w #[o] w.heap.size 0 j (iI _);rw[alloc_eq_grow,e];exact abK w n a
set_option maxHeartbeats 4000000 in
set_option maxRecDepth 100000 in
theorem fbits(u:Nat)(hu:u<18446744073709551616)(w:World)(hs:9<w.heap.size)(hT:w.cell? ⟨9,15,none⟩=some (.int .u8 4)):Calls Tryz.prog 209 #[.slice none 0 0,.int .u64 u,.int .i64 16,.bool false,.bool false] w λe w'=>(∃v,e=.returned (.tuple #[v,.string ⟨⟨hexDs 16 u⟩⟩]))/\Below w.heap.size w w':=by
 go_enter Tryz.func209,Tryz.ntmps209
 go_name_bytes_deep 43 MSG hMSG
 clear hMSG
 go_name_bytes_deep 30 SM hSM
 have eSM:SM=digs36:=by rw[<-hSM];decide+kernel
 subst eSM;clear hSM
 go_wp2_with (first|(go_at_call 253;refine(pow16_53 _).mono ?_;rintro e w' ⟨rfl,rfl⟩)|(go_at_call 254;refine(tz16_54 _ (by first|(rw[World.cell?_alloc_lt (h:=by exact hs)];exact hT)|exact hT|(trace_state;exact(World.cell?_alloc_lt (h:=hs)).trans hT))).mono ?_;rintro e w' ⟨rfl,rfl⟩))
 go_loopw [1,13] (λvu vi wr=>∃(v i n:Nat)(dk:Array UInt8),vu=.int .u64 v/\vi=.int .i64 i/\wr=(putRow (λ(b:UInt8)=>Value.int .u8 (b.toNat:Int)) (w.alloc (.cells Tryz.zeroCells253 253)) w.heap.size 0 dk).drewN n/\Hid (HexInv u i v dk)) (λvu _ _=>(RowKit.intOf vu).toNat)
 case atStart=>exact⟨u,65,0,Array.replicate 65 0,rfl,rfl,(putRow_self _ _ _ _ _ (zero253 w)).symm,Lib.hid (HexInv.start hu (by rw[aav]))⟩
 case round=>
  obtain⟨v,i,n,dk0,rfl,rfl,hw0,HI0⟩:=hrel
  rename World=>W0
  have hs0:=HI0.out.size;have hH0:Holds (λ(b:UInt8)=>Value.int .u8 (b.toNat:Int)) W0 w.heap.size 0 dk0:=by rw[hw0];exact holds_putRow _ _ _ 0 _ dk0 (zero253 w) (by rw[aav];exact hs0)
  obtain⟨j,rfl⟩:∃j,i=j+1:=⟨i-1,by have:=HI0.out.lo;omega⟩;have hj:j<65:=by have:=HI0.out.hi;omega
  obtain⟨g0,hc0⟩:∃g:Int,W0.cell? ⟨w.heap.size,j,none⟩=some (.int .u8 g):=⟨_,by have:=(hH0 j (by omega)).1;rw[iu] at this;exact this⟩;have hf0:W0.frozen? ⟨w.heap.size,j,none⟩=false:=by have:=(hH0 j (by omega)).2;rw[iu] at this;exact this
  have AW0:=Lib.hid hw0;clear hw0 hH0
  by_cases h16:16<=v
  ·have key:bits BinOp.and IntKind.u64 (v:Int) 15=(v:Int) % 16:=by
     rw[show(15:Int)=((15:Nat):Int) from rfl,bits_and_u64_nat v 15 (by have:=HI0.out.lt;have:16^(j+1-49)<=16^16:=As (by omega) (by omega);omega) (by omega),show v&&&15=v % 16 from Nat.and_two_pow_sub_one_eq_mod v 4]
     rfl
   have hX:∀w,(Instr.index 9 (.string digs36) (.int .u64 ((v:Int) % 16))).run Tryz.prog w=.ok (.int .u8 ((dig1 (v % 16)).toNat:Int)) w:=idx36 _ _ (by omega) (by omega);have HI1:=Lib.hid (HI0.out.step h16)
   go_wp2
   refine⟨⟨v/16,j,n,_,by rw[Int.natCast_ediv];rfl,rfl,?_,HI1⟩,?_⟩
   ·rw[AW0.out];have e:=store1_world (w.alloc (.cells Tryz.zeroCells253 253)) w.heap.size 0 dk0 n j (dig1 (v % 16)) (by omega);rw[iu] at e;exact e
   ·show((v:Int)/16).toNat<(v:Int).toNat;omega
  ·have hX:∀w,(Instr.index 9 (.string digs36) (.int .u64 (v:Int))).run Tryz.prog w=.ok (.int .u8 ((dig1 v).toNat:Int)) w:=idx36 _ _ rfl (by omega);have hL:=HI0.out.last (by omega);have hl:(hexDs 16 u).length=65-j:=by rw[<-hL,oN,Jb,Om,hs0]
   have hw1:W0.setCell ⟨w.heap.size,j,none⟩ (.int .u8 ((dig1 v).toNat:Int))=(putRow (λ(b:UInt8)=>Value.int .u8 (b.toNat:Int)) (w.alloc (.cells Tryz.zeroCells253 253)) w.heap.size 0 (dk0.setIfInBounds j (dig1 v))).drewN n:=by
    rw[AW0.out]
    have e:=store1_world (w.alloc (.cells Tryz.zeroCells253 253)) w.heap.size 0 dk0 n j (dig1 v) (by omega)
    rw[iu] at e
    exact e
   have hsl:∀W,(Instr.sliceAt 253 (.pointer (some ⟨w.heap.size,0,none⟩)) (some (.int .i64 (j:Int))) none none).run Tryz.prog W=.ok (.slice (some ⟨w.heap.size,j,none⟩) (65-j) (65-j)) W:=λW=>by
    have ha:Tryz.prog.arrayLen 253=65:=by kernel_rfl
    have hz:Tryz.prog.elem 253=5:=by kernel_rfl
    rw[run_sliceAt_array_l W 253 ⟨w.heap.size,0,none⟩ (by kernel_rfl) .i64 (j:Int) (by omega) (by rw[ha];omega),ha,hz,Tryz.sizeOf5]
    simp[slicedAt]
    rw[aE (by omega),Lib.add_plain,iu]
   have hcv:(convert 22 9 (.slice (some ⟨w.heap.size,j,none⟩) (65-j) (65-j))).run Tryz.prog ((putRow (λ(b:UInt8)=>Value.int .u8 (b.toNat:Int)) (w.alloc (.cells Tryz.zeroCells253 253)) w.heap.size 0 (dk0.setIfInBounds j (dig1 v))).drewN n)=.ok (.string ⟨⟨hexDs 16 u⟩⟩) ((putRow (λ(b:UInt8)=>Value.int .u8 (b.toNat:Int)) (w.alloc (.cells Tryz.zeroCells253 253)) w.heap.size 0 (dk0.setIfInBounds j (dig1 v))).drewN n):=by
    have h:=run_convert_bytes_back (P:=Tryz.prog) ((putRow (λ(b:UInt8)=>Value.int .u8 (b.toNat:Int)) (w.alloc (.cells Tryz.zeroCells253 253)) w.heap.size 0 (dk0.setIfInBounds j (dig1 v))).drewN n) 22 9 5 ⟨w.heap.size,j,none⟩ (65-j) (hexDs 16 u) (by kernel_rfl) (by kernel_rfl) (by kernel_rfl) (λt ht=>by
     rw[Lib.add_plain,World.cell?_drewN]
     have hc:=cell?_putRow (λ(b:UInt8)=>Value.int .u8 (b.toNat:Int)) _ w.heap.size 0 _ (dk0.setIfInBounds j (dig1 v)) (zero253 w) (by rw[aav,Om,hs0]) (j+t) (by rw[Om,hs0];omega)
     rw[iu] at hc
     rw[hc,aky _ (j+t) (by rw[Om,hs0];omega)]
     simp only[<-hL,akO,Array.getElem_toList])
    rw[hl] at h
    exact h
   go_wp2
   go_ret2
   refine⟨⟨_,rfl⟩,?_⟩;exact below_put w _ _ n
theorem fuint_225(u:Nat)(hu:u<18446744073709551616)(w:World)(hs:9<w.heap.size)(hT:w.cell? ⟨9,15,none⟩=some (.int .u8 4)):Calls Tryz.prog 225 #[.int .u64 u,.int .i64 16] w λe w'=>e=.returned (.string ⟨⟨hexDs 16 u⟩⟩)/\Below w.heap.size w w':=by
 go_enter Tryz.func225,Tryz.ntmps225
 go_wp2_with (go_at_call 209;refine(fbits u hu w hs hT).mono ?_;rintro e w' ⟨⟨v,rfl⟩,hB⟩)
 go_ret
 exact⟨rfl,hB⟩
theorem fuint_178(u:Nat)(hu:u<18446744073709551616)(w:World)(hs:9<w.heap.size)(hT:w.cell? ⟨9,15,none⟩=some (.int .u8 4)):Calls Tryz.prog 178 #[.int .u64 u,.int .i64 16] w λe w'=>e=.returned (.string ⟨⟨hexDs 16 u⟩⟩)/\Below w.heap.size w w':=by
 go_enter Tryz.func178,Tryz.ntmps178
 go_wp2_with (go_at_call 225;refine(fuint_225 u hu w hs hT).mono ?_;rintro e w' ⟨rfl,hB⟩)
 go_ret
 exact⟨rfl,hB⟩
end Go.Proofs
namespace Go.Sd
open Go Go.Ev Go.Proofs Go.RowKit Go.Shelf
section
variable{W:World}{γ:Nat->G}{w w':World}
variable(W)
theorem auZ(hW:qW W)(n:Nat):mg W 178 (ahO n):=by
 refine⟨enters Tryz.func178 (by kernel_rfl),λγ w A M x y I N C u=>?_⟩;obtain⟨s,a,_⟩:=x
 match A,C with
 |[Z,v2],C=>
  obtain⟨P,Q,h3⟩:=C;obtain rfl:=DX P;obtain rfl:=DX Q;have u:C4 n s a=some y:=u;unfold C4 at u;split at u
  ·rename_i D;injection u with u;subst u;obtain⟨rfl,E,iY⟩:=D;obtain⟨c,rfl⟩:=gD E;have J:=(Y7 hW N (show 9<10 by omega)).2;have R:w.cell? ⟨9,15,none⟩=some (.int .u8 4):=(aco (j:=0) J 15).trans hW.tz;have F:9<w.heap.size:=by
    refine Jf λH=>?_
    have e:=J
    rw[CI H,jX (show 9<W.heap.size by have:=hW.sz;omega)] at e
    cases e
   have S:Calls Tryz.prog 178 #[.int .u64 (c:Int),.int .i64 16] w _:=fuint_178 c (by omega) w F R;refine Calls.mono S λe w' U=>?_;obtain⟨rfl,Y⟩:=U;exact⟨_,γ,rfl,u3 I Y (mr I),Rd.s _ _,trivial,trivial,trivial⟩
  ·cases u
end
end Go.Sd
namespace Go.Proofs
open Go.Shelf Go.RowKit Go.Lib
set_option maxHeartbeats 4000000 in
set_option maxRecDepth 1000000 in
theorem ins_end{base:Option Addr}{n c:Nat}{bv:Addr}{cv:Nat}{v':Value}{w w':World}(hn:n<=c)
  (hr:(Builtin.append_ #[46,46] 46 #[.slice base n c,.slice (some bv) 1 cv]).run Tryz.prog w=.ok v' w'):
  Calls Tryz.prog 187 #[.slice base n c,.int .i64 n,.slice (some bv) 1 cv] w λe w2=>e=.returned v'/\w2=w':=by
 go_enter Tryz.func187,Tryz.ntmps187
 go_wp2_with (at_builtin;refine wpList_append_run rfl _ _ 46 46 rfl rfl rfl rfl hr ?_)
 all_goals(go_ret;exact⟨rfl,rfl⟩)
set_option maxHeartbeats 4000000 in
set_option maxRecDepth 1000000 in
theorem ins_room{b off n c i vb voff cv:Nat}{x1 x2:Value}{w W1 W2:World}(hi:i<n)(hroom:n+1<=c)(hn63:n<=4611686018427387904)
  (hov:∀lb cb,(callFunc 231 #[.slice (some ⟨vb,voff,none⟩) 1 cv,.slice (some ⟨b,off+(i+1)*3,none⟩) lb cb]).run Tryz.prog w=.ok (.value (.bool false)) w)
  (hcp1:∀ty dc sc,(Builtin.copy_ #[46,46] ty #[.slice (some ⟨b,off+(i+1)*3,none⟩) (n+1-(i+1)) dc,.slice (some ⟨b,off+i*3,none⟩) (n+1-i) sc]).run Tryz.prog w.drew=.ok x1 W1)
  (hcp2:∀ty dc,(Builtin.copy_ #[46,46] ty #[.slice (some ⟨b,off+i*3,none⟩) (n+1-i) dc,.slice (some ⟨vb,voff,none⟩) 1 cv]).run Tryz.prog W1=.ok x2 W2):
  Calls Tryz.prog 187 #[.slice (some ⟨b,off,none⟩) n c,.int .i64 i,.slice (some ⟨vb,voff,none⟩) 1 cv] w λe w2=>e=.returned (.slice (some ⟨b,off,none⟩) (n+1) c)/\w2=W2:=by
 have hz2:¬ ((i:Int)=(n:Int)):=by omega
 have hw1:IntKind.i64.wrap ((i:Int)+1)=(i:Int)+1:=by rw[IntKind.wrap_i64];omega
 have hb1:(0:Int)<=(i:Int)+1:=by omega
 have hin:i<=n:=by omega
 have htn:((i:Int)+1).toNat=i+1:=by omega
 have hb2:¬ (c=i+1):=by omega
 have hb3:(i:Int)<=(n:Int)+1:=by omega
 have hb4:¬ (c=i):=by omega
 go_enter Tryz.func187,Tryz.ntmps187
 go_wp2_with (simp only[hov])
 go_region_law (refine step_copy_runI rfl _ _ 46 46 rfl _ _ (by simp[Act.eval,Act.put]) (by simp[Act.eval,Act.put]) (hcp1 _ (c-(i+1)) (c-i)) ?_)
 go_wp2_with (at_builtin;refine wpList_copy_runI _ rfl _ _ 46 46 rfl _ _ rfl rfl (hcp2 _ _) ?_)
 go_ret
 exact⟨rfl,rfl⟩
set_option maxHeartbeats 4000000 in
set_option maxRecDepth 1000000 in
theorem ins_grow{b off n c i vb voff cv nb c':Nat}{x1 x2:Value}{w W1 W2 W3:World}(hi:i<n)(hnc:n<=c)(hroom:c<n+1)(hc':n+1<=c')(hn63:n<=4611686018427387904)
  (hap:(Builtin.append_ #[46,3] 46 #[.slice (some ⟨b,off,none⟩) i c,.int .i64 ((n:Int)+1-i)]).run Tryz.prog w=.ok (.slice (some ⟨nb,0,none⟩) (n+1) c') W1)
  (hcp2:∀ty,(Builtin.copy_ #[46,46] ty #[.slice (some ⟨nb,i*3,none⟩) (n+1-i) (c'-i),.slice (some ⟨vb,voff,none⟩) 1 cv]).run Tryz.prog W1=.ok x1 W2)
  (hcp1:∀ty,(Builtin.copy_ #[46,46] ty #[.slice (some ⟨nb,(i+1)*3,none⟩) (n+1-(i+1)) (c'-(i+1)),.slice (some ⟨b,off+i*3,none⟩) (n-i) (c-i)]).run Tryz.prog W2.drew=.ok x2 W3):
  Calls Tryz.prog 187 #[.slice (some ⟨b,off,none⟩) n c,.int .i64 i,.slice (some ⟨vb,voff,none⟩) 1 cv] w λe w2=>e=.returned (.slice (some ⟨nb,0,none⟩) (n+1) c')/\w2=W3:=by
 have hz2:¬ ((i:Int)=(n:Int)):=by omega
 have hw1:IntKind.i64.wrap ((i:Int)+1)=(i:Int)+1:=by rw[IntKind.wrap_i64];omega
 have hb1:(0:Int)<=(i:Int)+1:=by omega
 have hin:i<=n:=by omega
 have htn:((i:Int)+1).toNat=i+1:=by omega
 have hb2:¬ (c'=i+1):=by omega
 have hb3:(i:Int)<=(n:Int)+1:=by omega
 have hb4:¬ (c=i):=by omega
 have hb5:¬ (c'=i):=by omega
 go_enter Tryz.func187,Tryz.ntmps187
 go_wp2_with (at_builtin;first|refine wpList_append_run rfl _ _ 46 3 rfl rfl rfl rfl hap ?_|refine wpList_copy_runI _ rfl _ _ 46 46 rfl _ _ rfl rfl (hcp2 _) ?_)
 go_region_law (refine step_copy_runI rfl _ _ 46 46 rfl _ _ (by simp[Act.eval,Act.put]) (by simp[Act.eval,Act.put]) (hcp1 _) ?_)
 go_wp2
 go_ret
 exact⟨rfl,rfl⟩
end Go.Proofs
namespace Go.Sd
open Go Go.RowKit
open Go.Ev hiding World Event Rd
open Go.Proofs hiding Enters
section
variable{W:World}{γ:Nat->G}{w w':World}
theorem Qg{P:Program}(w:World)(F I ty e:TypeId)(b o x C:Nat)(a:Addr)(y D k:Nat)(u:List Value)
  (J:P.underlying F=some (.slice e))(H:(P.info? e).map (·.size)=some 3)(M:k=Nat.min y x)(N:u.length=k*3)
  (A:∀j v,u[j]?=some v->w.cell? (a.add j)=some v)(Q:∀j,j<u.length->(w.cell? ⟨b,o+j,none⟩).isSome=true)(R:∀j,j<u.length->w.frozen? ⟨b,o+j,none⟩=false)(S:∀v∈u,v.oneCell'=true):
  (Builtin.copy_ #[F,I] ty #[.slice (some ⟨b,o,none⟩) x C,.slice (some a) y D]).run P w=.ok (goInt k) (w.setCells b o u):=by
 have U:=run_loadCells_list (P:=P) w a u A;have Y:=run_storeCells_cells (P:=P) b o u 0 w (by simpa using Q) (by simpa using R) S;cases E:P.info? e with
 |none=>simp[E] at H
 |some i=>
  have hi:i.size=3:=by simpa[E] using H
  simp[Builtin.copy_,run_underlying J,Builtin.lenOf,Builtin.firstCells,sizeOf,typeInfo,E,hi,<-M,<-N,U,Y]
theorem ak5{P:Program}(w:World)(j Q e:TypeId)(J:P.underlying j=some (.slice e))(size:Nat)(hz:∀w,(Go.sizeOf e).run P w=.ok size w)
  (a b:Addr)(x R y cb:Nat)(M:a.block≠b.block)(S U:TypeId)(kA N:Nat)
  (A:w.shape? a.block=some (S,kA))(Y:w.shape? b.block=some (U,N))(C:kA≠0)
  (D:w.frozen? b=false)(E:w.frozen? {block:=b.block,off:=N}=false):
  (Extern.SlicesOverlaps.overlaps #[j,j] #[Q] #[.slice (some a) x R,.slice (some b) y cb]).run P w=.ok (.bool false) w:=by
 have Z:(a.block !=b.block)=true:=by simpa using M
 have F:(a.block==b.block)=false:=by simpa using M
 change Sem.run P (α:=Value) (do
  let some t:=(#[j,j]:Array TypeId)[0]?|stuck "slices.overlaps: no parameter types"
  let .slice u<-underlying t|stuck "slices.overlaps: slice type expected"
  let size<-sizeOf u
  match(some a:Option Addr),(some b:Option Addr) with
  |some a,some b=>
   if x=0\/y=0\/size=0 then pure (Value.bool false)
   else if a.block !=b.block&&(<-frozen a)&&(<-frozen b) then unsupported .addressObserved
   else do
    if a.block !=b.block then do
     noView a;noView b
     if<-mayBeOne a b then return Value.bool ((<-choose _)==1)
    pure (Value.bool (a.block==b.block&&a.off<b.off+y*size&&b.off<a.off+x*size))
  |_,_=>pure (Value.bool false)) w=_
 by_cases h0:x=0\/y=0\/size=0
 ·simp[run_underlying J,hz,h0]
 ·cases kA with
  |zero=>exact absurd rfl C
  |succ kA=>
   cases H:w.frozen? a<;>cases I:w.frozen? {block:=a.block,off:=kA+1}<;>simp[run_underlying J,hz,h0,Z,F,frozen,noView,viewAt,mayBeOne,stringish,shape,Sem.run,A,Y,D,E,H,I]
def tvV:TV->Value|.i k z=>.int k z|_=>undef
def hC(a:List bc)(r c:Nat):Value:=match a[r]? with
 |some x=>tvV ((enc true .hold x).getD c .un)
 |none=>undef
theorem RP{d:Bool}{a:List bc}{r c:Nat}{x:bc}(hx:a[r]?=some x)(e:c<3):∃z,(enc d .hold x)[c]?=some (.i .i64 z)/\hC a r c=.int .i64 z:=by
 simp only[hC,hx]
 match c,e with
 |0,_=>exact⟨_,rfl,rfl⟩
 |1,_=>exact⟨_,rfl,rfl⟩
 |2,_=>exact⟨_,rfl,rfl⟩
theorem D3{a:List bc}{r c:Nat}(e:r<a.length)(j:c<3):(hC a r c).oneCell'=true:=by
 obtain⟨z,_,h⟩:=RP (d:=true) (cT e) j;rw[h];rfl
theorem Vf{rc:Rc}{d:Bool}{e:List bc}{M:Nat->Nat->Option Gp}{b a:Nat}{f:Nat->Nat->Value}
  (A:∀(r:Nat)(x:bc)(j:Nat)u,e[r]?=some x->(enc d .hold x)[j]?=some u->cellAt rc.w b (a+r*3+j)=some (f r j)/\(f r j).oneCell'=true)
  (C:∀(r:Nat)(x:bc)(j:Nat)u,e[r]?=some x->(enc d .hold x)[j]?=some u->Rd rc (M r j) u (f r j)):
  ∀r c,r<e.length->c<3->rc.w.cell? ⟨b,a+r*3+c,none⟩=some (hC e r c):=λr c D E=>by
 have hx:=cT D;obtain⟨z,y,F⟩:=RP (d:=d) hx E;rw[F,<-(C r _ c _ hx y).kU];exact(A r _ c _ hx y).1
theorem Wi{γ':Nat->G}{A:World}{y:List bc}{b off cap:Nat}{a:Array Value}{e:TypeId}{fr:Nat×Nat}(F:y.length<=cap)(H:γ' b=.at (.aw 3) [tg .hold])(D:A.heap[b]?=some (.cells a e fr))(I:oC .hold a.size fr)(J:off+cap*3<=a.size)
  (M:∀r c,r<y.length->c<3->a[off+r*3+c]?=some (hC y r c)):Rd (bW γ' A) (some (.aw 3,[])) (.own true .hold y) (.slice (some ⟨b,off,none⟩) y.length cap):=by
 refine Rd.kY (.aw 3) [] true .hold y b off cap a e fr (hC y) F H D I J (λr x c N hx j=>?_) λr x c N hx j=>?_
 ·have E:r<y.length:=(da.1 hx).1;obtain⟨u,_⟩:=K6 j;refine⟨?_,D3 E u⟩;have P:(bW γ' A).w.heap[b]?=some (.cells a e fr):=D;simp only[cellAt,World.cell?,P];simpa[aA] using M r c E u
 ·obtain⟨u,z,rfl⟩:=K6 j;obtain⟨S,Q,R⟩:=RP (d:=true) hx u;have C:=Q.symm.trans j;injection C with C;rw[R,<-C];exact Rd.i _ _ _
theorem afX{a:List bc}{v:bc}{i r c:Nat}(hi:i<=a.length):hC (a.take i++[v]++a.drop i) r c=if r<i then hC a r c else if r=i then hC [v] 0 c else hC a (r-1) c:=by
 have e:(a.take i++[v]++a.drop i)[r]?=if r<i then a[r]? else if r=i then some v else a[r-1]?:=by
  by_cases h:r<i
  ·rw[aD h,kD,rb (by rw[lv];omega),q8,aD h]
  ·rw[aE h,kD,sB (by rw[lv];omega),lv]
   by_cases j:r=i
   ·rw[aD j,j,show i-min i a.length=0 by omega];rfl
   ·rw[aE j,sB (by simp;omega),An]
    congr 1
    simp;omega
 unfold hC;rw[e]
 by_cases h:r<i
 ·simp only[aD h]
 ·by_cases j:r=i
  ·simp only[aE h,aD j,tU]
  ·simp only[aE h,aE j]
end
section
variable{W:World}{γ:Nat->G}{w w':World}
theorem aoo{e:Nat->G}{g:Nat}(st:bw (λq _=>∃n,q=.aw n) γ w e w')(x:e g=.at (.aw 0) [tg .hold]):bw (λq _=>∃n,q=.aw n) γ w (iE e g (.at (.aw 3) [tg .hold])) w' where
 im:=λb j=>by
  obtain⟨a,u⟩:=st.im b j;have:b≠g:=by rintro rfl;rw[x] at a;cases a
  exact⟨by rw[kh this];exact a,u⟩
 at':=λb q p j hx=>by
  obtain⟨a,u⟩:=st.at' b q p j hx;have:b≠g:=by rintro rfl;rw[x] at a;cases a;exact hx ⟨0,rfl⟩
  exact⟨by rw[kh this];exact a,u⟩
 fr:=λb j h0=>by
  obtain⟨a,u⟩:=st.fr b j h0;have:b≠g:=by rintro rfl;rw[x] at a;cases a
  exact⟨by rw[kh this];exact a,u⟩
 size:=st.size
 new:=λb j=>by
  have a:=st.new b j;have:b≠g:=by rintro rfl;rw[x] at a;cases a
  rw[kh this];exact a
 tape:=st.tape
 os:=st.os
 output:=st.output
theorem acq{n k t:Nat}{f:Nat->Nat->Value}{u:Value}(e:0<k)(h:(kW n k f)[t]?=some u):t<n*k/\t/k<n/\t % k<k/\u=f (t/k) (t % k):=by
 have a:t<n*k:=by
  have:=(da.1 h).1
  rwa[sI] at this
 have j:t/k<n:=aay (by rw[Ar];exact a);refine⟨a,j,Uw _ e,?_⟩;have:=u4 (f:=f) j (Uw t e);rw[Ar,aaz,h] at this;exact gB this
theorem RQ:(Tryz.prog.info? 50).map (·.size)=some 3:=by kernel_rfl
theorem HY{n:Nat}{f:Nat->Nat->Value}{b o:Nat}(h:∀r c,r<n->c<3->w.cell? ⟨b,o+r*3+c,none⟩=some (f r c)):∀j v,(kW n 3 f)[j]?=some v->w.cell? ((⟨b,o,none⟩:Addr).add j)=some v:=λj v a=>by
 obtain⟨x,e,u,rfl⟩:=acq (by omega) a;have:=h _ _ e u;rw[show o+j/3*3+j % 3=o+j by omega] at this;rw[Addr.add_lit];exact this
theorem KF{n:Nat}{f:Nat->Nat->Value}(h:∀r c,r<n->c<3->(f r c).oneCell'=true):∀v∈kW n 3 f,v.oneCell'=true:=λv a=>by
 obtain⟨t,e⟩:=tT a;obtain⟨x,j,u,rfl⟩:=acq (by omega) e;exact h _ _ j u
theorem atl{a j b o cv:Nat}{x:Array Value}{e:TypeId}{fr:Nat×Nat}{u:Value}(H:a≠b)(y:w.cell? ⟨a,j,none⟩=some u)(A:w.heap[b]?=some (.cells x e fr))(F:oC .hold x.size fr)(I:o<x.size):
  ∀C cb,(callFunc 231 #[.slice (some ⟨a,j,none⟩) 1 cv,.slice (some ⟨b,o,none⟩) C cb]).run Tryz.prog w=.ok (.value (.bool false)) w:=λC cb=>by
 have J:=F.mrk rfl;have M:=F o I;obtain⟨kA,D,E⟩:∃kA D,w.shape? a=some (D,kA+1):=by
  simp only[World.cell?] at y
  split at y
  ·rename_i c N S P;have Q:j<c.size:=by
    rcases CK j c.size with h|h
    ·exact h
    ·simp[CI h] at y
   exact⟨c.size-1,N,by simp only[World.shape?,P];rw[show c.size-1+1=c.size by omega]⟩
  ·cases y
 have R:w.shape? b=some (e,x.size):=by simp only[World.shape?,A]
 obtain⟨lo,hi⟩:=fr;rw[run_callFunc_extern Tryz.func231 (by kernel_rfl) (by kernel_rfl) (by kernel_rfl) (e:=Extern.SlicesOverlaps.overlaps #[46,46] #[4]) (by kernel_rfl),
  ak5 w 46 4 50 Tryz.underlying46 3 Tryz.sizeOf50 ⟨a,j,none⟩ ⟨b,o,none⟩ 1 cv C cb H D e (kA+1) x.size E R (by omega)
   (by simp only[World.frozen?,A];simpa using M) (by simp only[World.frozen?,A];simpa using J)];rfl
end
section
variable{W:World}{γ:Nat->G}{w w':World}
theorem au4{x:List bc}{v:bc}{Y:Value}{J M cv:Nat}(hf:∀b,w.heap.size<=b->γ b=.fr)(Z:Rd (bW γ w) (some (.aw 0,[])) (.own true .hold x) Y)
  (yu:∀r c,r<1->c<3->w.cell? ⟨J,M+r*3+c,none⟩=some (hC [v] r c))(hn:x.length<4294967296):
  Calls Tryz.prog 187 #[Y,.int .i64 (x.length:Nat),.slice (some ⟨J,M,none⟩) 1 cv] w λe w'=>∃u D,e=.returned u/\bw (λq _=>∃n,q=.aw n) γ w D w'/\Rd (bW D w') (some (.aw 3,[])) (.own true .hold (x++[v])) u:=by
 obtain⟨a,cap,rfl,A⟩:=Z.QQ;have A:x.length<=cap:=A;obtain⟨i,z,a1,a2,a3,a4,a5⟩:=Bh (T:=50) (k:=3) (by kernel_rfl);have hx:Rd (Gs.rc Fa ⟨γ,λ_=>0,λ_=>.bool true⟩ w) (some (.aw 0,[])) (.own true .hold x) (.slice a x.length cap):=
  Rd.same (c':=Gs.rc Fa ⟨γ,λ_=>0,λ_=>.bool true⟩ w) Z (λb P=>⟨P,rfl⟩) (λq p he b π P=>⟨P,rfl⟩) (λk E=>by cases E) (λk E=>by cases E) (λk E=>by cases E);have T:St Tryz.prog 46 46 .hold 50 i z:=⟨Tryz.underlying46,a1,a2,a3,a4,.inl ⟨_,Tryz.underlying46⟩⟩;have src:Src Tryz.prog (aA .hold) 46 (.slice (some ⟨J,M,none⟩) 1 cv) 1 (kW 1 3 (hC [v])) w:=
  Src.ofSlice w Tryz.underlying46 ⟨J,M,none⟩ 1 cv _ (by rw[sI];rfl) (HY yu) (KF λr c C Q=>D3 (by simpa using C) Q);have lJ:mW (Gs.rc Fa ⟨γ,λ_=>0,λ_=>.bool true⟩ w) true .hold [v] (kW 1 3 (hC [v])):=⟨by rw[sI];rfl,λr y j tv hy hj=>by
  obtain⟨F,z,rfl⟩:=K6 hj
  have C:r<1:=(da.1 hy).1
  obtain⟨z',e1,e2⟩:=RP (d:=true) hy F
  have:=e1.symm.trans hj
  injection this with this
  cases this
  have e3:hC [v] r j=.int .i64 z:=e2
  exact⟨hC [v] r j,u4 C F,D3 C F,(show Rd _ _ _ (hC [v] r j) from by rw[e3];exact Rd.i _ _ _)⟩⟩;obtain⟨v',w2,H,gh,_,dC,a7⟩:=Ld (ty:=46) (γ1:=γ) (g:=⟨γ,λ_=>0,λ_=>.bool true⟩) (ahY hf) T hx src lJ
  (by show 2*(List.length (α:=bc) x+1)*i.bytes<=2^48
      have:2*(List.length (α:=bc) x+1)*i.bytes<=2*4294967296*1000:=Ux (by omega) a5
      omega) (by show List.length (α:=bc) x+1<=2^62;omega);refine Calls.mono (ins_end A gh) λe' w' he=>?_;obtain⟨rfl,rfl⟩:=he;rcases dC.mR with⟨h0,_⟩|⟨q,π,g2,R,Ia,cs,e,fr,f,hm,rfl,jT,S,N,hu,hs,Q,C⟩
 ·have h0:x++[v]=[]:=h0;simp at h0
 simp only[aQ,cZ] at hm;obtain⟨rfl,rfl⟩:=hm;have S:H g2=.at (.aw 0) [tg .hold]:=S;have N:w'.heap[g2]?=some (.cells cs e fr):=N;have U:=Vf (rc:=Gs.rc Fa ⟨H,λ_=>0,λ_=>.bool true⟩ w') Q C;refine⟨_,_,rfl,aoo a7 S,Wi jT sK N hu hs λr c C F=>?_⟩;have I:w'.cell? ⟨g2,R+r*3+c,none⟩=some (hC (x++[v]) r c):=U r c C F;simp only[World.cell?,N] at I;simpa using I
theorem au5{x:List bc}{v:bc}{i E M cv b a cap:Nat}{J:Array Value}{e:TypeId}{fr:Nat×Nat}(hf:∀b,w.heap.size<=b->γ b=.fr)
  (U:γ b=.at (.aw 0) [tg .hold])(N:w.heap[b]?=some (.cells J e fr))(hl:x.length+1<=cap)(Y:oC .hold J.size fr)(hs:a+cap*3<=J.size)
  (gf:∀r c,r<x.length->c<3->w.cell? ⟨b,a+r*3+c,none⟩=some (hC x r c))(bS:E≠b)
  (yu:∀r c,r<1->c<3->w.cell? ⟨E,M+r*3+c,none⟩=some (hC [v] r c))(hi:i<x.length)(hn:x.length<4294967296):
  Calls Tryz.prog 187 #[.slice (some ⟨b,a,none⟩) x.length cap,.int .i64 (i:Nat),.slice (some ⟨E,M,none⟩) 1 cv] w λe w'=>∃u γ',e=.returned u/\bw (λq _=>∃n,q=.aw n) γ w γ' w'/\Rd (bW γ' w') (some (.aw 3,[])) (.own true .hold (x.take i++[v]++x.drop i)) u:=by
 have zV:∀k,k<J.size->w.frozen? ⟨b,k,none⟩=false:=λk A=>by
  have:=Y k A
  simp only[World.frozen?,N]
  simpa using this
 have X6:∀k,k<J.size->(w.cell? ⟨b,k,none⟩).isSome=true:=λk A=>by
  simp only[World.cell?,N]
  simp[A]
 have v0:w.cell? ⟨E,M,none⟩=some (hC [v] 0 0):=by simpa using yu 0 0 (by omega) (by omega)
 have aa:=atl (cv:=cv) (o:=a+(i+1)*3) bS v0 N Y (by omega);obtain⟨n1,Z⟩:∃n1,n1=kW (x.length-i) 3 (λr c=>hC x (i+r) c):=⟨_,rfl⟩;have Oa:n1.length=(x.length-i)*3:=by rw[Z];exact sI
 have CA:(kW 1 3 (hC [v])).length=1*3:=sI;obtain⟨W1,tN⟩:∃W1,W1=w.drew.setCells b (a+(i+1)*3) n1:=⟨_,rfl⟩;have P:∀ty dc sc,(Builtin.copy_ #[46,46] ty #[.slice (some ⟨b,a+(i+1)*3,none⟩) (x.length+1-(i+1)) dc,.slice (some ⟨b,a+i*3,none⟩) (x.length+1-i) sc]).run Tryz.prog w.drew=.ok (goInt (x.length-i:Nat)) W1:=λty dc sc=>by
  rw[tN]
  refine Qg w.drew 46 46 ty 50 b (a+(i+1)*3) _ dc ⟨b,a+i*3,none⟩ _ sc (x.length-i) n1 Tryz.underlying46 RQ (by simp only[aaH];split<;>omega) Oa ?_ (λj hj=>X6 _ (by omega)) (λj hj=>zV _ (by omega)) ?_
  ·rw[Z];refine HY (w:=w.drew) λr c F H=>?_;have:=gf (i+r) c (by omega) H;rw[show a+(i+r)*3+c=a+i*3+r*3+c by omega] at this;exact this
  ·rw[Z];exact KF λr c F H=>D3 (by omega) H
 have C:=kR b n1 (a+(i+1)*3) w.drew;rw[<-tN] at C;obtain⟨kP,g1,g2,g3,g4⟩:=C.this J e fr N;obtain⟨W2,Ob⟩:∃W2,W2=W1.setCells b (a+i*3) (kW 1 3 (hC [v])):=⟨_,rfl⟩;have Q:∀ty dc,(Builtin.copy_ #[46,46] ty #[.slice (some ⟨b,a+i*3,none⟩) (x.length+1-i) dc,.slice (some ⟨E,M,none⟩) 1 cv]).run Tryz.prog W1=.ok (goInt (1:Nat)) W2:=λty dc=>by
  rw[Ob]
  refine Qg W1 46 46 ty 50 b (a+i*3) _ dc ⟨E,M,none⟩ 1 cv 1 _ Tryz.underlying46 RQ (by simp only[aaH];split<;>omega) CA (HY λr c F H=>?_) (λj hj=>?_) (λj hj=>?_) (KF λr c F H=>D3 F H)
  ·rw[<-yu r c F H];exact mN (C.other E bS)
  ·simp only[World.cell?,g1];have:a+i*3+j<kP.size:=by omega
   simp[this]
  ·have:=Y (a+i*3+j) (by omega);simp only[World.frozen?,g1];simpa using this
 have I:=kR b (kW 1 3 (hC [v])) (a+i*3) W1;rw[<-Ob] at I;obtain⟨IH,d1,d2,d3,d4⟩:=I.this kP e fr g1;refine Calls.mono (ins_room hi hl (by omega) aa P Q) λe' w' he=>?_;obtain⟨rfl,rfl⟩:=he;have Cz:b<w.heap.size:=mr hf b (by rw[U];simp);have vH:∀k,k≠b->w'.heap[k]?=w.heap[k]?:=λk A=>(I.other k A).trans (C.other k A);have R:w'.heap.size=w.heap.size:=I.size.trans C.size;have uM:(x.take i++[v]++x.drop i).length=x.length+1:=by simp;omega
 refine⟨_,iE γ b (.at (.aw 3) [tg .hold]),rfl,?_,?_⟩
 ·exact{
   im:=λk A=>by
    have D:k≠b:=λe=>by rw[e,U] at A;cases A
    exact⟨by rw[kh D];exact A,vH k D⟩
   at':=λk q π A hx=>by
    have D:k≠b:=λe=>by rw[e,U] at A;cases A;exact hx ⟨0,rfl⟩
    exact⟨by rw[kh D];exact A,vH k D⟩
   fr:=λk _ h0=>by
    have D:k≠b:=λe=>by rw[e,U] at h0;cases h0
    exact⟨by rw[kh D];exact h0,vH k D⟩
   size:=by rw[R];exact iI _
   new:=λk A=>by
    rw[R] at A
    rw[kh (by omega)];exact hf k A
   tape:=I.tape.trans C.tape
   os:=I.os.trans C.os
   output:=I.output.trans C.output}
 ·have S:=Wi (γ':=iE γ b (.at (.aw 3) [tg .hold])) (y:=x.take i++[v]++x.drop i) (by rw[uM];exact hl) sK d1 (by rw[d2,g2];exact Y) (by rw[d2,g2];exact hs) λr c F fT=>by
    rw[uM] at F
    rw[afX (by omega)]
    by_cases c1:r<i
    ·rw[aD c1,d4 _ (by rw[CA];omega),g4 _ (by omega)];have:=gf r c (by omega) fT;simp only[World.cell?,N] at this;simpa using this
    ·rw[aE c1]
     by_cases c2:r=i
     ·rw[aD c2,c2,d3 _ (by rw[CA];omega) (by omega)];have:=u4 (n:=1) (f:=hC [v]) (r:=0) (by omega) fT;rw[Oh,iu] at this;exact this
     ·rw[aE c2,d4 _ (by rw[CA];omega)];have:=g3 ((r-1-i)*3+c) (by rw[Oa];omega) (by omega);rw[show a+(i+1)*3+((r-1-i)*3+c)=a+r*3+c by omega] at this;rw[this,Z,u4 (by omega) fT,show i+(r-1-i)=r-1 by omega]
  rw[uM] at S;exact S
end
section
variable{W:World}{γ:Nat->G}{w w':World}
theorem au6{a:List bc}{v:bc}{i C U cv b off cap:Nat}(J:∀b,w.heap.size<=b->γ b=.fr)
  (eO:γ b=.at (.aw 0) [tg .hold])(Fb:γ C=.im)(hl:a.length<=cap)(jT:cap<a.length+1)
  (gf:∀r c,r<a.length->c<3->w.cell? ⟨b,off+r*3+c,none⟩=some (hC a r c))
  (yu:∀r c,r<1->c<3->w.cell? ⟨C,U+r*3+c,none⟩=some (hC [v] r c))(hi:i<a.length)(hn:a.length<4294967296):
  Calls Tryz.prog 187 #[.slice (some ⟨b,off,none⟩) a.length cap,.int .i64 (i:Nat),.slice (some ⟨C,U,none⟩) 1 cv] w λe w'=>∃u γ',e=.returned u/\bw (λq _=>∃n,q=.aw n) γ w γ' w'/\Rd (bW γ' w') (some (.aw 3,[])) (.own true .hold (a.take i++[v]++a.drop i)) u:=by
 have Cz:b<w.heap.size:=mr J b (by rw[eO];simp);have qO:C<w.heap.size:=mr J C (by rw[Fb];simp);obtain⟨Y,z,a1,a2,a3,a4,a5⟩:=Bh (T:=50) (k:=3) (by kernel_rfl);obtain⟨n0,Nn⟩:∃n0,n0=kW i 3 (hC a):=⟨_,rfl⟩;have M:n0.length=i*3:=by rw[Nn];exact sI
 obtain⟨c',aa⟩:∃c',c'=grownCap w (i+(a.length+1-i)) cap 50:=⟨_,rfl⟩;have uE:a.length+1<=c':=by
  have:=grownCap_ge w (i+(a.length+1-i)) cap 50
  omega
 obtain⟨cs,F⟩:∃cs,cs=n0.toArray++Builtin.zeroCells z.cells (a.length+1-i)++Builtin.zeroCells z.cells (c'-(i+(a.length+1-i))):=⟨_,rfl⟩;have ab:cs.size=c'*3:=by
  rw[F,aau,aau,size_zeroCells,size_zeroCells,a4]
  simp only[Uv,M]
  omega
 obtain⟨W1,H⟩:∃W1,W1=w.drew.alloc (.cells cs 50):=⟨_,rfl⟩;have ad:(Builtin.append_ #[46,3] 46 #[.slice (some ⟨b,off,none⟩) i cap,.int .i64 ((a.length:Int)+1-i)]).run Tryz.prog w=.ok (.slice (some ⟨w.heap.size,0,none⟩) (a.length+1) c') W1:=by
  have hold:(Builtin.firstCells Y.size i (.slice (some ⟨b,off,none⟩) i cap)).run Tryz.prog w.drew=.ok n0.toArray w.drew:=by
   rw[a3,Nn]
   exact run_firstCells_some w.drew 3 i ⟨b,off,none⟩ i cap _ sI (HY (w:=w.drew) λr c D A=>gf r c (by omega) A)
  have ao:(a.length+1-i)*Y.bytes<=4294967296*1000:=Ux (by omega) a5
  have ap:(i+(a.length+1-i))*Y.bytes<=4294967296*1000:=Ux (by omega) a5
  have:=Lib.run_append_grow_zeros (P:=Tryz.prog) w 46 3 46 50 Y z .i64 .i64 Tryz.underlying46 Tryz.underlying3 a1 a2 (some ⟨b,off,none⟩) i cap n0 hold (a.length+1-i) (by omega) (by omega) (by omega) (by omega) (by omega) (growslice_fits (by omega) (by omega))
  rw[<-aa,<-F,<-H,show i+(a.length+1-i)=a.length+1 by omega,show((a.length+1-i:Nat):Int)=(a.length:Int)+1-i by omega] at this
  exact this
 have I1:W1.heap[w.heap.size]?=some (.cells cs 50 (0,0)):=by
  rw[H]
  show(w.heap.push _)[w.heap.size]?=_
  simp
 have xU:∀k,k<w.heap.size->W1.heap[k]?=w.heap[k]?:=λk x=>by
  rw[H]
  show(w.heap.push _)[k]?=_
  rw[Array.getElem?_push,aE (by omega)]
 have iY:W1.heap.size=w.heap.size+1:=by
  rw[H]
  show(w.heap.push _).size=_
  simp
 obtain⟨W2,Ob⟩:∃W2,W2=W1.setCells w.heap.size (i*3) (kW 1 3 (hC [v])):=⟨_,rfl⟩;have CA:(kW 1 3 (hC [v])).length=1*3:=sI;have N:∀ty,(Builtin.copy_ #[46,46] ty #[.slice (some ⟨w.heap.size,i*3,none⟩) (a.length+1-i) (c'-i),.slice (some ⟨C,U,none⟩) 1 cv]).run Tryz.prog W1=.ok (goInt (1:Nat)) W2:=λty=>by
  rw[Ob]
  refine Qg W1 46 46 ty 50 w.heap.size (i*3) _ _ ⟨C,U,none⟩ 1 cv 1 _ Tryz.underlying46 RQ (by simp only[aaH];split<;>omega) CA (HY λr c D A=>?_) (λj hj=>?_) (λj hj=>?_) (KF λr c D A=>D3 D A)
  ·rw[<-yu r c D A];exact mN (xU C qO)
  ·simp only[World.cell?,I1];have:i*3+j<cs.size:=by omega
   simp[this]
  ·simp[World.frozen?,I1]
 have E:=kR w.heap.size (kW 1 3 (hC [v])) (i*3) W1;rw[<-Ob] at E;obtain⟨kP,g1,g2,g3,g4⟩:=E.this cs 50 (0,0) I1;obtain⟨n1,Z⟩:∃n1,n1=kW (a.length-i) 3 (λr c=>hC a (i+r) c):=⟨_,rfl⟩;have Oa:n1.length=(a.length-i)*3:=by rw[Z];exact sI
 obtain⟨W3,Q⟩:∃W3,W3=W2.drew.setCells w.heap.size ((i+1)*3) n1:=⟨_,rfl⟩;have R:∀ty,(Builtin.copy_ #[46,46] ty #[.slice (some ⟨w.heap.size,(i+1)*3,none⟩) (a.length+1-(i+1)) (c'-(i+1)),.slice (some ⟨b,off+i*3,none⟩) (a.length-i) (cap-i)]).run Tryz.prog W2.drew=.ok (goInt (a.length-i:Nat)) W3:=λty=>by
  rw[Q]
  refine Qg W2.drew 46 46 ty 50 w.heap.size ((i+1)*3) _ _ ⟨b,off+i*3,none⟩ _ _ (a.length-i) n1 Tryz.underlying46 RQ (by simp only[aaH];split<;>omega) Oa ?_ (λj hj=>?_) (λj hj=>?_) ?_
  ·rw[Z];refine HY (w:=W2.drew) λr c D A=>?_;have:=gf (i+r) c (by omega) A;rw[show off+(i+r)*3+c=off+i*3+r*3+c by omega] at this;rw[<-this];exact mN (w:=w) (w':=W2.drew) ((E.other b (by omega)).trans (xU b Cz))
  ·show(W2.cell? _).isSome=true;simp only[World.cell?,g1];have:(i+1)*3+j<kP.size:=by omega
   simp[this]
  ·show W2.frozen? _=false;simp[World.frozen?,g1]
  ·rw[Z];exact KF λr c D A=>D3 (by omega) A
 have I:=kR w.heap.size n1 ((i+1)*3) W2.drew;rw[<-Q] at I;obtain⟨IH,d1,d2,d3,d4⟩:=I.this kP 50 (0,0) g1;refine Calls.mono (ins_grow hi hl jT uE (by omega) ad N R) λe' w' he=>?_;obtain⟨rfl,rfl⟩:=he;have vH:∀k,k<w.heap.size->w'.heap[k]?=w.heap[k]?:=λk x=>(I.other k (by omega)).trans ((E.other k (by omega)).trans (xU k x));have am:w'.heap.size=w.heap.size+1:=I.size.trans (E.size.trans iY);have uM:(a.take i++[v]++a.drop i).length=a.length+1:=by simp;omega
 refine⟨_,iE γ w.heap.size (.at (.aw 3) [tg .hold]),rfl,?_,?_⟩
 ·exact{
   im:=λk x=>by
    have:=mr J k (by rw[x];simp)
    exact⟨by rw[kh (by omega)];exact x,vH k this⟩
   at':=λk q π x hx=>by
    have:=mr J k (by rw[x];simp)
    exact⟨by rw[kh (by omega)];exact x,vH k this⟩
   fr:=λk x h0=>⟨by rw[kh (by omega)];exact h0,vH k x⟩
   size:=by omega
   new:=λk x=>by
    rw[am] at x
    rw[kh (by omega)];exact J k (by omega)
   tape:=I.tape.trans (E.tape.trans (by rw[H];rfl))
   os:=I.os.trans (E.os.trans (by rw[H];rfl))
   output:=I.output.trans (E.output.trans (by rw[H];rfl))}
 ·have S:=Wi (γ':=iE γ w.heap.size (.at (.aw 3) [tg .hold])) (y:=a.take i++[v]++a.drop i) (off:=0) (cap:=c') (by rw[uM];exact uE) sK d1 oC.zero (by rw[d2,g2,ab];omega) λr c D fT=>by
    rw[uM] at D
    rw[afX (by omega),iu]
    by_cases c1:r<i
    ·rw[aD c1,d4 _ (by omega),g4 _ (by rw[CA];omega),F,Array.append_assoc,aaw (by simp only[Uv,M];omega)];simp only[akF];rw[Nn,u4 c1 fT]
    ·rw[aE c1]
     by_cases c2:r=i
     ·rw[aD c2,c2,d4 _ (by omega),g3 _ (by rw[CA];omega) (by omega)];have:=u4 (n:=1) (f:=hC [v]) (r:=0) (by omega) fT;rw[Oh,iu] at this;exact this
     ·rw[aE c2];have:=d3 ((r-1-i)*3+c) (by rw[Oa];omega) (by omega);rw[show(i+1)*3+((r-1-i)*3+c)=r*3+c by omega] at this;rw[this,Z,u4 (by omega) fT,show i+(r-1-i)=r-1 by omega]
  rw[uM] at S;exact S
variable(W)
theorem au7(n:Nat):mg W 187 (ahP n):=by
 refine⟨enters Tryz.func187 (by kernel_rfl),λγ w C aa(x:List bc×Int×List bc×Unit)(y:List bc)I hG J j=>?_⟩;obtain⟨xs,i,vs,_⟩:=x
 match C,J with
 |[v1,v2,v3],J=>
  obtain⟨F,h2,h3,h4⟩:=J;obtain rfl:=DX h2;have F:Rd (bW γ w) (some (.aw 0,[])) (.own true .hold xs) v1:=F;have j:Hg n xs i vs=some y:=j;unfold Hg at j;split at j
  ·rename_i M;injection j with j;obtain⟨k0,k1,k2,k3⟩:=M;obtain⟨i,rfl⟩:=gD k0;rw[eC] at j;have uN:i<=xs.length:=by omega
   obtain⟨v,rfl⟩:∃v,vs=[v]:=List.length_eq_one_iff.1 k2;rcases W5 h3 with⟨h0,_⟩|⟨H,vo,cv,f,rfl,ab,D,N,zZ⟩
   ·cases h0
   have D:γ H=.im:=D;have P:∀r c,r<1->c<3->w.cell? ⟨H,vo+r*3+c,none⟩=some (hC [v] r c):=λr c Q R=>Vf (rc:=bW γ w) N zZ r c (by simpa using Q) R
   suffices Sh:Calls Tryz.prog 187 #[v1,.int .i64 (i:Nat),.slice (some ⟨H,vo,none⟩) 1 cv] w λe w'=>∃u A,e=.returned u/\bw (λq _=>∃n,q=.aw n) γ w A w'/\Rd (bW A w') (some (.aw 3,[])) (.own true .hold (xs.take i++[v]++xs.drop i)) u by
    refine Calls.mono Sh λe w' he=>?_;obtain⟨u,A,rfl,a7,gk⟩:=he;exact⟨u,A,rfl,a7,by rw[<-j];exact gk,trivial,trivial,trivial,trivial⟩
   by_cases xM:i=xs.length
   ·subst xM;have:=au4 (cv:=cv) I F P k3;rw[wQ,sD,Ow];exact this
   ·have hi:i<xs.length:=by omega
    rcases F.mR with⟨h0,_⟩|⟨q,π,b,S,cap,cs,e,fr,f2,hm,rfl,U,E,Y,hu,Z,R,Q⟩
    ·have h0:xs=[]:=h0;rw[h0] at hi;simp at hi
    simp only[aQ,cZ] at hm;obtain⟨rfl,rfl⟩:=hm;have E:γ b=.at (.aw 0) [tg .hold]:=E;have Y:w.heap[b]?=some (.cells cs e fr):=Y;have U:xs.length<=cap:=U;have Z:S+cap*3<=cs.size:=Z;have gf:=Vf (rc:=bW γ w) R Q;have bS:H≠b:=by rintro rfl;rw[E] at D;cases D
    by_cases a:xs.length+1<=cap
    ·exact au5 I E Y a hu Z gf bS P hi k3
    ·exact au6 I E D U (Jf a) gf P hi k3
  ·cases j
end
end Go.Sd
