/- The library keeps its contracts. Condition: WOk. -/
import Derived.Shelf.Strings.Prefix
import Derived.Shelf.Strings.Cut
import Derived.Shelf.Strings.Split
import Derived.Shelf.Strings.OnBuilder
import Derived.Shelf.Strconv.Itoa3
import Derived.Shelf.SlicesE.Clone
import Derived.Shelf.Strconv.AtoiAll
import Derived.Shelf.Strings.Repeat
import Derived.Shelf.Strings.BuilderF
import Derived.Deep.RegionLaw
import Derived.Shelf.Spec.TrailingZeros
import Derived.Lib.ItoaMem
import Derived.Shelf.Spec.SlicesInsertGrow
import Derived.Lib.AppendZerosOnto
import Derived.Test.YtfnlbejcgjlclaaGreatDoorD
set_option linter.all false
namespace Go.Proofs
open Go.Shelf Tryz
def dW{a b:Func}(h:a=b):some a=some b:=congrArg some h
def Tryz.aaN:Go.Shelf.Ren:=⟨λ|99=>97|206=>144|n=>n,λ|9=>9|4=>4|3=>3|n=>n,λ|n=>n⟩
def Tryz.af2:Go.Proofs.Lays.n99 Tryz.prog Tryz.aaN:={
 mixed:=by kernel_rfl
 f99:=func97.trans (dW (by kernel_rfl))
 f206:=func144.trans (dW (by kernel_rfl))
 t3:=underlying3
 a3:=isAgg3
 z3:=sizeOf3
 v3:=zeroValue3
 t4:=underlying4
 a4:=isAgg4
 z4:=sizeOf4
 v4:=zeroValue4
 t9:=underlying9
 a9:=isAgg9
 z9:=sizeOf9
 v9:=zeroValue9}
def Tryz.aan:Go.Shelf.Ren:=⟨λ|145=>94|220=>141|219=>173|217=>213|225=>214|224=>215|267=>216|266=>257|314=>258|n=>n,λ|9=>9|4=>4|59=>114|3=>3|5=>5|46=>223|146=>258|51=>189|n=>n,λ|1=>1|n=>n⟩
def Tryz.aeS:Go.Proofs.Lays.n145 Tryz.prog Tryz.aan:={
 mixed:=by kernel_rfl
 f145:=func94.trans (dW (by kernel_rfl))
 f217:=func213.trans (dW (by kernel_rfl))
 f219:=func173.trans (dW (by kernel_rfl))
 f220:=func141.trans (dW (by kernel_rfl))
 f224:=func215.trans (dW (by kernel_rfl))
 f225:=func214.trans (dW (by kernel_rfl))
 f266:=func257.trans (dW (by kernel_rfl))
 f267:=func216.trans (dW (by kernel_rfl))
 f314:=func258.trans (dW (by kernel_rfl))
 t3:=underlying3
 a3:=isAgg3
 z3:=sizeOf3
 v3:=zeroValue3
 t4:=underlying4
 a4:=isAgg4
 z4:=sizeOf4
 v4:=zeroValue4
 t5:=underlying5
 a5:=isAgg5
 z5:=sizeOf5
 v5:=zeroValue5
 t9:=underlying9
 a9:=isAgg9
 z9:=sizeOf9
 v9:=zeroValue9
 t46:=underlying223
 a46:=isAgg223
 z46:=sizeOf223
 v46:=zeroValue223
 t51:=underlying189
 a51:=isAgg189
 z51:=sizeOf189
 v51:=zeroValue189
 t59:=underlying114
 a59:=isAgg114
 z59:=sizeOf114
 v59:=zeroValue114
 t146:=underlying258
 a146:=isAgg258
 z146:=sizeOf258
 v146:=zeroValue258
 g1:=by kernel_rfl}
def Tryz.Ic:Go.Shelf.Ren:=⟨λ|146=>100|221=>147|268=>183|138=>184|143=>185|195=>226|197=>227|218=>228|219=>173|260=>265|217=>213|225=>214|224=>215|267=>216|266=>257|314=>258|n=>n,λ|9=>9|31=>81|3=>3|4=>4|0=>0|105=>235|21=>21|5=>5|46=>223|119=>296|139=>299|138=>298|146=>258|51=>189|n=>n,λ|1=>1|3=>6|4=>7|n=>n⟩
def Tryz.aeT:Go.Proofs.Lays.n146 Tryz.prog Tryz.Ic:={
 mixed:=by kernel_rfl
 f138:=func184.trans (dW (by kernel_rfl))
 f143:=func185.trans (dW (by kernel_rfl))
 f146:=func100.trans (dW (by kernel_rfl))
 f195:=func226.trans (dW (by kernel_rfl))
 f197:=func227.trans (dW (by kernel_rfl))
 f217:=func213.trans (dW (by kernel_rfl))
 f218:=func228.trans (dW (by kernel_rfl))
 f219:=func173.trans (dW (by kernel_rfl))
 f221:=func147.trans (dW (by kernel_rfl))
 f224:=func215.trans (dW (by kernel_rfl))
 f225:=func214.trans (dW (by kernel_rfl))
 f260:=func265.trans (dW (by kernel_rfl))
 f266:=func257.trans (dW (by kernel_rfl))
 f267:=func216.trans (dW (by kernel_rfl))
 f268:=func183.trans (dW (by kernel_rfl))
 f314:=func258.trans (dW (by kernel_rfl))
 t0:=underlying0
 a0:=isAgg0
 z0:=sizeOf0
 v0:=zeroValue0
 t3:=underlying3
 a3:=isAgg3
 z3:=sizeOf3
 v3:=zeroValue3
 t4:=underlying4
 a4:=isAgg4
 z4:=sizeOf4
 v4:=zeroValue4
 t5:=underlying5
 a5:=isAgg5
 z5:=sizeOf5
 v5:=zeroValue5
 t9:=underlying9
 a9:=isAgg9
 z9:=sizeOf9
 v9:=zeroValue9
 t21:=underlying21
 a21:=isAgg21
 z21:=sizeOf21
 v21:=zeroValue21
 t31:=underlying81
 a31:=isAgg81
 z31:=sizeOf81
 v31:=zeroValue81
 t46:=underlying223
 a46:=isAgg223
 z46:=sizeOf223
 v46:=zeroValue223
 t51:=underlying189
 a51:=isAgg189
 z51:=sizeOf189
 v51:=zeroValue189
 t105:=underlying235
 a105:=isAgg235
 z105:=sizeOf235
 v105:=zeroValue235
 t119:=underlying296
 a119:=isAgg296
 z119:=sizeOf296
 t138:=underlying298
 a138:=isAgg298
 z138:=sizeOf298
 v138:=zeroValue298
 t139:=underlying299
 a139:=isAgg299
 z139:=sizeOf299
 v139:=zeroValue299
 t146:=underlying258
 a146:=isAgg258
 z146:=sizeOf258
 v146:=zeroValue258
 g1:=by kernel_rfl
 g3:=by kernel_rfl
 g4:=by kernel_rfl}
def Tryz.RF:Go.Shelf.Ren:=⟨λ|156=>133|165=>169|166=>170|169=>171|240=>211|241=>212|276=>255|277=>256|n=>n,λ|31=>81|9=>9|3=>3|4=>4|0=>0|20=>20|72=>181|76=>151|70=>179|37=>22|75=>150|127=>221|164=>255|5=>5|80=>183|n=>n,λ|n=>n⟩
def Tryz.CO:Go.Proofs.Lays.n156 Tryz.prog Tryz.RF:={
 mixed:=by kernel_rfl
 f156:=func133.trans (dW (by kernel_rfl))
 f165:=func169.trans (dW (by kernel_rfl))
 f166:=func170.trans (dW (by kernel_rfl))
 f169:=func171.trans (dW (by kernel_rfl))
 f240:=func211.trans (dW (by kernel_rfl))
 f241:=func212.trans (dW (by kernel_rfl))
 f276:=func255.trans (dW (by kernel_rfl))
 f277:=func256.trans (dW (by kernel_rfl))
 t0:=underlying0
 a0:=isAgg0
 z0:=sizeOf0
 v0:=zeroValue0
 t3:=underlying3
 a3:=isAgg3
 z3:=sizeOf3
 v3:=zeroValue3
 t4:=underlying4
 a4:=isAgg4
 z4:=sizeOf4
 v4:=zeroValue4
 t9:=underlying9
 a9:=isAgg9
 z9:=sizeOf9
 v9:=zeroValue9
 t20:=underlying20
 a20:=isAgg20
 z20:=sizeOf20
 v20:=zeroValue20
 t31:=underlying81
 a31:=isAgg81
 z31:=sizeOf81
 v31:=zeroValue81
 t37:=underlying22
 a37:=isAgg22
 z37:=sizeOf22
 v37:=zeroValue22
 t70:=underlying179
 a70:=isAgg179
 z70:=sizeOf179
 v70:=zeroValue179
 t72:=underlying181
 a72:=isAgg181
 z72:=sizeOf181
 v72:=zeroValue181
 t75:=underlying150
 a75:=isAgg150
 z75:=sizeOf150
 v75:=zeroValue150
 t76:=underlying151
 a76:=isAgg151
 z76:=sizeOf151
 v76:=zeroValue151
 t127:=underlying221
 a127:=isAgg221
 z127:=sizeOf221
 v127:=zeroValue221
 t164:=underlying255
 a164:=isAgg255
 z164:=sizeOf255
 v164:=zeroValue255}
def Tryz.aao:Go.Shelf.Ren:=⟨λ|171=>81|243=>129|246=>167|283=>206|284=>207|285=>208|286=>209|129=>251|317=>250|318=>252|319=>253|320=>254|337=>285|338=>286|n=>n,λ|3=>3|9=>9|2=>2|4=>4|171=>215|0=>0|53=>187|37=>22|5=>5|173=>218|212=>252|51=>189|20=>20|213=>253|46=>223|232=>316|233=>317|n=>n,λ|17=>3|18=>8|19=>9|n=>n⟩
def Tryz.aeU:Go.Proofs.LaysM.n171 Tryz.prog Tryz.aao:={
 mixed:=by kernel_rfl
 f129:=func251.trans (dW (by kernel_rfl))
 f171:=func81.trans (dW (by kernel_rfl))
 f243:=func129.trans (dW (by kernel_rfl))
 f246:=func167.trans (dW (by kernel_rfl))
 f283:=func206.trans (dW (by kernel_rfl))
 f284:=func207.trans (dW (by kernel_rfl))
 f285:=func208.trans (dW (by kernel_rfl))
 f286:=func209.trans (dW (by kernel_rfl))
 f317:=func250.trans (dW (by kernel_rfl))
 f318:=func252.trans (dW (by kernel_rfl))
 f319:=func253.trans (dW (by kernel_rfl))
 f320:=func254.trans (dW (by kernel_rfl))
 f337:=func285.trans (dW (by kernel_rfl))
 f338:=func286.trans (dW (by kernel_rfl))
 t0:=underlying0
 a0:=isAgg0
 z0:=sizeOf0
 v0:=zeroValue0
 t2:=underlying2
 a2:=isAgg2
 z2:=sizeOf2
 v2:=zeroValue2
 t3:=underlying3
 a3:=isAgg3
 z3:=sizeOf3
 v3:=zeroValue3
 t4:=underlying4
 a4:=isAgg4
 z4:=sizeOf4
 v4:=zeroValue4
 t5:=underlying5
 a5:=isAgg5
 z5:=sizeOf5
 v5:=zeroValue5
 t9:=underlying9
 a9:=isAgg9
 z9:=sizeOf9
 v9:=zeroValue9
 t20:=underlying20
 a20:=isAgg20
 z20:=sizeOf20
 v20:=zeroValue20
 t37:=underlying22
 a37:=isAgg22
 z37:=sizeOf22
 v37:=zeroValue22
 t46:=underlying223
 a46:=isAgg223
 z46:=sizeOf223
 v46:=zeroValue223
 t51:=underlying189
 a51:=isAgg189
 z51:=sizeOf189
 v51:=zeroValue189
 t53:=underlying187
 a53:=isAgg187
 z53:=sizeOf187
 v53:=zeroValue187
 t171:=underlying215
 a171:=isAgg215
 z171:=sizeOf215
 v171:=zeroValue215
 t173:=underlying218
 a173:=isAgg218
 z173:=sizeOf218
 v173:=zeroValue218
 t212:=underlying252
 a212:=isAgg252
 z212:=sizeOf252
 v212:=zeroValue252
 t213:=underlying253
 a213:=isAgg253
 z213:=sizeOf253
 t232:=underlying316
 a232:=isAgg316
 z232:=sizeOf316
 v232:=zeroValue316
 t233:=underlying317
 a233:=isAgg317
 z233:=sizeOf317
 v233:=zeroValue317
 g17:=by kernel_rfl
 g18:=by kernel_rfl
 g19:=by kernel_rfl
 i0:=by kernel_rfl
 i2:=by kernel_rfl
 i3:=by kernel_rfl
 i4:=by kernel_rfl
 i5:=by kernel_rfl
 i9:=by kernel_rfl
 i20:=by kernel_rfl
 i37:=by kernel_rfl
 i46:=by kernel_rfl
 i51:=by kernel_rfl
 i53:=by kernel_rfl
 i171:=by kernel_rfl
 i173:=by kernel_rfl
 i212:=by kernel_rfl
 i232:=by kernel_rfl
 i233:=by kernel_rfl
 m17:=by kernel_rfl
 m18:=by kernel_rfl
 m19:=by kernel_rfl}
def Tryz.aap:Go.Shelf.Ren:=⟨λ|172=>142|244=>174|245=>175|247=>217|279=>218|280=>219|281=>220|282=>221|287=>259|316=>260|171=>81|205=>261|321=>287|322=>288|243=>129|246=>167|283=>206|284=>207|285=>208|286=>209|129=>251|317=>250|318=>252|319=>253|320=>254|337=>285|338=>286|n=>n,λ|9=>9|3=>3|75=>150|76=>151|4=>4|5=>5|167=>224|37=>22|0=>0|85=>225|2=>2|168=>227|53=>187|175=>260|46=>223|210=>263|127=>221|145=>295|143=>293|21=>21|171=>215|173=>218|212=>252|51=>189|20=>20|213=>253|232=>316|233=>317|80=>183|n=>n,λ|15=>4|16=>5|17=>3|18=>8|19=>9|n=>n⟩
def Tryz.OY:Go.Proofs.LaysC.n172 Tryz.prog Tryz.aap:={
 mixed:=by kernel_rfl
 f129:=func251.trans (dW (by kernel_rfl))
 f171:=func81.trans (dW (by kernel_rfl))
 f172:=func142.trans (dW (by kernel_rfl))
 f205:=func261.trans (dW (by kernel_rfl))
 f243:=func129.trans (dW (by kernel_rfl))
 f244:=func174.trans (dW (by kernel_rfl))
 f245:=func175.trans (dW (by kernel_rfl))
 f246:=func167.trans (dW (by kernel_rfl))
 f247:=func217.trans (dW (by kernel_rfl))
 f279:=func218.trans (dW (by kernel_rfl))
 f280:=func219.trans (dW (by kernel_rfl))
 f281:=func220.trans (dW (by kernel_rfl))
 f282:=func221.trans (dW (by kernel_rfl))
 f283:=func206.trans (dW (by kernel_rfl))
 f284:=func207.trans (dW (by kernel_rfl))
 f285:=func208.trans (dW (by kernel_rfl))
 f286:=func209.trans (dW (by kernel_rfl))
 f287:=func259.trans (dW (by kernel_rfl))
 f316:=func260.trans (dW (by kernel_rfl))
 f317:=func250.trans (dW (by kernel_rfl))
 f318:=func252.trans (dW (by kernel_rfl))
 f319:=func253.trans (dW (by kernel_rfl))
 f320:=func254.trans (dW (by kernel_rfl))
 f321:=func287.trans (dW (by kernel_rfl))
 f322:=func288.trans (dW (by kernel_rfl))
 f337:=func285.trans (dW (by kernel_rfl))
 f338:=func286.trans (dW (by kernel_rfl))
 t0:=underlying0
 a0:=isAgg0
 z0:=sizeOf0
 v0:=zeroValue0
 t2:=underlying2
 a2:=isAgg2
 z2:=sizeOf2
 v2:=zeroValue2
 t3:=underlying3
 a3:=isAgg3
 z3:=sizeOf3
 v3:=zeroValue3
 t4:=underlying4
 a4:=isAgg4
 z4:=sizeOf4
 v4:=zeroValue4
 t5:=underlying5
 a5:=isAgg5
 z5:=sizeOf5
 v5:=zeroValue5
 t9:=underlying9
 a9:=isAgg9
 z9:=sizeOf9
 v9:=zeroValue9
 t20:=underlying20
 a20:=isAgg20
 z20:=sizeOf20
 v20:=zeroValue20
 t21:=underlying21
 a21:=isAgg21
 z21:=sizeOf21
 v21:=zeroValue21
 t37:=underlying22
 a37:=isAgg22
 z37:=sizeOf22
 v37:=zeroValue22
 t46:=underlying223
 a46:=isAgg223
 z46:=sizeOf223
 v46:=zeroValue223
 t51:=underlying189
 a51:=isAgg189
 z51:=sizeOf189
 v51:=zeroValue189
 t53:=underlying187
 a53:=isAgg187
 z53:=sizeOf187
 v53:=zeroValue187
 t75:=underlying150
 a75:=isAgg150
 z75:=sizeOf150
 v75:=zeroValue150
 t76:=underlying151
 a76:=isAgg151
 z76:=sizeOf151
 v76:=zeroValue151
 t85:=underlying225
 a85:=isAgg225
 z85:=sizeOf225
 v85:=zeroValue225
 t127:=underlying221
 a127:=isAgg221
 z127:=sizeOf221
 v127:=zeroValue221
 t143:=underlying293
 a143:=isAgg293
 z143:=sizeOf293
 v143:=zeroValue293
 t145:=underlying295
 a145:=isAgg295
 z145:=sizeOf295
 v145:=zeroValue295
 t167:=underlying224
 a167:=isAgg224
 z167:=sizeOf224
 v167:=zeroValue224
 t168:=underlying227
 a168:=isAgg227
 z168:=sizeOf227
 v168:=zeroValue227
 t171:=underlying215
 a171:=isAgg215
 z171:=sizeOf215
 v171:=zeroValue215
 t173:=underlying218
 a173:=isAgg218
 z173:=sizeOf218
 v173:=zeroValue218
 t175:=underlying260
 a175:=isAgg260
 z175:=sizeOf260
 v175:=zeroValue260
 t210:=underlying263
 a210:=isAgg263
 z210:=sizeOf263
 v210:=zeroValue263
 t212:=underlying252
 a212:=isAgg252
 z212:=sizeOf252
 v212:=zeroValue252
 t213:=underlying253
 a213:=isAgg253
 z213:=sizeOf253
 t232:=underlying316
 a232:=isAgg316
 z232:=sizeOf316
 v232:=zeroValue316
 t233:=underlying317
 a233:=isAgg317
 z233:=sizeOf317
 v233:=zeroValue317
 g15:=by kernel_rfl
 g16:=by kernel_rfl
 g17:=by kernel_rfl
 g18:=by kernel_rfl
 g19:=by kernel_rfl
 t80:=underlying183
 a80:=isAgg183
 z80:=sizeOf183
 v80:=zeroValue183
 i0:=by kernel_rfl
 i2:=by kernel_rfl
 i3:=by kernel_rfl
 i4:=by kernel_rfl
 i5:=by kernel_rfl
 i9:=by kernel_rfl
 i20:=by kernel_rfl
 i21:=by kernel_rfl
 i37:=by kernel_rfl
 i46:=by kernel_rfl
 i51:=by kernel_rfl
 i53:=by kernel_rfl
 i75:=by kernel_rfl
 i76:=by kernel_rfl
 i80:=by kernel_rfl
 i85:=by kernel_rfl
 i127:=by kernel_rfl
 i143:=by kernel_rfl
 i145:=by kernel_rfl
 i167:=by kernel_rfl
 i168:=by kernel_rfl
 i171:=by kernel_rfl
 i173:=by kernel_rfl
 i175:=by kernel_rfl
 i210:=by kernel_rfl
 i212:=by kernel_rfl
 i232:=by kernel_rfl
 i233:=by kernel_rfl
 m15:=by kernel_rfl
 m16:=by kernel_rfl
 m17:=by kernel_rfl
 m18:=by kernel_rfl
 m19:=by kernel_rfl
 c0:=by kernel_rfl
 c2:=by kernel_rfl
 c3:=by kernel_rfl
 c4:=by kernel_rfl
 c5:=by kernel_rfl
 c9:=by kernel_rfl
 c20:=by kernel_rfl
 c21:=by kernel_rfl
 c37:=by kernel_rfl
 c46:=by kernel_rfl
 c51:=by kernel_rfl
 c53:=by kernel_rfl
 c75:=by kernel_rfl
 c76:=by kernel_rfl
 c80:=by kernel_rfl
 c85:=by kernel_rfl
 c127:=by kernel_rfl
 c143:=by kernel_rfl
 c145:=by kernel_rfl
 c167:=by kernel_rfl
 c168:=by kernel_rfl
 c171:=by kernel_rfl
 c173:=by kernel_rfl
 c175:=by kernel_rfl
 c210:=by kernel_rfl
 c212:=by kernel_rfl
 c213:=by kernel_rfl
 c232:=by kernel_rfl
 c233:=by kernel_rfl}
def Tryz.RG:Go.Shelf.Ren:=⟨λ|105=>176|212=>222|99=>97|165=>169|166=>170|170=>223|169=>171|263=>262|264=>263|206=>144|240=>211|241=>212|276=>255|277=>256|n=>n,λ|9=>9|3=>3|4=>4|20=>20|0=>0|46=>223|109=>230|5=>5|72=>181|76=>151|51=>189|146=>258|53=>187|148=>266|70=>179|37=>22|75=>150|127=>221|164=>255|80=>183|n=>n,λ|n=>n⟩
def Tryz.aeV:Go.Proofs.Lays.n105 Tryz.prog Tryz.RG:={
 mixed:=by kernel_rfl
 f99:=func97.trans (dW (by kernel_rfl))
 f105:=func176.trans (dW (by kernel_rfl))
 f165:=func169.trans (dW (by kernel_rfl))
 f166:=func170.trans (dW (by kernel_rfl))
 f169:=func171.trans (dW (by kernel_rfl))
 f170:=func223.trans (dW (by kernel_rfl))
 f206:=func144.trans (dW (by kernel_rfl))
 f212:=func222.trans (dW (by kernel_rfl))
 f240:=func211.trans (dW (by kernel_rfl))
 f241:=func212.trans (dW (by kernel_rfl))
 f263:=func262.trans (dW (by kernel_rfl))
 f264:=func263.trans (dW (by kernel_rfl))
 f276:=func255.trans (dW (by kernel_rfl))
 f277:=func256.trans (dW (by kernel_rfl))
 t0:=underlying0
 a0:=isAgg0
 z0:=sizeOf0
 v0:=zeroValue0
 t3:=underlying3
 a3:=isAgg3
 z3:=sizeOf3
 v3:=zeroValue3
 t4:=underlying4
 a4:=isAgg4
 z4:=sizeOf4
 v4:=zeroValue4
 t5:=underlying5
 a5:=isAgg5
 z5:=sizeOf5
 v5:=zeroValue5
 t9:=underlying9
 a9:=isAgg9
 z9:=sizeOf9
 v9:=zeroValue9
 t20:=underlying20
 a20:=isAgg20
 z20:=sizeOf20
 v20:=zeroValue20
 t37:=underlying22
 a37:=isAgg22
 z37:=sizeOf22
 v37:=zeroValue22
 t46:=underlying223
 a46:=isAgg223
 z46:=sizeOf223
 v46:=zeroValue223
 t51:=underlying189
 a51:=isAgg189
 z51:=sizeOf189
 v51:=zeroValue189
 t53:=underlying187
 a53:=isAgg187
 z53:=sizeOf187
 v53:=zeroValue187
 t70:=underlying179
 a70:=isAgg179
 z70:=sizeOf179
 v70:=zeroValue179
 t72:=underlying181
 a72:=isAgg181
 z72:=sizeOf181
 v72:=zeroValue181
 t75:=underlying150
 a75:=isAgg150
 z75:=sizeOf150
 v75:=zeroValue150
 t76:=underlying151
 a76:=isAgg151
 z76:=sizeOf151
 v76:=zeroValue151
 t109:=underlying230
 a109:=isAgg230
 z109:=sizeOf230
 v109:=zeroValue230
 t127:=underlying221
 a127:=isAgg221
 z127:=sizeOf221
 v127:=zeroValue221
 t146:=underlying258
 a146:=isAgg258
 z146:=sizeOf258
 v146:=zeroValue258
 t148:=underlying266
 a148:=isAgg266
 z148:=sizeOf266
 v148:=zeroValue266
 t164:=underlying255
 a164:=isAgg255
 z164:=sizeOf255
 v164:=zeroValue255}
def Tryz.Rk:Go.Shelf.Ren:=⟨λ|41=>180|n=>n,λ|22=>45|23=>3|4=>4|n=>n,λ|n=>n⟩
def Tryz.ac5:Go.Proofs.SlLaysE0.n41 Tryz.prog Tryz.Rk:={
 mixed:=by kernel_rfl
 f41:=⟨Tryz.f180.name,by decide,func180.trans (dW (by kernel_rfl))⟩
 t4:=underlying4
 a4:=isAgg4
 z4:=sizeOf4
 v4:=zeroValue4
 t22:=underlying45
 a22:=isAgg45
 z22:=sizeOf45
 v22:=zeroValue45}
def Tryz.Rl:Go.Shelf.Ren:=⟨λ|41=>182|n=>n,λ|22=>46|23=>50|4=>4|n=>n,λ|n=>n⟩
def Tryz.ac6:Go.Proofs.SlLaysE0.n41 Tryz.prog Tryz.Rl:={
 mixed:=by kernel_rfl
 f41:=⟨Tryz.f182.name,by decide,func182.trans (dW (by kernel_rfl))⟩
 t4:=underlying4
 a4:=isAgg4
 z4:=sizeOf4
 v4:=zeroValue4
 t22:=underlying46
 a22:=isAgg46
 z22:=sizeOf46
 v22:=zeroValue46}
def Tryz.Rm:Go.Shelf.Ren:=⟨λ|41=>124|n=>n,λ|22=>24|23=>34|4=>4|n=>n,λ|n=>n⟩
def Tryz.ac7:Go.Proofs.SlLaysE0.n41 Tryz.prog Tryz.Rm:={
 mixed:=by kernel_rfl
 f41:=⟨Tryz.f124.name,by decide,func124.trans (dW (by kernel_rfl))⟩
 t4:=underlying4
 a4:=isAgg4
 z4:=sizeOf4
 v4:=zeroValue4
 t22:=underlying24
 a22:=isAgg24
 z22:=sizeOf24
 v22:=zeroValue24}
def Tryz.Rn:Go.Shelf.Ren:=⟨λ|41=>126|n=>n,λ|22=>32|23=>77|4=>4|n=>n,λ|n=>n⟩
def Tryz.ac8:Go.Proofs.SlLaysE0.n41 Tryz.prog Tryz.Rn:={
 mixed:=by kernel_rfl
 f41:=⟨Tryz.f126.name,by decide,func126.trans (dW (by kernel_rfl))⟩
 t4:=underlying4
 a4:=isAgg4
 z4:=sizeOf4
 v4:=zeroValue4
 t22:=underlying32
 a22:=isAgg32
 z22:=sizeOf32
 v22:=zeroValue32}
def Tryz.Cy:Builder.Extra Tryz.prog Tryz.RF where
 sizeBuilder:=by kernel_rfl
 liesBuilder:=by kernel_rfl
 t5:=underlying5
 a5:=isAgg5
 z5:=sizeOf5
 v5:=zeroValue5
 infoByte:=by kernel_rfl
 cellsByte:=by kernel_rfl
 sizeByte:=by kernel_rfl
 neB5:=by decide
def Tryz.ac9:Builder.Extra Tryz.prog Tryz.RG where
 sizeBuilder:=by kernel_rfl
 liesBuilder:=by kernel_rfl
 t5:=underlying5
 a5:=isAgg5
 z5:=sizeOf5
 v5:=zeroValue5
 infoByte:=by kernel_rfl
 cellsByte:=by kernel_rfl
 sizeByte:=by kernel_rfl
 neB5:=by decide
end Go.Proofs
namespace Go.Sd
open Go Go.RowKit
open Go.Ev hiding World cY Rd
open Go.Proofs hiding Enters
section
structure oW(W:World):Prop where
 sz:10<=W.heap.size
 mx:∃m,W.cell? ⟨1,0,none⟩=some (.int .i64 m)
 pow:Lib.TabIs Tryz.prog W "internal/strconv.uint64pow10" .u64 Lib.pow10Tab
 e4:∃te pe,W.cell? ⟨4,0,none⟩=some (.iface te pe)
 e5:∃te pe,W.cell? ⟨5,0,none⟩=some (.iface te pe)
 tz:W.cell? ⟨9,15,none⟩=some (.int .u8 4)
variable{W:World}{γ:Nat->G}{w w':World}
def Ql(hW:oW W)(a:Af sN (uu W) γ w){i:Nat}(j:i<10):γ i=.im/\w.heap[i]?=W.heap[i]?:=by
 have y:=hW.sz;have e:uu W i=some W.heap[i]:=by
  unfold uu
  have:Nat.blt i 10=true:=by simpa[s6] using j
  rw[this,cP,jN (by omega)]
 obtain⟨u,x⟩:=a.2 i _ e;exact⟨u,by rw[x,jN (by omega)]⟩
def rW{X:Rt->dv->Prop}(j:∀b,w.heap.size<=b->γ b=.fr)(h:Below w.heap.size w w')(e:∀b,γ b≠.fr->b<w.heap.size):dK X γ w γ w' where
 im:=λb a=>⟨a,h.block b (e b (by rw[a];simp))⟩
 at':=λb q p a _=>⟨a,h.block b (e b (by rw[a];simp))⟩
 fr:=λb a u=>⟨u,h.block b a⟩
 size:=h.size
 new:=λb a=>j b (Av h.size a)
 tape:=h.tape
 os:=h.os
 output:=h.output
def lC(a:∀b,w.heap.size<=b->γ b=.fr):∀b,γ b≠.fr->b<w.heap.size:=λb e=>DN λh=>e (a b h)
def tJ{c:Rc}{i:Nat}{a v:Value}{x:cq}(h:rz c i a (.val (.el .str [])) x v):v=.string ⟨⟨x⟩⟩:=by
 have h:Rd c (some (.cE i,[])) (.s x) v:=h;cases h;rfl
def zK{k:IntKind}{c:Rc}{i:Nat}{a v:Value}{x:Int}(h:rz c i a (.val (.el (.int k) [])) x v):v=.int k x:=by
 have h:Rd c (some (.cE i,[])) (.i k x) v:=h;cases h;rfl
def enters{f:Nat}{a:Func}(u:Tryz.prog.funcs[f]?=some a)(j:(a.body.isSome&&!(a.name== "runtime.NumGoroutine"))=true):Enters Tryz.prog f:=by
 simp only[dF] at j;refine⟨a,u,λe=>?_,?_⟩
 ·rw[e] at j;simp at j
 ·cases y:a.body with
  |none=>rw[y] at j;simp at j
  |some x=>rfl
variable(W)
def k97(n:Nat):lq W 97 (Ym n):=by
 refine⟨enters Tryz.func97 (by kernel_rfl),λγ w a C x y A I u j=>?_⟩;obtain⟨s,p,_⟩:=x
 match a,u with
 |[J,M],u=>
  obtain⟨D,E,N⟩:=u;obtain rfl:=tJ D;obtain rfl:=tJ E;have j:some (Lib.hasPrefix s p)=some y:=j;injection j with j;subst j;have F:=Any.strings_HasPrefix Tryz.af2 ⟨⟨s⟩⟩ ⟨⟨p⟩⟩ w;refine Calls.mono F λe w' H=>?_;obtain⟨rfl,rfl⟩:=H;exact⟨_,γ,rfl,rW A (Below.refl _ _) (lC A),Rd.b _ _,trivial,trivial,trivial⟩
variable{W}
def SQ{w w':World}{b:Nat}{j:Int}(h:w.heap[b]?=w'.heap[b]?)(k:Nat):w.cell? ⟨b,k,none⟩=w'.cell? ⟨b,k,none⟩:=by
 unfold World.cell?;simp only[h]
def Js(hW:oW W)(a:Af sN (uu W) γ w){i:Nat}(e:i<10):w.cell? ⟨i,0,none⟩=W.cell? ⟨i,0,none⟩:=SQ (j:=0) (Ql hW a e).2 0
def ada(hW:oW W)(j:Af sN (uu W) γ w):Lib.TabIs Tryz.prog w "internal/strconv.uint64pow10" .u64 Lib.pow10Tab:=by
 have a:=hW.pow;unfold Lib.TabIs World.var? at a⊢;have e:Tryz.prog.globalNamed "internal/strconv.uint64pow10" =some 3:=by kernel_rfl
 rw[e] at a⊢;simp only[o4] at a⊢;rw[(Ql hW j (show 3<10 by omega)).2];exact a
def aaq(B:Nat)(w:World)(n:Nat):Below B w (w.drewN n):=⟨rfl,rfl,rfl,iN _,λ_ _=>rfl⟩
def Sa(w:World)(n:Nat)(a:Array Obj):Below w.heap.size w (Sort.grow (w.drewN n) a):=⟨rfl,rfl,rfl,by show _<=(w.heap++a).size;simp,λk e=>by
 show(w.heap++a)[k]?=_
 rw[QH e]⟩
def aar(w:World)(e:TypeId)(s:ByteArray):Below w.heap.size w (Lib.bytesWorld w e s):=⟨rfl,rfl,rfl,by rw[ai5];omega,λj a=>ai6 w e s j a⟩
variable(W)
def k81(hW:oW W)(n:Nat):lq W 81 (Yk n):=by
 refine⟨enters Tryz.func81 (by kernel_rfl),λγ w u E x y D F C j=>?_⟩;obtain⟨a,_⟩:=x
 match u,C with
 |[N],C=>
  obtain⟨H,P⟩:=C;obtain rfl:=zK H;have j:oB n a=some y:=j;unfold oB at j;split at j
  ·rename_i A;injection j with j;subst j;have I:Calls Tryz.prog 81 #[.int .i64 a] w _:=Any.strconv_Itoa Tryz.aeU a A.1 A.2 w (ada hW F);refine Calls.mono I λe w' J=>?_;obtain⟨rfl,k,M,rfl⟩:=J;exact⟨_,γ,rfl,rW D (Sa w k M) (lC D),Rd.s _ _,trivial,trivial⟩
  ·cases j
def ahu(n:Nat):lq W 176 (XF n):=by
 refine⟨enters Tryz.func176 (by kernel_rfl),λγ w u E x y D N C j=>?_⟩;obtain⟨s,a,_⟩:=x
 match u,C with
 |[P,Q],C=>
  obtain⟨F,H,R⟩:=C;obtain rfl:=tJ F;obtain rfl:=zK H;have j:wX n s a=some y:=j;unfold wX at j;split at j
  ·rename_i A;injection j with j;subst j;obtain⟨c,rfl⟩:=hV A.1;have I:Calls Tryz.prog 176 #[.string ⟨⟨s⟩⟩,.int .i64 (c:Int)] w _:=Any.strings_Repeat Tryz.aeV Tryz.ac9 ⟨⟨s⟩⟩ c w (by omega) (by
    have:=A.2.2
    show s.length*c<=_
    exact Int.ofNat_le.1 (by rw[Int.natCast_mul];exact this));refine Calls.mono I λe w' J=>?_;obtain⟨rfl,M⟩:=J;exact⟨_,γ,rfl,rW D M (lC D),Rd.s _ _,trivial,trivial,trivial⟩
  ·cases j
def Kv{c:Rc}{m:Option Gp}{a b:TV}{x y:Value}(h:iz a=true)(C:iz b=true)(D:Rd c (lh m 0 0) a x)(E:Rd c (lh m 0 1) b y):Rd c m (.fp [a,b]) (.tuple #[x,y]):=by
 refine Rd.fp m [a,b] #[x,y] (λF A=>?_) rfl λj F v u e=>?_
 ·simp only[eG,mq,l8] at A;rcases A with rfl|rfl
  ·exact h
  ·exact C
 ·match j with
  |0=>injection u with u;injection e with e;subst u;subst e;exact D
  |1=>injection u with u;injection e with e;subst u;subst e;exact E
  |j+2=>cases u
def aeW{c:Rc}{m:Option Gp}{a b d:TV}{x y z:Value}(h:iz a=true)(C:iz b=true)(D:iz d=true)(E:Rd c (lh m 0 0) a x)(F:Rd c (lh m 0 1) b y)(H:Rd c (lh m 0 2) d z):Rd c m (.fp [a,b,d]) (.tuple #[x,y,z]):=by
 refine Rd.fp m [a,b,d] #[x,y,z] (λI A=>?_) rfl λj I v u e=>?_
 ·simp only[eG,mq,l8] at A;rcases A with rfl|rfl|rfl
  ·exact h
  ·exact C
  ·exact D
 ·match j with
  |0=>injection u with u;injection e with e;subst u;subst e;exact E
  |1=>injection u with u;injection e with e;subst u;subst e;exact F
  |2=>injection u with u;injection e with e;subst u;subst e;exact H
  |j+3=>cases u
def k94(hW:oW W)(n:Nat):lq W 94 (Yl n):=by
 refine⟨enters Tryz.func94 (by kernel_rfl),λγ w j D x y C E u a=>?_⟩;obtain⟨s,p,_⟩:=x
 match j,u with
 |[N,P],u=>
  obtain⟨F,H,Q⟩:=u;obtain rfl:=tJ F;obtain rfl:=tJ H;have a:zZ n s p=some y:=a;unfold zZ at a;split at a
  ·rename_i A;injection a with a;subst a;obtain⟨m,I⟩:=hW.mx;have J:Calls Tryz.prog 94 #[.string ⟨⟨s⟩⟩,.string ⟨⟨p⟩⟩] w _:=Any.strings_Cut Tryz.aeS ⟨⟨s⟩⟩ ⟨⟨p⟩⟩ m w A ((Js hW E (show 1<10 by omega)).trans I);refine Calls.mono J λe w' M=>?_;obtain⟨rfl,k,rfl⟩:=M;exact⟨_,γ,rfl,rW C (aaq _ w k) (lC C),aeW rfl rfl rfl (Rd.s _ _) (Rd.s _ _) (Rd.b _ _),trivial,trivial,trivial⟩
  ·cases a
def ahv(hW:oW W)(n:Nat):lq W 142 (XC n):=by
 refine⟨enters Tryz.func142 (by kernel_rfl),λγ w u Q x y j P E a=>?_⟩;obtain⟨s,_⟩:=x
 match u,E with
 |[Y],E=>
  obtain⟨R,Z⟩:=E;obtain rfl:=tJ R;have a:Gu n s=some y:=a;unfold Gu at a;split at a
  ·rename_i S;injection a with a;subst a;cases F:Lib.atoiAll s with
   |ok v=>
    have A:Calls Tryz.prog 142 #[.string ⟨⟨s⟩⟩] w _:=Any.strconv_Atoi_ok Tryz.OY ⟨⟨s⟩⟩ (by show s.length<=_;omega) v F w;refine Calls.mono A λe w' C=>?_;obtain⟨rfl,U⟩:=C;have D:Below w.heap.size w w':=by
     rcases U with rfl|⟨t,rfl⟩
     ·exact Below.refl _ _
     ·exact aar _ _ _
    exact⟨_,γ,rfl,rW j D (lC j),Kv rfl rfl (Rd.i _ _ _) (Rd.sP _),trivial,trivial⟩
   |range=>
    obtain⟨H,I,J⟩:=hW.e5;have A:Calls Tryz.prog 142 #[.string ⟨⟨s⟩⟩] w _:=Any.strconv_Atoi_range Tryz.OY ⟨⟨s⟩⟩ (by show s.length<=_;omega) F _ w ((Js hW P (show 5<10 by omega)).trans J) (.inr ⟨H,I,rfl⟩);refine Calls.mono A λe w' C=>?_;obtain⟨N,rfl,_,_,D⟩:=C;exact⟨_,γ,rfl,rW j D (lC j),Kv rfl rfl (Rd.i _ _ _) (Rd.sO _ _ _),trivial,trivial⟩
   |_=>
    obtain⟨H,I,M⟩:=hW.e4;have A:Calls Tryz.prog 142 #[.string ⟨⟨s⟩⟩] w _:=Any.strconv_Atoi_syntax Tryz.OY ⟨⟨s⟩⟩ (by show s.length<=_;omega) F _ w ((Js hW P (show 4<10 by omega)).trans M) (.inr ⟨H,I,rfl⟩);refine Calls.mono A λe w' C=>?_;obtain⟨N,rfl,_,_,D⟩:=C;exact⟨_,γ,rfl,rW j D (lC j),Kv rfl rfl (Rd.i _ _ _) (Rd.sO _ _ _),trivial,trivial⟩
  ·cases a
end
end Go.Sd
namespace Go.Proofs
open Go.Shelf
set_option maxRecDepth 100000 in
def clone_any{P:Program}{ρ:Ren}(L:SlLaysE0.n41 P ρ)(i0:TypeInfo)(z:Value)(size bytes:Nat)(hi:P.info? (ρ.t 23)=some i0)(hz0:i0.zero=some z)(hz1:i0.size=size)(hz2:i0.bytes=bytes)(hzs:z.cells.size=size)(hsz:0<size)
  (z23:∀w,(Go.sizeOf (ρ.t 23)).run P w=.ok size w)(ad:Addr)(n c:Nat)(news:List Value)(w:World)(hl:news.length=n*size)(hn:n<=maxLen)(hbig:n*bytes<=140737488355328)
  (hc:∀j u,news[j]?=some u->w.cell? (ad.add j)=some u)(h1:∀u∈news,u.oneCell'=true):
  Calls P (ρ.f 41) #[.slice (some ad) n c] w λe w'=>∃v',e=.returned v'/\w'.ownsRow w.heap.size (ρ.t 23) size v' n news/\RowKit.Below w.heap.size w w':=by
 have mixed:=L.mixed;have t4:=L.t4;have a4:=L.a4;have z4:=L.z4;have v4:=L.v4;have t22:=L.t22;have a22:=L.a22;have z22:=L.z22;have v22:=L.v22;have q22:∀(w:World)(a:Option Addr)(n c n' c':Nat),(binOp .eql (ρ.t 22) (.slice a n c) (.slice none n' c')).run P w=.ok (.bool a.isNone) w:=λw a n c n' c'=>Lib.run_eql_slice_nil w _ _ a n c n' c' L.t22;have u22:∀w,Sem.run P (underlying (ρ.t 22)) w=.ok (TypeDesc.slice (ρ.t 23)) w:=lx t22;have A:Aside (∀j u,news[j]?=some u->w.cell? (ad.add j)=some u):=hc;clear hc;obtain⟨_,_,FG⟩:=L.f41
 go_enter FG,SlBodyN.n41_ntmps ρ
 go_wp2_with (at_builtin;refine wpList_append_own _ rfl _ _ (ρ.t 22) rfl w.heap.size (ρ.t 23) i0 z size bytes t22 hi hz0 hz1 hz2 hzs hsz _ _ _ rfl (World.ownsRow_made w #[] 0 (iN _) (yi _) (by simp)) ad n c news rfl ?qc1 ?qc2 ?qc3 ?qc4 ?qc5 ?qc6 ?_)
 case qc1=>exact hl
 case qc2=>exactλj u hj=>Lib.cell?_alloc_some _ (A.out j u hj)
 case qc3=>exact h1
 case qc4=>rw[iB];exact hn
 case qc5=>rw[iB];exact hbig
 case qc6=>simp
 intro v' w1 hown hgrow hnil
 go_wp2
 go_ret
 exact⟨v',rfl,by simpa using hown,((RowKit.Below.refl _ w).alloc (iN _) _).grown hgrow (by simp) (by intro k hk;simp[Value.ownBlock] at hk;omega)⟩
end Go.Proofs
namespace Go.Sd
open Go Go.RowKit
open Go.Ev hiding World cY Rd
open Go.Proofs hiding Enters
section
variable{W:World}{γ:Nat->G}{w w':World}
def OZ{c:Rc}{i:Nat}{A v:Value}{t:Ty}{u:List (El t)}(h:rz c i A (.val (.sl .l t)) u v):(u=[]/\∃a e,v=.slice a 0 e)\/∃b o e,∃f:Nat->Nat->Value,v=.slice (some ⟨b,o,none⟩) u.length e/\u.length<=e/\c.γ b=.im/\
   (∀(r:Nat)x(j:Nat)y,u[r]?=some x->(enc false t x)[j]?=some y->eK c.w b (o+r*cI t+j)=some (f r j)/\(f r j).oneCell'=true)/\
   (∀(r:Nat)x(j:Nat)y,u[r]?=some x->(enc false t x)[j]?=some y->Rd c none y (f r j)):=by
 have h:Rd c (some (.cE i,[])) (.eb t u) v:=by
  cases t<;>exact h
 exact h.qZ
def VA{X:Rt->dv->Prop}(e:∀b,w.heap.size<=b->γ b=.fr)(h:Below w.heap.size w w'){g:Nat}(y:w.heap.size<=g)(j:g<w'.heap.size)(x:G):dK X γ w (iI γ g x) w' where
 im:=λb a=>by
  have:=lC e b (by rw[a];simp);exact⟨by rw[j1 (by omega)];exact a,h.block b this⟩
 at':=λb q p a _=>by
  have:=lC e b (by rw[a];simp);exact⟨by rw[j1 (by omega)];exact a,h.block b this⟩
 fr:=λb a u=>⟨by rw[j1 (by omega)];exact u,h.block b a⟩
 size:=h.size
 new:=λb a=>by
  have:=h.size;rw[j1 (by omega)];exact e b (by omega)
 tape:=h.tape
 os:=h.os
 output:=h.output
def af3(C:∀b,w.heap.size<=b->γ b=.fr)(h:Below w.heap.size w w'){g:Nat}(E:w.heap.size<=g)(x:G){tv:TV}{v:Value}(A:Rd (ea γ w) none tv v)(m:Option Gp):Rd (ea (iI γ g x) w') m tv v:=by
 have a:∀p,¬ MV p tv:=λp j=>by
  obtain⟨u,D⟩:=A.K9 j
  cases D
 exact Rd.lift (Rd.same (c':=ea (iI γ g x) w') A (λb y=>by
  have y:γ b=.im:=y
  have:=lC C b (by rw[y];simp)
  exact⟨by show iI γ g x b=_;rw[j1 (by omega)];exact y,h.block b this⟩) (λ_ _ e=>by cases e) (λ_ _=>rfl) (λp j=>(a p j).elim) λp j=>(a p j.mv).elim) m
def kC(n k:Nat)(f:Nat->Nat->Value):List Value:=(List.range (n*k)).map λj=>f (j/k) (j % k)
def rX{n k r j:Nat}{f:Nat->Nat->Value}(u:r<n)(e:j<k):(kC n k f)[r*k+j]?=some (f r j):=by
 have a:r*k+j<n*k:=by
  have:(r+1)*k<=n*k:=mT _ (by omega)
  rw[jO] at this
  omega
 unfold kC;rw[iA,Az a];simp only[jx];rw[v7 r k,Nat.mul_add_div (by omega),QI e,rI,Nat.mul_add_mod,AA e]
def qh{n k:Nat}{f:Nat->Nat->Value}:(kC n k f).length=n*k:=by simp[kC]
def WC{t:Ty}{xs:List (El t)}{f:Nat->Nat->Value}{e:TypeId}{v':Value}(N:Nat)(F:∀b,w.heap.size<=b->γ b=.fr)(h:Below w.heap.size w w')
  (u:w'.ownsRow w.heap.size e (cI t) v' xs.length (kC xs.length (cI t) f))
  (R:∀x:El t,(enc false t x).length=cI t)
  (S:∀(r:Nat)x(j:Nat)y,xs[r]?=some x->(enc false t x)[j]?=some y->(f r j).oneCell'=true)
  (U:∀(r:Nat)x(j:Nat)y,xs[r]?=some x->(enc false t x)[j]?=some y->Rd (ea γ w) none y (f r j)):
  ∃A,dK (λq _=>∃n,q=.cE n) γ w A w'/\Rd (ea A w') (some (.cE N,[])) (.own false t xs) v':=by
 obtain⟨_,u⟩:=u;rcases u with⟨rfl,Y⟩|⟨g,I,C,rfl,Q,H,D,_,Z,J⟩
 ·have:xs=[]:=og.1 Y;subst this;exact⟨γ,rW F h (lC F),Rd.jU _ _ _ _⟩
 ·have M:g<w'.heap.size:=by
    rcases yn g w'.heap.size with h|h
    ·exact h
    ·rw[yl h] at H;cases H
  refine⟨iI γ g (.at (.cE N) [tg t]),VA F h Q M _,Rd.kE (.cE N) [] false t xs g 0 I C e (0,0) f D qj H ng.zero (by omega) (λr x j y hx E=>⟨?_,S r x j y hx E⟩) λr x j y hx E=>af3 F h Q _ (U r x j y hx E) _⟩;have hr:r<xs.length:=by
   rcases yn r xs.length with h|h
   ·exact h
   ·rw[nI h] at hx;cases hx
  have P:j<cI t:=by
   rw[<-R x]
   rcases yn j (enc false t x).length with h|h
   ·exact h
   ·rw[nI h] at E;cases E
  have a:=rX (f:=f) hr P;rw[<-J,o5] at a;split at a
  ·have:C[r*cI t+j]?=some (f r j):=by simpa using a
   simp[eK,World.cell?,ea,H,this]
  ·cases a
variable(W)
def ahw(n:Nat):lq W 133 (XE n):=by
 refine⟨enters Tryz.func133 (by kernel_rfl),λγ w P ad(x:List cq×cq×Unit)(y:cq)Y hG Z E=>?_⟩;obtain⟨xs,p,_⟩:=x
 match P,Z with
 |[v1,v2],Z=>
  obtain⟨h1,h2,h3⟩:=Z;obtain rfl:=tJ h2;have E:CZ n xs p=some y:=E;unfold CZ at E;split at E
  ·rename_i Q;injection E with E;subst E;have C:∀{w':World},Below w.heap.size w w'->∃v R,Ending.returned (.string ⟨⟨Lib.join xs p⟩⟩)=.returned v/\dK (λq _=>∃n,q=.cE n) γ w R w'/\rA (ea R w') 2 [.val (.el .str [])] ((Lib.join xs p,()):j7 [.val (.el .str [])]) v/\(True/\True/\True):=λS=>
    ⟨_,γ,rfl,rW Y S (lC Y),Rd.s _ _,trivial,trivial,trivial⟩
   rcases OZ h1 with⟨rfl,a,u,rfl⟩|⟨b,o,u,f,rfl,U,aa,J,ab⟩
   ·have F:Calls Tryz.prog 133 #[.slice a 0 u,.string ⟨⟨p⟩⟩] w _:=Any.strings_Join_none Tryz.CO Tryz.Cy a u ⟨⟨p⟩⟩ w;refine Calls.mono F λe w' M=>?_;obtain⟨rfl,rfl⟩:=M;exact C (Below.refl _ _)
   ·have S:b<w.heap.size:=lC Y b (by rw[show γ b=.im from aa];simp);have A:∀(j:Nat)x,(xs.map λs=>(⟨⟨s⟩⟩:ByteArray))[j]?=some x->w.cell? ⟨b,o+j,none⟩=some (.string x):=λj x hx=>by
     rw[iA] at hx
     cases D:xs[j]? with
     |none=>rw[D] at hx;cases hx
     |some s=>
      rw[D] at hx
      injection hx with hx
      subst hx
      obtain⟨N,_⟩:=J j s 0 (.s s) D rfl
      have hv:=(ab j s 0 (.s s) D rfl).nT
      rw[hv] at N
      have:o+j*cI .str+0=o+j:=by simp[cI]
      rw[this] at N
      exact N
    have H:(xs.map λs=>(⟨⟨s⟩⟩:ByteArray)).map (λx=>x.data.toList)=xs:=by
     rw[DO]
     exact QO _
    rcases xs with _|⟨s,_|⟨s2,l⟩⟩
    ·have F:Calls Tryz.prog 133 #[.slice (some ⟨b,o,none⟩) 0 u,.string ⟨⟨p⟩⟩] w _:=Any.strings_Join_none Tryz.CO Tryz.Cy _ u ⟨⟨p⟩⟩ w;refine Calls.mono F λe w' M=>?_;obtain⟨rfl,rfl⟩:=M;exact C (Below.refl _ _)
    ·have F:Calls Tryz.prog 133 #[.slice (some ⟨b,o,none⟩) 1 u,.string ⟨⟨p⟩⟩] w _:=Any.strings_Join_one Tryz.CO Tryz.Cy b o u ⟨⟨s⟩⟩ ⟨⟨p⟩⟩ w (A 0 ⟨⟨s⟩⟩ rfl);refine Calls.mono F λe w' M=>?_;obtain⟨rfl,rfl⟩:=M;have e:Lib.join [s] p=s:=Lib.join_one s p;have I:=C (Below.refl _ w');rw[e] at I;rw[e];exact I
    ·have F:=Any.strings_Join_many Tryz.CO Tryz.Cy b o u ((s::s2::l).map λs=>(⟨⟨s⟩⟩:ByteArray)) ⟨⟨p⟩⟩ w A S (by simp) (by rw[o8];exact Q.1) (by rw[o8];exact U) (by rw[H];exact Q.2);rw[H,o8] at F;refine Calls.mono (show Calls Tryz.prog 133 #[.slice (some ⟨b,o,none⟩) (s::s2::l).length u,.string ⟨⟨p⟩⟩] w _ from F) λe w' M=>?_;obtain⟨rfl,S⟩:=M;exact C S
  ·cases E
end
section
variable{W:World}{γ:Nat->G}{w w':World}
def aas(w:World)(o:Obj):Below w.heap.size w (w.alloc o):=(Below.refl _ w).alloc (iN _) _
def aeX{l:List ByteArray}{y:List cq}{e:TypeId}(N:Nat)(H:l.map (λx=>x.data.toList)=y)(I:w'.heap[w.heap.size]?=some (.cells (l.map Value.string).toArray e)):Rd (ea (iI γ w.heap.size (.at (.cE N) [tg .str])) w') (some (.cE N,[])) (.own true .str y) (.slice (some ⟨w.heap.size,0,none⟩) l.length l.length):=by
 have A:∀(r:Nat)(x:cq),y[r]?=some x->l[r]?=some ⟨⟨x⟩⟩:=λr x hx=>by
  rw[<-H,iA] at hx
  cases J:l[r]? with
  |none=>rw[J] at hx;cases hx
  |some q=>
   rw[J] at hx
   injection hx with hx
   rw[<-hx]
 have C:y.length=l.length:=by rw[<-H,o8]
 have D:∀(x:cq)(j:Nat)(u:TV),(enc true .str x)[j]?=some u->j=0/\u=.s x:=λx j u a=>by
  match j with
  |0=>injection a with a;exact⟨rfl,a.symm⟩
  |j+1=>cases a
 have E:Rd (ea (iI γ w.heap.size (.at (.cE N) [tg .str])) w') (some (.cE N,[])) (.own true .str y) (.slice (some ⟨w.heap.size,0,none⟩) y.length l.length):=by
  refine Rd.kE (.cE N) [] true .str y w.heap.size 0 l.length _ e (0,0) (λr _=>.string ⟨⟨(y[r]?).getD []⟩⟩) (Zt C) qj I ng.zero (by simp[cI]) (λr x j u hx a=>?_) λr x j u hx a=>?_
  ·obtain⟨rfl,rfl⟩:=D x j u a;have hx:y[r]?=some x:=hx;have M:=A r x hx;have:(l.map Value.string)[r]?=some (.string ⟨⟨x⟩⟩):=by rw[iA,M];rfl
   refine⟨?_,rfl⟩;have F:(y[r]?).getD ([]:cq)=x:=by rw[hx];rfl
   rw[F];simp only[eK,World.cell?,ea,I];simpa[cI] using this
  ·obtain⟨rfl,rfl⟩:=D x j u a;have hx:y[r]?=some x:=hx;have F:(y[r]?).getD ([]:cq)=x:=by rw[hx];rfl
   rw[F];exact Rd.s _ _
 rw[C] at E;exact E
variable(W)
def ahx(hW:oW W)(n:Nat):lq W 100 (XD n):=by
 refine⟨enters Tryz.func100 (by kernel_rfl),λγ w u H(x:cq×cq×Unit)(y:List cq)I J C a=>?_⟩;obtain⟨s,p,_⟩:=x
 match u,C with
 |[U,Y],C=>
  obtain⟨M,N,Z⟩:=C;obtain rfl:=tJ M;obtain rfl:=tJ N;have a:q7 n s p=some y:=a;unfold q7 at a;split at a
  ·rename_i A;injection a with a;obtain⟨m,P⟩:=hW.mx;have D:(Lib.splitB ⟨⟨p⟩⟩ 0 (Lib.countB ⟨⟨s⟩⟩ ⟨⟨p⟩⟩) ⟨⟨s⟩⟩).map (λx=>x.data.toList)=y:=by rw[<-a];exact Lib.splitB_data _ _ _ _
   have E:1<=(⟨⟨p⟩⟩:ByteArray).size:=A.2;have j:(Lib.splitB ⟨⟨p⟩⟩ 0 (Lib.countB ⟨⟨s⟩⟩ ⟨⟨p⟩⟩) ⟨⟨s⟩⟩).length=Lib.countB ⟨⟨s⟩⟩ ⟨⟨p⟩⟩+1:=Lib.splitB_all _ E _ _ _ rfl;have F:Calls Tryz.prog 100 #[.string ⟨⟨s⟩⟩,.string ⟨⟨p⟩⟩] w _:=Any.strings_Split Tryz.aeT (by kernel_rfl) ⟨⟨s⟩⟩ ⟨⟨p⟩⟩ m w A.1 ((Js hW J (show 1<10 by omega)).trans P) E;rw[<-j] at F;refine Calls.mono F λe w' Q=>?_;obtain⟨rfl,rfl⟩:=Q;generalize Lib.splitB ⟨⟨p⟩⟩ 0 (Lib.countB ⟨⟨s⟩⟩ ⟨⟨p⟩⟩) ⟨⟨s⟩⟩=l at D j;have R:=aas w (.cells (l.map Value.string).toArray (Tryz.Ic.t 9));have S:(w.alloc (.cells (l.map Value.string).toArray (Tryz.Ic.t 9))).heap[w.heap.size]?=some (.cells (l.map Value.string).toArray (Tryz.Ic.t 9)):=by
    show(w.heap.push _)[w.heap.size]?=_;simp
   exact⟨_,iI γ w.heap.size (.at (.cE 2) [tg .str]),rfl,VA I R (iN _) (by show _<(w.heap.push _).size;simp) _,aeX 2 D S,trivial,trivial,trivial⟩
  ·cases a
def JQ{t:Ty}{f:Nat}{I:Go.Shelf.Ren}(L:Go.Proofs.SlLaysE0.n41 Tryz.prog I)(J:TypeInfo)(z:Value)(bytes:Nat)(hi:Tryz.prog.info? (I.t 23)=some J)(M:J.zero=some z)(N:J.size=cI t)(P:J.bytes=bytes)(Q:z.cells.size=cI t)(E:0<cI t)(aa:bytes<=1000)
  (R:∀w,(Go.sizeOf (I.t 23)).run Tryz.prog w=.ok (cI t) w){xs:List (El t)}{v1 Y:Value}(Z:∀b,w.heap.size<=b->γ b=.fr)(h1:rz (ea γ w) 0 Y (.val (.sl .l t)) xs v1)(hl:xs.length<4294967296):
  Calls Tryz.prog (I.f 41) #[v1] w λe w'=>∃v y,e=.returned v/\dK (λq _=>∃n,q=.cE n) γ w y w'/\Rd (ea y w') (some (.cE 1,[])) (.own false t xs) v:=by
 have ab:∀(a:Option Addr)(A:Nat),Calls Tryz.prog (I.f 41) #[.slice a 0 A] w λe w'=>∃v y,e=.returned v/\dK (λq _=>∃n,q=.cE n) γ w y w'/\Rd (ea y w') (some (.cE 1,[])) (.own false t []) v:=λa A=>by
  cases a with
  |none=>
   refine Calls.mono (AnyE.slices_Clone_nil L 0 A w) λe w' S=>?_
   obtain⟨rfl,rfl⟩:=S
   exact⟨_,γ,rfl,rW Z (Below.refl _ _) (lC Z),Rd.jU _ _ _ _⟩
  |some ad=>
   refine Calls.mono (clone_any L J z (cI t) bytes hi M N P Q E R ad 0 A [] w (by simp) (by omega) (by omega) (by simp) (by simp)) λe w' S=>?_
   obtain⟨v',rfl,C,hb⟩:=S
   have H:w'.ownsRow w.heap.size (I.t 23) (cI t) v' ([]:List (El t)).length (kC ([]:List (El t)).length (cI t) λ_ _=>.bool true):=by
    have:kC ([]:List (El t)).length (cI t) (λ_ _=>Value.bool true)=[]:=og.1 (by rw[qh];simp)
    rw[this];exact C
   obtain⟨y,h2,h3⟩:=WC (xs:=([]:List (El t))) 1 Z hb H (λx=>iu _ _ _) (λr x j tv hx=>by simp at hx) (λr x j tv hx=>by simp at hx)
   exact⟨v',y,rfl,h2,h3⟩
 rcases OZ h1 with⟨rfl,a,A,rfl⟩|⟨b,o,A,g,rfl,ai,aj,D,ae⟩
 ·exact ab a A
 ·have U:∀j u,(kC xs.length (cI t) g)[j]?=some u->w.cell? ((⟨b,o,none⟩:Addr).add j)=some u/\u.oneCell'=true:=λj u F=>by
    have af:j<xs.length*cI t:=by
     rw[<-qh (f:=g)]
     rcases yn j (kC xs.length (cI t) g).length with h|h
     ·exact h
     ·rw[nI h] at F;cases F
    have hm:j % cI t<cI t:=Mk _ E;have Y:j/cI t<xs.length:=by
     rw[Nat.div_lt_iff_lt_mul E];exact af
    have e:=rX (f:=g) Y hm;have ej:j/cI t*cI t+j % cI t=j:=by rw[v7];exact QK j _
    rw[ej,F] at e;injection e with e;obtain⟨X,hx⟩:∃X,xs[j/cI t]?=some X:=⟨_,eN Y⟩;obtain⟨tv,ah⟩:∃tv,(enc false t X)[j % cI t]?=some tv:=⟨_,eN (by rw[iu];exact hm)⟩;obtain⟨c1,c2⟩:=D _ _ _ _ hx ah;rw[<-e] at c1 c2;rw[show o+j/cI t*cI t+j % cI t=o+j by omega] at c1;refine⟨?_,c2⟩;rw[Addr.add_lit];exact c1
  refine Calls.mono (clone_any L J z (cI t) bytes hi M N P Q E R ⟨b,o,none⟩ xs.length A (kC xs.length (cI t) g) w qh (by unfold maxLen;omega) (by
   have:xs.length*bytes<=4294967296*1000:=Ml (by omega) aa
   omega) (λj u F=>(U j u F).1) λu hu=>by
   obtain⟨j,F,rfl⟩:=p8 hu
   exact(U j _ (eN F)).2) λe w' S=>?_;obtain⟨v',rfl,C,hb⟩:=S;obtain⟨y,h2,h3⟩:=WC 1 Z hb C (λx=>iu _ _ _) (λr x j tv hx F=>(D r x j tv hx F).2) ae;exact⟨v',y,rfl,h2,h3⟩
end
section
variable(W:World)
noncomputable def Xi(T:TypeId)(k:Nat):Bool:=match Tryz.prog.info? T with
 |some i=>(match i.zero with|some z=>Nat.beq i.size k&&Nat.beq z.cells.size k|none=>false)&&Nat.ble i.bytes 1000
 |none=>false
def xf{T:TypeId}{k:Nat}(h:Xi T k=true):∃i z,Tryz.prog.info? T=some i/\i.zero=some z/\i.size=k/\z.cells.size=k/\i.bytes<=1000:=by
 unfold Xi at h;cases e:Tryz.prog.info? T with
 |none=>rw[e] at h;cases h
 |some i=>
  rw[e] at h;simp only at h;cases a:i.zero with
  |none=>rw[a] at h;simp at h
  |some z=>
   rw[a] at h;simp only[dF] at h;exact⟨i,z,rfl,a,gU h.1.1,gU h.1.2,Zw h.2⟩
def ahy(n:Nat):lq W 182 (XK n):=by
 refine⟨enters Tryz.func182 (by kernel_rfl),λZ w j D(x:List dy×Unit)(y:List dy)E hG u a=>?_⟩;obtain⟨F,_⟩:=x
 match j,u with
 |[H],u=>
  obtain⟨I,h3⟩:=u;have a:Fy n F=some y:=a;unfold Fy at a;split at a
  ·rename_i A;injection a with a;subst a;obtain⟨i,z,J,M,N,P,Q⟩:=xf (T:=Tryz.Rl.t 23) (k:=3) (by kernel_rfl);have R:Calls Tryz.prog 182 #[H] w _:=JQ (t:=.hold) (f:=182) Tryz.ac6 i z i.bytes J M N rfl P (by decide) Q (λw=>by kernel_rfl) E I A;refine Calls.mono R λe w' S=>?_;obtain⟨v,C,rfl,U,Y⟩:=S;exact⟨v,C,rfl,U,Y.Cg rfl,trivial,trivial⟩
  ·cases a
def ahz(n:Nat):lq W 180 (XJ n):=by
 refine⟨enters Tryz.func180 (by kernel_rfl),λZ w j D(x:List Int×Unit)(y:List Int)E hG u a=>?_⟩;obtain⟨F,_⟩:=x
 match j,u with
 |[H],u=>
  obtain⟨I,h3⟩:=u;have a:Fx n F=some y:=a;unfold Fx at a;split at a
  ·rename_i A;injection a with a;subst a;obtain⟨i,z,J,M,N,P,Q⟩:=xf (T:=Tryz.Rk.t 23) (k:=1) (by kernel_rfl);have R:Calls Tryz.prog 180 #[H] w _:=JQ (t:=.int .i64) (f:=180) Tryz.ac5 i z i.bytes J M N rfl P (by decide) Q (λw=>by kernel_rfl) E I A;refine Calls.mono R λe w' S=>?_;obtain⟨v,C,rfl,U,Y⟩:=S;exact⟨v,C,rfl,U,Y.Cg rfl,trivial,trivial⟩
  ·cases a
def ahA(n:Nat):lq W 126 (XM n):=by
 refine⟨enters Tryz.func126 (by kernel_rfl),λZ w j D(x:List dt×Unit)(y:List dt)E hG u a=>?_⟩;obtain⟨F,_⟩:=x
 match j,u with
 |[H],u=>
  obtain⟨I,h3⟩:=u;have a:FB n F=some y:=a;unfold FB at a;split at a
  ·rename_i A;injection a with a;subst a;obtain⟨i,z,J,M,N,P,Q⟩:=xf (T:=Tryz.Rn.t 23) (k:=4) (by kernel_rfl);have R:Calls Tryz.prog 126 #[H] w _:=JQ (t:=.op) (f:=126) Tryz.ac8 i z i.bytes J M N rfl P (by decide) Q (λw=>by kernel_rfl) E I A;refine Calls.mono R λe w' S=>?_;obtain⟨v,C,rfl,U,Y⟩:=S;exact⟨v,C,rfl,U,Y.Cg rfl,trivial,trivial⟩
  ·cases a
def ahB(n:Nat):lq W 124 (XL n):=by
 refine⟨enters Tryz.func124 (by kernel_rfl),λZ w j D(x:List eD×Unit)(y:List eD)E hG u a=>?_⟩;obtain⟨F,_⟩:=x
 match j,u with
 |[H],u=>
  obtain⟨I,h3⟩:=u;have a:FA n F=some y:=a;unfold FA at a;split at a
  ·rename_i A;injection a with a;subst a;obtain⟨i,z,J,M,N,P,Q⟩:=xf (T:=Tryz.Rm.t 23) (k:=3) (by kernel_rfl);have R:Calls Tryz.prog 124 #[H] w _:=JQ (t:=.stx) (f:=124) Tryz.ac7 i z i.bytes J M N rfl P (by decide) Q (λw=>by kernel_rfl) E I A;refine Calls.mono R λe w' S=>?_;obtain⟨v,C,rfl,U,Y⟩:=S;exact⟨v,C,rfl,U,Y,trivial,trivial⟩
  ·cases a
end
end Go.Sd
namespace Go.Proofs
open Go.Shelf Go.RowKit
def wpList_append_run{P:Program}{j:Array Oper}{e:List Oper}{o:Oper}{a:Act}{Q:Exit->Act->World->Prop}{w A:World}(u:o.guard=none)(s x:Operand)(t C:TypeId)
  (I:o.op=.call {callee:=.builtin .append,args:=#[s,x],argTypes:=#[t,C]}){D E F:Value}(J:a.eval s=D)(hx:a.eval x=E){H:TypeId}(y:o.type=H)
  (M:(Builtin.append_ #[t,C] H #[D,E]).run P w=.ok F A)(h:wpList P j Q e (a.put o.dst F) A):wpList P j Q (o::e) a w:=
 wpList_plain u λ_ N=>by
  subst y;unfold Oper.wp execOp;simp only[I,resolve,invoke,builtin,rJ,Zl,Result.andThen_ok,List.map_toArray,lz,s7,J,hx,M];exact N _ _ h
set_option maxHeartbeats 2000000 in
set_option maxRecDepth 100000 in
def bwrite_walk{b:Nat}{ao ao':Option Addr}{n0 cap n1 cap':Nat}{s:ByteArray}{w w1 w2:World}(hcc:Calls Tryz.prog 211 #[.pointer (some ⟨b,0,none⟩)] w λe w'=>e=.returned (.tuple #[])/\w'=w1)
  (hb1:w1.heap[b]?=some (.cells #[.pointer (some ⟨b,0,none⟩),.slice ao n0 cap] 181 (0,0)))
  (hap:(Builtin.append_ #[22,9] 22 #[.slice ao n0 cap,.string s]).run Tryz.prog w1=.ok (.slice ao' n1 cap') w2)
  (hb2:w2.heap[b]?=some (.cells #[.pointer (some ⟨b,0,none⟩),.slice ao n0 cap] 181 (0,0))):
  Calls Tryz.prog 170 #[.pointer (some ⟨b,0,none⟩),.string s] w λe w'=>e=.returned (.tuple #[.int .i64 s.size,.nilIface])/\w'=w2.setCell ⟨b,1,none⟩ (.slice ao' n1 cap'):=by
 go_enter Tryz.func170,Tryz.ntmps170
 go_wp2_with (go_at_call 211;refine hcc.mono ?_)
 rintro e w' ⟨rfl,rfl⟩;have c0:w'.cell? ⟨b,0,none⟩=some (.pointer (some ⟨b,0,none⟩)):=by rw[Lib.cell_of_heap hb1];rfl
 have c1:w'.cell? ⟨b,1,none⟩=some (.slice ao n0 cap):=by rw[Lib.cell_of_heap hb1];rfl
 have d0:w2.cell? ⟨b,0,none⟩=some (.pointer (some ⟨b,0,none⟩)):=by rw[Lib.cell_of_heap hb2];rfl
 have d1:w2.cell? ⟨b,1,none⟩=some (.slice ao n0 cap):=by rw[Lib.cell_of_heap hb2];rfl
 have f1:w2.frozen? ⟨b,1,none⟩=false:=Lib.frozen_of_heap hb2 1
 go_wp2_with (at_builtin;refine wpList_append_run rfl _ _ 22 9 rfl rfl rfl rfl hap ?_)
 go_wp2
 go_ret2
 exact⟨rfl,rfl⟩
end Go.Proofs
namespace Go.Sd
open Go Go.RowKit
open Go.Ev hiding World cY Rd
open Go.Proofs hiding Enters
section
variable{W:World}{γ:Nat->G}{w w':World}
def At:Cx:=⟨[],λ_=>.un,λ_=>true,true,λ_=>true,λ_=>true,λ_=>[],λ_ _=>none,λ_=>none⟩
def XQ(a:∀b,w.heap.size<=b->γ b=.fr):cQ At ⟨w.heap.size,γ,w⟩ ⟨ql,sr⟩ ⟨γ,λ_=>0,λ_=>.bool true⟩ w where
 fQ k:=by
  rw[show TS.cD ⟨ql,sr⟩ k=.un from MJ k];exact .un _ _
 boxes k:=by
  rw[show TS.box ⟨ql,sr⟩ k=.none from M0 k];trivial
 cL:=⟨rfl,rfl,rfl,iN _,λb _ h=>⟨h,rfl⟩,λb _ h=>⟨h,rfl⟩,a⟩
 gl i:=.un _ _
 ln i:=⟨λp h=>(by cases h),λk h=>by cases h⟩
 gb i o h:=by cases h
def oO(γ:Nat->G)(b:Nat):Nat->G:=λi=>if i=b then .at (.box 0) [] else match γ i with
 |.at q (x::p)=>if q=.cE 0/\x=(0,1) then .at (.cE 0) p else .at q (x::p)
 |y=>y
def af4{b:Nat}:oO γ b b=.at (.box 0) []:=cM rfl
def VB{b i:Nat}(a:γ b≠.im)(h:γ i=.im):oO γ b i=.im:=by
 have e:i≠b:=by rintro rfl;exact a h
 unfold oO;rw[cN e,h]
def VC{b i:Nat}(a:γ b≠.fr)(h:γ i=.fr):oO γ b i=.fr:=by
 have e:i≠b:=by rintro rfl;exact a h
 unfold oO;rw[cN e,h]
def aeY{b i:Nat}{q:Rt}{p:dv}(a:i≠b)(h:γ i=.at q p)(j:∀n,q≠.cE n):oO γ b i=.at q p:=by
 unfold oO;rw[cN a,h];cases p with
 |nil=>rfl
 |cons x p=>exact cN (λe=>j 0 e.1)
def adb{b i:Nat}{p:dv}(a:i≠b)(h:γ i=.at (.cE 0) ((0,1)::p)):oO γ b i=.at (.cE 0) p:=by
 unfold oO;rw[cN a,h];exact cM ⟨rfl,rfl⟩
def aeZ{b:Nat}{A C D:World}{E F:Nat->G}(M:∀i,w.heap.size<=i->γ i=.fr)(H:γ b=.at (.cE 0) [])(N:b<w.heap.size)
  (u:A.heap.size=w.heap.size/\(∀i,i≠b->A.heap[i]?=w.heap[i]?)/\A.tape=w.tape/\A.os=w.os/\A.output=w.output)
  (a:dK (λq _=>∃n,q=.cE n) (oO γ b) A E C)
  (y:D.heap.size=C.heap.size/\(∀i,i≠b->D.heap[i]?=C.heap[i]?)/\D.tape=C.tape/\D.os=C.os/\D.output=C.output)
  (x:∀i,F i=γ i\/∃p,E i=.at (.cE 0) p):dK (λq _=>∃n,q=.cE n) γ w F D where
 im i hi:=by
  have j:i≠b:=by rintro rfl;rw[H] at hi;cases hi
  obtain⟨k1,k2⟩:=a.im i (VB (by rw[H];simp) hi);refine⟨?_,by rw[y.2.1 i j,k2,u.2.1 i j]⟩;rcases x i with e|⟨p,e⟩
  ·rw[e];exact hi
  ·rw[k1] at e;cases e
 at' i q p hi hx:=by
  have I:∀n,q≠.cE n:=λn e=>hx ⟨n,e⟩;have j:i≠b:=by rintro rfl;rw[H] at hi;cases hi;exact I 0 rfl
  obtain⟨k1,k2⟩:=a.at' i q p (aeY j hi I) hx;refine⟨?_,by rw[y.2.1 i j,k2,u.2.1 i j]⟩;rcases x i with e|⟨J,e⟩
  ·rw[e];exact hi
  ·rw[k1] at e;cases e;exact absurd rfl (I 0)
 fr i hi h0:=by
  have j:i≠b:=by rintro rfl;rw[H] at h0;cases h0
  obtain⟨k1,k2⟩:=a.fr i (by rw[u.1];exact hi) (VC (by rw[H];simp) h0);refine⟨?_,by rw[y.2.1 i j,k2,u.2.1 i j]⟩;rcases x i with e|⟨J,e⟩
  ·rw[e];exact h0
  ·rw[k1] at e;cases e
 size:=by have:=a.size;rw[u.1] at this;rw[y.1];exact this
 new i hi:=by
  have P:=a.size;rw[u.1] at P;rw[y.1] at hi;rcases x i with e|⟨J,e⟩
  ·rw[e];exact M i (by omega)
  ·rw[a.new i hi] at e;cases e
 tape:=y.2.2.1.trans (a.tape.trans u.2.2.1)
 os:=y.2.2.2.1.trans (a.os.trans u.2.2.2.1)
 output:=y.2.2.2.2.trans (a.output.trans u.2.2.2.2)
def SR{b i:Nat}{a:Array Value}{t:TypeId}{v:Value}(h:w.heap[b]?=some (.cells a t (0,0))):((w.setCell ⟨b,i,none⟩ v).heap.size=w.heap.size/\(∀k,k≠b->(w.setCell ⟨b,i,none⟩ v).heap[k]?=w.heap[k]?)/\(w.setCell ⟨b,i,none⟩ v).tape=w.tape/\(w.setCell ⟨b,i,none⟩ v).os=w.os/\(w.setCell ⟨b,i,none⟩ v).output=w.output)/\(w.setCell ⟨b,i,none⟩ v).heap[b]?=some (.cells (a.setIfInBounds i v) t (0,0)):=⟨⟨by simp[World.setCell],λk e=>Below.heap_setCell w ⟨b,i,none⟩ v k e,rfl,rfl,rfl⟩,Go.heap_setCell_same w b i a t v h⟩
def GL{d:Bool}{y:Int}{j:Nat}{a:TV}(h:(enc d (.int .u8) y)[j]?=some a):j=0/\a=.i .u8 y:=by
 match j with
 |0=>injection h with h;exact⟨rfl,h.symm⟩
 |j+1=>cases h
def ade{a:Type}{l m:List a}{n r:Nat}{x:a}(h:l.take n=m)(e:r<n)(hx:m[r]?=some x):l[r]?=some x:=by
 rw[<-h,o5,cM e] at hx;exact hx
def af5{x:cq}{v:Value}(h:tQ γ w (.cE 0) x v)(I:x.length<=140737488355328):Rd (ea γ w) (some (.cE 0,[(0,1)])) (.own true (.int .u8) (dL x)) v:=by
 rcases h I with⟨rfl,rfl⟩|⟨g,e,A,rfl,J,H,R,S,U,Y,M⟩
 ·exact Rd.jU _ _ _ _
 ·have D:(dL x).length=x.length:=by simp[dL]
  have C:Rd (ea γ w) (some (.cE 0,[(0,1)])) (.own true (.int .u8) (dL x)) (.slice (some ⟨g,0,none⟩) (dL x).length e):=by
   refine Rd.kE (.cE 0) [(0,1)] true (.int .u8) (dL x) g 0 e A 5 (0,0) (λr _=>.int .u8 ((x[r]?).getD 0).toNat) (by show List.length (α:=Int) (dL x)<=e;omega) J H ng.zero (by simp[cI];omega) (λr y j N a E=>⟨?_,rfl⟩) λr y j N a E=>?_
   ·obtain⟨rfl,rfl⟩:=GL E;have a:(x.map λc=>(c.toNat:Int))[r]?=some y:=a;rw[iA] at a;cases u:x[r]? with
    |none=>rw[u] at a;cases a
    |some c=>
     have P:r<x.length:=(eT.1 u).1;have Q:(x.map λc=>Value.int .u8 c.toNat)[r]?=some (.int .u8 c.toNat):=by rw[iA,u];rfl
     have:=ade M P Q;have F:(ea γ w).w.heap[g]?=some (.cells A 5 (0,0)):=H;simp only[eK,World.cell?,F,cI];simpa using this
   ·obtain⟨rfl,rfl⟩:=GL E;have a:(x.map λc=>(c.toNat:Int))[r]?=some y:=a;rw[iA] at a;cases u:x[r]? with
    |none=>rw[u] at a;cases a
    |some c=>
     rw[u] at a;have a:(c.toNat:Int)=y:=gV a;rw[<-a];exact Rd.i _ _ _
  rw[D] at C;exact C
def ae0{x:cq}{v:Value}(h:tQ γ w (.cE 0) x v)(j:x.length<=140737488355328):w.ownsRow 0 5 1 v x.length (x.map λc=>Value.int .u8 c.toNat):=by
 refine⟨by simp,?_⟩;rcases h j with⟨rfl,rfl⟩|⟨g,a,e,rfl,D,u,y,E,A,F,C⟩
 ·exact .inl ⟨rfl,rfl⟩
 ·exact .inr ⟨g,a,e,rfl,yi _,u,y,A,by omega,by rw[Mi];exact C⟩
def abK{b:Nat}{x s:cq}(hf:∀i,w.heap.size<=i->γ i=.fr)(hB:xA (ea γ w) (.cE 0) b x)(ay:1<=s.length)(hl:x.length+s.length<=140737488355328):
  Calls Tryz.prog 170 #[oG b,.string ⟨⟨s⟩⟩] w λe w'=>∃ad,e=.returned (.tuple #[.int .i64 (s.length:Int),.nilIface])/\dK (λq _=>∃n,q=.cE n) γ w ad w'/\xA (ea ad w') (.cE 0) b (x++s):=by
 obtain⟨p,v,M,I,hp,a⟩:=hB;have a:tQ γ w (.cE 0) x v:=a;have M:w.heap[b]?=some (.cells #[p,v] 181 (0,0)):=M;have I:γ b=.at (.cE 0) []:=I;have hr:=af5 a (by omega);have N:=ae0 a (by omega);have an:b<w.heap.size:=lC hf b (by rw[I];simp);obtain⟨w1,ap,C,ae⟩:∃w1,(Calls Tryz.prog 211 #[oG b] w λe w'=>e=.returned (.tuple #[])/\w'=w1)/\(w1.heap.size=w.heap.size/\(∀i,i≠b->w1.heap[i]?=w.heap[i]?)/\w1.tape=w.tape/\w1.os=w.os/\w1.output=w.output)/\w1.heap[b]?=some (.cells #[oG b,v] 181 (0,0)):=by
  have c0:w.cell? ⟨b,0,none⟩=some p:=by rw[Lib.cell_of_heap M];rfl
  rcases hp with rfl|rfl
  ·have A:=SR (i:=0) (v:=oG b) M;exact⟨_,Any.Builder_copyCheck_fresh {Tryz.CO with} Tryz.Cy.toX72 b w c0 (show w.shape? b=some (181,2) by simp[World.shape?,M]) (Lib.frozen_of_heap M 0),A.1,A.2⟩
  ·exact⟨w,Any.Builder_copyCheck_used {Tryz.CO with} Tryz.Cy.toX72 b w c0,⟨rfl,λ_ _=>rfl,rfl,rfl,rfl⟩,M⟩
 have aq:∀i,w1.heap.size<=i->oO γ b i=.fr:=λi u=>by
  rw[C.1] at u
  exact VC (by rw[I];simp) (hf i u)
 have hx:Rd (Gs.rc At ⟨oO γ b,λ_=>0,λ_=>.bool true⟩ w1) (some (.cE 0,[])) (.own true (.int .u8) (dL x)) v:=by
  refine hr.mono _ (λi u=>?_) (λq π he=>?_) (λk hk=>by cases hk) (λk hk=>by cases hk) (λk hk=>by cases hk)
  ·have u:γ i=.im:=u;have J:i≠b:=by rintro rfl;rw[I] at u;cases u
   exact⟨VB (by rw[I];simp) u,C.2.1 i J⟩
  ·simp only[di,eS] at he;obtain⟨rfl,rfl⟩:=he;refine⟨_,_,rfl,λi π u=>?_⟩;have u:γ i=.at (.cE 0) ((0,1)::π):=u;have J:i≠b:=by rintro rfl;rw[I] at u;cases u
   exact⟨adb J u,C.2.1 i J⟩
 obtain⟨i,z,a1,a2,a3,a4,a5⟩:=xf (T:=5) (k:=1) (by kernel_rfl);have af:i.bytes=1:=by
  have:(Tryz.prog.info? 5).map (·.bytes)=some 1:=by kernel_rfl
  rw[a1] at this
  injection this
 have T:Lp Tryz.prog 22 9 (.int .u8) 5 i z:=⟨Tryz.underlying22,a1,a2,a3,a4,.inr Tryz.underlying9⟩;have au:(dL s).length=s.length:=by simp[dL]
 have az:(dL x).length=x.length:=by simp[dL]
 have src:Src Tryz.prog (cI (.int .u8)) 9 (.string ⟨⟨s⟩⟩) (dL s).length (Go.byteCells ⟨⟨s⟩⟩) w1:=by
  rw[au]
  exact Src.ofString w1 Tryz.underlying9 ⟨⟨s⟩⟩
 have av:lW (Gs.rc At ⟨oO γ b,λ_=>0,λ_=>.bool true⟩ w1) true (.int .u8) (dL s) (Go.byteCells ⟨⟨s⟩⟩):=by
  refine⟨by rw[Go.byteCells_length];show s.length=(dL s).length*1;omega,λr y j tv H hj=>?_⟩
  obtain⟨rfl,rfl⟩:=GL hj
  refine⟨.int .u8 y,?_,rfl,Rd.i _ _ _⟩
  have H:(s.map λc=>(c.toNat:Int))[r]?=some y:=H
  rw[iA] at H
  show(s.map λb=>Value.int .u8 b.toNat)[r*1+0]?=_
  rw[show r*1+0=r by omega,iA]
  cases hc:s[r]? with
  |none=>rw[hc] at H;cases H
  |some c=>
   rw[hc] at H
   simp only[jx,di] at H⊢
   have H:(c.toNat:Int)=y:=gV H
   rw[H]
 obtain⟨v',w2,ah,Q,_,aw,ai⟩:=FY (ty:=22) (γ1:=oO γ b) (g:=⟨oO γ b,λ_=>0,λ_=>.bool true⟩) (XQ aq) T hx src av (by rw[af];show 2*(List.length (α:=Int) (dL x)+List.length (α:=Int) (dL s))*1<=2^48;omega) (by show List.length (α:=Int) (dL x)+List.length (α:=Int) (dL s)<=2^62;omega);have U:w1.ownsRow 0 5 1 v x.length (x.map λc=>Value.int .u8 c.toNat):=by
  refine⟨N.1,?_⟩
  rcases N.2 with h|⟨g,D,Y,k1,k2,k3,k4⟩
  ·exact .inl h
  ·refine .inr ⟨g,D,Y,k1,k2,(C.2.1 g ?_).trans k3,k4⟩;rintro rfl;rw[M] at k3;simp at k3
 have ax:i.zero=some (.int .u8 0):=by
  have:(Tryz.prog.info? 5).bind (·.zero)=some (.int .u8 0):=by kernel_rfl
  rw[a1] at this
  exact this
 obtain⟨v3,w3,Z,aa,_,_⟩:=Lib.run_append_own_string (P:=Tryz.prog) w1 0 22 9 22 5 i Tryz.underlying22 Tryz.underlying9 a1 ax a3 af v x.length _ U ⟨⟨s⟩⟩ (by show x.length+s.length<=_;unfold maxLen;omega) hl (yi _);obtain⟨rfl,rfl⟩:v3=v'/\w3=w2:=by
  have:=Z.symm.trans Q
  injection this with e1 e2
  exact⟨e1,e2⟩
 obtain⟨ao,D,rfl,_⟩:=hx.J1;obtain⟨k1,k2⟩:=ai.at' b (.box 0) [] af4 (λ⟨n,e⟩=>by cases e);have aj:=k2.trans ae;have aA:dL (x++s)=dL x++dL s:=nq;have E:(x++s).length=x.length+s.length:=fg;rcases aa.2 with⟨_,h0⟩|⟨g,cap',Y,rfl,_,r3,r4,r5,r6,r7⟩
 ·have h0:x.length+s.length=0:=h0;omega
 have r4:x.length+s.length<=cap':=r4;refine Calls.mono (bwrite_walk ap ae Q aj) λe w' he=>?_;obtain⟨rfl,rfl⟩:=he;have A:=SR (i:=1) (v:=.slice (some ⟨g,0,none⟩) (x.length+s.length) cap') aj;obtain⟨q,π,g2,ak,R,cs,e,fr,f,hm,hv,am,ab,_⟩:∃q p b o D cs e fr,∃f:Nat->Nat->Value,some (Rt.cE 0,([]:dv))=some (q,p)/\Value.slice (some ⟨g,0,none⟩) (x.length+s.length) cap'=.slice (some ⟨b,o,none⟩) (List.length (α:=Int) (dL x++dL s)) D/\(List.length (α:=Int) (dL x++dL s))<=D/\ah b=.at q (p++[tg (.int .u8)])/\cs=(cs:Array Value)/\e=(e:TypeId)/\fr=(fr:Nat×Nat)/\f=f:=by
  rcases aw.lT with⟨h0,_⟩|⟨q,π,g2,ak,R,cs,e,fr,f,hm,hv,am,ab,_⟩
  ·have h0:dL x++dL s=([]:List Int):=h0;have:=congrArg List.length h0;rw[fg] at this;simp only[jP] at this;omega
  ·exact⟨q,π,g2,ak,R,cs,e,fr,f,hm,hv,am,ab,rfl,rfl,rfl,rfl⟩
 simp only[di,eS] at hm;obtain⟨rfl,rfl⟩:=hm;simp only[kH,di,mS] at hv;obtain⟨⟨rfl,_⟩,_⟩:=hv;have F:ah g=.at (.cE 0) [tg (.int .u8)]:=ab;have S:g≠b:=λe=>by
  rw[e,k1] at F
  cases F
 refine⟨iI γ g (.at (.cE 0) [(0,1),tg (.int .u8)]),rfl,aeZ hf I an C ai A.1 (λi=>?_),oG b,_,A.2,?_,.inr rfl,λ_=>.inr ⟨g,cap',Y,by rw[E],qj,(A.1.2.1 g S).trans r3,by rw[E];exact r4,by omega,r5,by omega,?_⟩⟩
 ·by_cases c:i=g
  ·subst c;exact .inr ⟨_,F⟩
  ·exact .inl (j1 c)
 ·exact(j1 (oY S)).trans I
 ·rw[E,nq,<-Mi (x.length+s.length)];exact r7
variable(W)
def ahC(n:Nat):lq W 170 (XN n):=by
 refine⟨enters Tryz.func170 (by kernel_rfl),λγ w j F(x:cq×cq×Unit)(y:Int×Bool×cq)H P A a=>?_⟩;obtain⟨c,s,_⟩:=x
 match j,A with
 |[Q,R],A=>
  obtain⟨I,J,S⟩:=A;obtain⟨b,rfl,M⟩:=I;obtain rfl:=tJ J;have a:FC n c s=some y:=a;unfold FC at a;split at a
  ·rename_i u;injection a with a;subst a;refine Calls.mono (abK H M u.1 u.2) λe w' N=>?_;obtain⟨C,rfl,D,E⟩:=N;exact⟨_,C,rfl,D,Kv rfl rfl (Rd.i _ _ _) (Rd.sP _),⟨b,rfl,E⟩,trivial,trivial⟩
  ·cases a
end
end Go.Sd
namespace Go.Proofs
open Go.Shelf Go.RowKit
set_option maxHeartbeats 2000000 in
set_option maxRecDepth 100000 in
def bstring_walk{b g cap:Nat}{p:Value}{l:List UInt8}{cur:Array Value}{w:World}(hbk:w.heap[b]?=some (.cells #[p,.slice (some ⟨g,0,none⟩) l.length cap] 181 (0,0)))(hg:w.heap[g]?=some (.cells cur 5 (0,0)))
  (hn:l.length<=cap)(hc0:cap≠0)(hcm:cap<=maxLen)(hcs:cur.size=cap)(htake:cur.toList.take l.length=l.map λc=>Value.int .u8 c.toNat)(h0:l≠[]):
  Calls Tryz.prog 171 #[.pointer (some ⟨b,0,none⟩)] w λe w'=>e=.returned (.string ⟨l.toArray⟩)/\w'=w.drew.freeze ⟨g,0,none⟩ l.length:=by
 have c1:w.drew.cell? ⟨b,1,none⟩=some (.slice (some ⟨g,0,none⟩) l.length cap):=by
  have:w.drew.heap[b]?=some (.cells #[p,.slice (some ⟨g,0,none⟩) l.length cap] 181 (0,0)):=hbk
  rw[Lib.cell_of_heap this];rfl
 have hSD:(Builtin.unsafeSliceData_ #[22] 221 #[.slice (some ⟨g,0,none⟩) l.length cap]).run Tryz.prog w.drew=.ok (.pointer (some ⟨g,0,none⟩)) w.drew:=
  Lib.run_unsafeSliceData_row _ _ _ _ _ _ hc0;have hUS:(Builtin.unsafeString_ #[221,3] 9 #[.pointer (some ⟨g,0,none⟩),.int .i64 l.length]).run Tryz.prog w.drew=.ok (.string ⟨l.toArray⟩) (w.drew.freeze ⟨g,0,none⟩ l.length):=by
  have hg':w.drew.heap[g]?=some (.cells cur 5 (0,0)):=hg
  refine Lib.run_unsafeString_row w.drew 221 3 9 5 Tryz.underlying221 (by kernel_rfl) g cur.size (by simp[World.shape?,hg']) l h0 (by omega) (by unfold maxLen at hcm;omega) ?_
  intro j x hx
  rw[Addr.add_lit]
  have hj:j<l.length:=(eT.1 hx).1
  have hm:(l.map λc=>Value.int .u8 c.toNat)[j]?=some (.int .u8 x.toNat):=by rw[iA,hx];rfl
  have:cur.toList[j]?=some (.int .u8 x.toNat):=by
   rw[<-htake,o5,cM hj] at hm
   exact hm
  simp only[World.cell?,hg']
  simpa using this
 go_enter Tryz.func171,Tryz.ntmps171
 go_wp2
 go_region
 all_goals(go_wp2;go_ret;exact⟨rfl,rfl⟩)
end Go.Proofs
namespace Go.Sd
open Go Go.RowKit
open Go.Ev hiding World cY Rd
open Go.Proofs hiding Enters
section
variable{γ:Nat->G}{w w':World}
def ahD(W:World)(n:Nat):lq W 171 (XO n):=by
 refine⟨enters Tryz.func171 (by kernel_rfl),λγ w F Y(x:cq×Unit)(y:cq×cq)Z hG N C=>?_⟩;obtain⟨c,_⟩:=x
 match F,N with
 |[v1],N=>
  obtain⟨h1,h3⟩:=N;obtain⟨b,rfl,p,v,J,M,hp,H⟩:=h1;have C:IZ n c=some y:=C;unfold IZ at C;split at C
  ·rename_i u;injection C with C;subst C;have J:w.heap[b]?=some (.cells #[p,v] 181 (0,0)):=J;have M:γ b=.at (.cE 0) []:=M;rcases H u.2 with⟨_,D⟩|⟨g,aa,P,rfl,E,Q,e4,e5,e6,e7,e8⟩
   ·have D:c=[]:=D;rw[D] at u;simp at u
   have E:γ g=.at (.cE 0) [(0,1),tg (.int .u8)]:=E;have Q:w.heap[g]?=some (.cells P 5 (0,0)):=Q;have R:b≠g:=λe=>by
    rw[<-e,M] at E
    cases E
   have S:c≠[]:=λe=>by rw[e] at u;simp at u
   refine Calls.mono (bstring_walk J Q e4 (by omega) e6 e7 e8 S) λe w' he=>?_;obtain⟨rfl,rfl⟩:=he;have A:∀i,i≠g->(w.drew.freeze ⟨g,0,none⟩ c.length).heap[i]?=w.heap[i]?:=λi j=>by
    unfold World.freeze
    split
    ·rfl
    ·simp only[ai8];rw[cN (λe=>j e.symm)];rfl
   have I:(w.drew.freeze ⟨g,0,none⟩ c.length).heap.size=w.heap.size:=by
    unfold World.freeze
    split
    ·rfl
    ·simp only[Array.size_modify];rfl
   have a:(w.drew.freeze ⟨g,0,none⟩ c.length).tape=w.tape/\(w.drew.freeze ⟨g,0,none⟩ c.length).os=w.os/\(w.drew.freeze ⟨g,0,none⟩ c.length).output=w.output:=by
    unfold World.freeze
    split<;>exact⟨rfl,rfl,rfl⟩
   refine⟨_,γ,rfl,?_,Rd.s _ _,⟨b,rfl,p,_,(A b R).trans J,M,hp,λU=>?_⟩,trivial⟩
   ·exact{
     im:=λi j=>⟨j,A i (λe=>by rw[e,E] at j;cases j)⟩
     at':=λi q π j hx=>⟨j,A i (λe=>by rw[e,E] at j;cases j;exact hx ⟨0,rfl⟩)⟩
     fr:=λi _ D=>⟨D,A i (λe=>by rw[e,E] at D;cases D)⟩
     size:=by rw[I];exact iN _
     new:=λi j=>by rw[I] at j;exact Z i j
     tape:=a.1
     os:=a.2.1
     output:=a.2.2}
   ·have U:P0.length<=140737488355328:=U;rw[abJ] at U;omega
  ·cases C
end
end Go.Sd
namespace Go.Proofs
open Go.Shelf Go.RowKit Go.Lib
set_option maxHeartbeats 4000000 in
set_option maxRecDepth 1000000 in
def del_walk{blk off len cap i j:Nat}{w W1 W2:World}{news:List Value}{A:Addr}{i0:TypeInfo}(hi0:Tryz.prog.info? 50=some i0)(hz1:i0.size=3)(hlt:i<j)(hj:j<=len)(hcap:len<=cap)
  (hA:(if cap=j then some (⟨blk,off,none⟩:Addr) else some ⟨blk,off+j*3,none⟩)=some A)(hsrc:Hid (∀t u,news[t]?=some u->w.drew.cell? (A.add t)=some u))
  (s1:Hid (news.length=(len-j)*3))(s2:Hid (∀u∈news,u.oneCell'=true))(s3:Hid (∀t,t<news.length->(w.drew.cell? ⟨blk,off+i*3+t,none⟩).isSome=true/\w.drew.frozen? ⟨blk,off+i*3+t,none⟩=false))
  (hW:Hid (W1=w.drew.setCells blk (off+i*3) news))
  (hcl:∀ty,(Builtin.clear_ #[46] ty #[.slice (some ⟨blk,off+(i+(len-j))*3,none⟩) (len-(i+(len-j))) (cap-(i+(len-j)))]).run Tryz.prog W1=.ok (.tuple #[]) W2):
  Calls Tryz.prog 189 #[.slice (some ⟨blk,off,none⟩) len cap,.int .i64 i,.int .i64 j] w λe w'=>e=.returned (.slice (some ⟨blk,off,none⟩) (i+(len-j)) cap)/\w'=W2:=by
 have hic:i<=cap:=by omega
 have hjc:j<=cap:=by omega
 have heq:¬ i=j:=by omega
 go_enter Tryz.func189,Tryz.ntmps189
 go_wp2_with fail
 go_region_law (refine step_append_room rfl (.tmp 22) (.tmp 25) 46 rfl 50 i0 3 Tryz.underlying46 hi0 hz1 blk off i cap (by simp[Act.eval,Act.put]) A (len-j) (cap-j) news (by simp[Act.eval,Act.put]) s1.out hsrc.out s2.out (by omega) s3.out ?_;rw[<-hW.out])
 go_wp2
 go_ret
 exact⟨rfl,rfl⟩
end Go.Proofs
namespace Go.Sd
open Go Go.RowKit
open Go.Ev hiding World cY Rd
open Go.Proofs hiding Enters
section
variable{W:World}{γ:Nat->G}{w w':World}
def abL{b o c:Nat}{w:World}(x:∀t,t<3->(w.cell? ⟨b,o+t,none⟩).isSome=true)(y:∀t,t<3->w.frozen? ⟨b,o+t,none⟩=false)(A:TypeId):(Builtin.clear_ #[46] A #[.slice (some ⟨b,o,none⟩) 1 c]).run Tryz.prog w=.ok (.tuple #[]) (w.setCells b o [.int .i64 0,.int .i64 0,.int .i64 0]):=by
 have a:=run_storeCells_cells (P:=Tryz.prog) b o [.int .i64 0,.int .i64 0,.int .i64 0] 0 w (λj e=>by simpa using x j e) (λj e=>by simpa using y j e) (by simp[Value.oneCell']);rw[rI] at a;have C:=Tryz.zeroValue50 w;have u:(Builtin.zeroCells (Value.cells (.agg #[.int .i64 0,.int .i64 0,.int .i64 0])) 1).toList=[Value.int .i64 0,.int .i64 0,.int .i64 0]:=by kernel_rfl
 simp[Builtin.clear_,lx Tryz.underlying46,C,u,a]
def FQ{d:Bool}{x:dy}{j:Nat}{a:TV}(h:(enc d .hold x)[j]?=some a):j<3/\∃z,a=.i .i64 z:=by
 match j with
 |0=>injection h with h;exact⟨by omega,_,h.symm⟩
 |1=>injection h with h;exact⟨by omega,_,h.symm⟩
 |2=>injection h with h;exact⟨by omega,_,h.symm⟩
 |j+3=>cases h
variable(W)
def ahE(n:Nat):lq W 189 (XI n):=by
 refine⟨enters Tryz.func189 (by kernel_rfl),λγ w aj ay(x:List dy×Int×Int×Unit)(y:List dy)hf hG hP Q=>?_⟩;obtain⟨xs,i,j,_⟩:=x
 match aj,hP with
 |[v1,v2,v3],hP=>
  obtain⟨h1,h2,h3,h4⟩:=hP;obtain rfl:=zK h2;obtain rfl:=zK h3;have h1:Rd (ea γ w) (some (.cE 0,[])) (.own true .hold xs) v1:=h1;have Q:zv n xs i j=some y:=Q;unfold zv at Q;split at Q
  ·rename_i aq;injection Q with Q;obtain⟨k0,k1,k2,k3⟩:=aq;obtain⟨i,rfl⟩:=hV k0;obtain rfl:j=((i+1:Nat):Int):=by omega
   rw[fH,fH] at Q;have R:i+1<=xs.length:=by omega
   rcases h1.lT with⟨S,_⟩|⟨q,π,b,a,cap,cs,e,fr,f,hm,rfl,hl,N,hh,hu,hs,hc,hr⟩
   ·have S:xs=[]:=S;rw[S] at R;simp at R
   simp only[di,eS] at hm;obtain⟨rfl,rfl⟩:=hm;have N:γ b=.at (.cE 0) [tg .hold]:=N;have hh:w.heap[b]?=some (.cells cs e fr):=hh;have hl:xs.length<=cap:=hl;have hs:a+cap*3<=cs.size:=hs;have F:∀r c,r<xs.length->c<3->cs[a+r*3+c]?=some (f r c)/\(f r c).oneCell'=true:=λr c U Y=>by
    have hx:xs[r]?=some xs[r]:=eN U
    obtain⟨tv,au⟩:∃tv,(enc true .hold xs[r])[c]?=some tv:=⟨_,eN (show c<(enc true .hold xs[r]).length from Y)⟩
    obtain⟨Z,c2⟩:=hc r _ c tv hx au
    have Z:w.cell? ⟨b,a+r*3+c,none⟩=some (f r c):=Z
    simp only[World.cell?,hh] at Z
    exact⟨by simpa using Z,c2⟩
   have av:∀k,k<cs.size->w.frozen? ⟨b,k,none⟩=false:=λk E=>by
    have:=hu k E
    simp only[World.frozen?,hh]
    simpa using this
   obtain⟨news,H⟩:∃news,news=kC (xs.length-(i+1)) 3 (λr c=>f (i+1+r) c):=⟨_,rfl⟩;have aa:news.length=(xs.length-(i+1))*3:=by rw[H];exact qh
   have ab:∀t u,news[t]?=some u->t<(xs.length-(i+1))*3/\u=f (i+1+t/3) (t % 3):=λt u C=>by
    have ad:t<news.length:=(eT.1 C).1
    rw[aa] at ad
    have:=rX (n:=xs.length-(i+1)) (k:=3) (r:=t/3) (j:=t % 3) (f:=λr c=>f (i+1+r) c) (by omega) (by omega)
    rw[show t/3*3+t % 3=t by omega,<-H,C] at this
    injection this with this
    exact⟨ad,this⟩
   have M:∀k,k<xs.length*3->w.cell? ⟨b,a+k,none⟩=some (f (k/3) (k % 3)):=λk E=>by
    have:=(F (k/3) (k % 3) (by omega) (by omega)).1
    rw[show a+k/3*3+k % 3=a+k by omega] at this
    simp only[World.cell?,hh]
    simpa using this
   obtain⟨A,hA,ak⟩:∃A:Addr,(if cap=i+1 then(some ⟨b,a,none⟩:Option Addr) else some ⟨b,a+(i+1)*3,none⟩)=some A/\Hid (∀t u,news[t]?=some u->w.drew.cell? (A.add t)=some u):=by
    by_cases h:cap=i+1
    ·refine⟨⟨b,a,none⟩,by rw[cM h],λt u C=>?_⟩;have:=(ab t u C).1;omega
    ·refine⟨⟨b,a+(i+1)*3,none⟩,by rw[cN h],λt u C=>?_⟩;obtain⟨ht,rfl⟩:=ab t u C;rw[Addr.add_lit,show a+(i+1)*3+t=a+((i+1)*3+t) by omega];refine(M ((i+1)*3+t) (by omega)).trans ?_;rw[show((i+1)*3+t)/3=i+1+t/3 by omega,show((i+1)*3+t) % 3=t % 3 by omega]
   have s2:Hid (∀u∈news,u.oneCell'=true):=λu C=>by
    obtain⟨t,ht⟩:=qR C
    obtain⟨ad,rfl⟩:=ab t u ht
    exact(F _ _ (by omega) (by omega)).2
   have s3:Hid (∀t,t<news.length->(w.drew.cell? ⟨b,a+i*3+t,none⟩).isSome=true/\w.drew.frozen? ⟨b,a+i*3+t,none⟩=false):=λt ht=>by
    rw[aa] at ht
    refine⟨?_,av _ (by omega)⟩
    have:=M (i*3+t) (by omega)
    rw[show a+(i*3+t)=a+i*3+t by omega] at this
    show(w.cell? _).isSome=true
    rw[this];rfl
   obtain⟨W1,am⟩:∃W1,W1=w.drew.setCells b (a+i*3) news:=⟨_,rfl⟩;have I:=kt b news (a+i*3) w.drew;rw[<-am] at I;obtain⟨uB,g1,g2,g3,g4⟩:=I.this cs e fr hh;have Y:∀ty,(Builtin.clear_ #[46] ty #[.slice (some ⟨b,a+(i+(xs.length-(i+1)))*3,none⟩) (xs.length-(i+(xs.length-(i+1)))) (cap-(i+(xs.length-(i+1))))]).run Tryz.prog W1=.ok (.tuple #[]) (W1.setCells b (a+(i+(xs.length-(i+1)))*3) [.int .i64 0,.int .i64 0,.int .i64 0]):=λty=>by
    rw[show xs.length-(i+(xs.length-(i+1)))=1 by omega]
    refine abL (λt ht=>?_) (λt ht=>?_) ty
    ·simp only[World.cell?,g1];have:a+(i+(xs.length-(i+1)))*3+t<uB.size:=by omega
     simp[this]
    ·have:=hu (a+(i+(xs.length-(i+1)))*3+t) (by omega);simp only[World.frozen?,g1];simpa using this
   obtain⟨ii,zz,a1,a2,a3,a4,a5⟩:=xf (T:=50) (k:=3) (by kernel_rfl);have ae:=del_walk a1 a3 (show i<i+1 by omega) R hl hA ak aa s2 s3 am Y;refine Calls.mono ae λe' w' he=>?_;obtain⟨rfl,rfl⟩:=he;have J:=kt b [.int .i64 0,.int .i64 0,.int .i64 0] (a+(i+(xs.length-(i+1)))*3) W1;generalize W1.setCells b (a+(i+(xs.length-(i+1)))*3) [.int .i64 0,.int .i64 0,.int .i64 0]=W2 at J;obtain⟨af,d1,d2,d3,d4⟩:=J.this uB e fr g1;have az:b<w.heap.size:=lC hf b (by rw[N];simp);have aw:y.length=i+(xs.length-(i+1)):=by rw[<-Q,fg,kI,nn];omega
   have an:∀(r:Nat)(x:dy),y[r]?=some x->r<i+(xs.length-(i+1))/\xs[if r<i then r else r+1]?=some x:=λr x hx=>by
    have hr:r<y.length:=(eT.1 hx).1
    refine⟨by omega,?_⟩
    rw[<-Q] at hx
    by_cases c:r<i
    ·rw[cM c];rw[o7 (by rw[kI];omega),o5,cM c] at hx;exact hx
    ·rw[cN c];rw[qb (by rw[kI];omega),kI,vW,show i+1+(r-min i xs.length)=r+1 by omega] at hx;exact hx
   refine⟨_,iI γ b (.at (.cE 3) [tg .hold]),rfl,?_,?_,trivial,trivial,trivial,trivial⟩
   ·have P:∀k,k≠b->W2.heap[k]?=w.heap[k]?:=λk E=>(J.other k E).trans (I.other k E);have ao:W2.heap.size=w.heap.size:=J.size.trans I.size;exact{
     im:=λk E=>by
      have D:k≠b:=λe=>by rw[e,N] at E;cases E
      exact⟨by rw[j1 D];exact E,P k D⟩
     at':=λk q π E hx=>by
      have D:k≠b:=λe=>by rw[e,N] at E;cases E;exact hx ⟨0,rfl⟩
      exact⟨by rw[j1 D];exact E,P k D⟩
     fr:=λk _ S=>by
      have D:k≠b:=λe=>by rw[e,N] at S;cases S
      exact⟨by rw[j1 D];exact S,P k D⟩
     size:=by rw[ao];exact iN _
     new:=λk E=>by
      rw[ao] at E
      rw[j1 (by omega)];exact hf k E
     tape:=J.tape.trans I.tape
     os:=J.os.trans I.os
     output:=J.output.trans I.output}
   ·have ap:Rd (ea (iI γ b (.at (.cE 3) [tg .hold])) W2) (some (.cE 3,[])) (.own true .hold y) (.slice (some ⟨b,a,none⟩) y.length cap):=by
      refine Rd.kE (.cE 3) [] true .hold y b a cap af e fr (λr c=>f (if r<i then r else r+1) c) (by show List.length (α:=dy) y<=cap;omega) qj d1 (by rw[d2,g2];exact hu) (by show a+cap*3<=_;omega) (λr x c tv hx hj=>?_) λr x c tv hx hj=>?_
      ·obtain⟨U,ah⟩:=an r x hx;obtain⟨ai,_⟩:=FQ hj;have ax:(if r<i then r else r+1)<xs.length:=(eT.1 ah).1;obtain⟨Z,c2⟩:=F _ c ax ai;refine⟨?_,c2⟩;have hd:(ea (iI γ b (.at (.cE 3) [tg .hold])) W2).w.heap[b]?=some (.cells af e fr):=d1;simp only[eK,World.cell?,hd];have g0:af[a+r*3+c]?=uB[a+r*3+c]?:=d4 _ (by simp;omega);have g5:uB[a+r*3+c]?=cs[a+(if r<i then r else r+1)*3+c]?:=by
        by_cases cr:r<i
        ·rw[cM cr];exact g4 _ (by omega)
        ·rw[Z,cN cr];have:=g3 ((r-i)*3+c) (by omega) (by omega);rw[show a+i*3+((r-i)*3+c)=a+r*3+c by omega] at this;rw[this,H,rX (by omega) ai,show i+1+(r-i)=r+1 by omega]
       have g6:=g0.trans (g5.trans Z);simpa[cI] using g6
      ·obtain⟨U,ah⟩:=an r x hx;obtain⟨ai,z,rfl⟩:=FQ hj;have:=(hr _ x c _ ah hj).kz;rw[this];exact Rd.i _ _ _
    rw[show y.length=i+(xs.length-(i+1)) from aw] at ap;exact ap
  ·cases Q
end
end Go.Sd
namespace Go.Ev
def digs36:ByteArray:=⟨#[48,49,50,51,52,53,54,55,56,57,97,98,99,100,101,102,103,104,105,106,107,108,109,110,111,112,113,114,115,116,117,118,119,120,121,122]⟩
def dig1(v:Nat):UInt8:=([48,49,50,51,52,53,54,55,56,57,97,98,99,100,101,102]:List UInt8).getD v 0
def Z6:∀i:Fin 16,digs36[i.val]'(by have:=i.isLt;show _<36;omega)=dig1 i.val:=by decide+kernel
structure HexInv(u i v:Nat)(dk:Array UInt8):Prop where
 size:dk.size=65
 lo:50<=i
 hi:i<=65
 lt:v<16^(i-49)
 eq:hexDs 16 u=hexDs (i-49) v++dk.toList.drop i
def HexInv.start{u:Nat}(h:u<18446744073709551616){a:Array UInt8}(e:a.size=65):HexInv u 65 u a where
 size:=e
 lo:=by omega
 hi:=by omega
 lt:=by
  show u<16^16;exact h
 eq:=by
  rw[List.drop_eq_nil_of_le (by rw[DJ];omega),HJ]
def Rb{l:List UInt8}{i:Nat}(h:i<l.length)(x:UInt8):(l.set i x).drop i=x::l.drop (i+1):=by
 rw[ly (by rw[QQ];exact h),List.getElem_set_self,List.drop_set,cM (by omega)]
def HexInv.two{u i v:Nat}{a:Array UInt8}(h:HexInv u i v a)(x:16<=v):51<=i:=by
 have y:=h.lo;refine DN λj=>?_;have e:i=50:=by omega
 have:=h.lt;rw[e] at this;have:v<16:=this;omega
def HexInv.step{u i v:Nat}{j:Array UInt8}(h:HexInv u (i+1) v j)(a:16<=v):HexInv u i (v/16) (j.setIfInBounds i (dig1 (v % 16))) where
 size:=by rw[HC];exact h.size
 lo:=by have:=h.two a;omega
 hi:=by have:=h.hi;omega
 lt:=by
  have x:=h.two a;have e:=h.lt;rw[show i+1-49=(i-49)+1 by omega,uF] at e;exact QJ (by rw[v7];exact e)
 eq:=by
  have x:=h.two a;have y:=h.size;have e:=h.hi;rw[h.eq,show i+1-49=(i-49)+1 by omega,hexDs,cN (by omega),ajh,Rb (by rw[DJ];omega),ke];rfl
def HexInv.last{u i v:Nat}{a:Array UInt8}(h:HexInv u (i+1) v a)(e:v<16):(a.setIfInBounds i (dig1 v)).toList.drop i=hexDs 16 u:=by
 have j:=h.lo;have x:=h.size;have y:=h.hi;rw[h.eq,show i+1-49=(i-49)+1 by omega,hexDs,cM e,ajh,Rb (by rw[DJ];omega)];rfl
end Go.Ev
namespace Go.Proofs
open Go.Shelf Go.RowKit Go.Lib Go.Sort Go.Ev Go.Sd
def tz16_86(w:World)(hT:w.cell? ⟨9,15,none⟩=some (.int .u8 4)):Calls Tryz.prog 286 #[.int .u64 16] w λe w'=>e=.returned (.int .i64 4)/\w'=w:=by
 have key:IntKind.u64.wrap (bits BinOp.and IntKind.u64 16 (IntKind.u64.wrap (-16))*285870213051353865)/288230376151711744=(15:Int):=by decide+kernel
 go_enter Tryz.func286,Tryz.ntmps286
 go_wp2_with (simp only[key])
 go_ret
 exact⟨rfl,rfl⟩
def tz16_54(w:World)(hT:w.cell? ⟨9,15,none⟩=some (.int .u8 4)):Calls Tryz.prog 254 #[.int .u64 16] w λe w'=>e=.returned (.int .i64 4)/\w'=w:=by
 go_enter Tryz.func254,Tryz.ntmps254
 go_wp2_with (go_at_call 286;refine(tz16_86 _ hT).mono ?_;rintro e w' ⟨rfl,rfl⟩)
 go_ret
 exact⟨rfl,rfl⟩
def pow16_53(w:World):Calls Tryz.prog 253 #[.int .i64 16] w λe w'=>e=.returned (.bool true)/\w'=w:=by
 have key:bits BinOp.and IntKind.i64 16 (16-1)=(0:Int):=by decide+kernel
 have key':bits BinOp.and IntKind.i64 16 15=(0:Int):=by decide+kernel
 go_enter Tryz.func253,Tryz.ntmps253
 go_wp2_with (simp only[key,key'])
 go_ret
 exact⟨rfl,rfl⟩
def zero253(w:World):Holds (λ(b:UInt8)=>Value.int .u8 (b.toNat:Int)) (w.alloc (.cells Tryz.zeroCells253 253)) w.heap.size 0 (Array.replicate 65 (0:UInt8)):=λj u=>by
 have a:j<65:=by simpa using u
 refine⟨?_,World.frozen?_alloc_new _ _ _ _⟩;have e:Tryz.zeroCells253=Array.replicate 65 (.int .u8 0):=by rfl
 rw[World.cell?_alloc_new,e,QM,iB,cM a,Zp _ j u];simp
def idx36(z:Int)(i:Nat)(j:z=(i:Int))(u:i<16)(w:World):
  (Instr.index 9 (.string digs36) (.int .u64 z)).run Tryz.prog w=.ok (.int .u8 ((dig1 i).toNat:Int)) w:=by
 subst j;have a:digs36.size=36:=rfl;rw[run_index_string w 9 digs36 .u64 _ (by kernel_rfl),Mh ⟨by omega,by rw[a];omega⟩];have e:((i:Int)).toNat=i:=by omega
 simp only[e];rw[Z6 ⟨i,u⟩]
def below_put(w:World)(o:Obj)(j:Array UInt8)(n:Nat):Below w.heap.size w ((putRow (λ(b:UInt8)=>Value.int .u8 (b.toNat:Int)) (w.alloc o) w.heap.size 0 j).drewN n):=by
 obtain⟨a,_,e⟩:=putRow_grow_new (λ(b:UInt8)=>Value.int .u8 (b.toNat:Int)) w #[o] w.heap.size 0 j (iN _);rw[alloc_eq_grow,e];exact Sa w n a
set_option maxHeartbeats 4000000 in
set_option maxRecDepth 100000 in
def fbits(u:Nat)(hu:u<18446744073709551616)(w:World)(hs:9<w.heap.size)(hT:w.cell? ⟨9,15,none⟩=some (.int .u8 4)):Calls Tryz.prog 209 #[.slice none 0 0,.int .u64 u,.int .i64 16,.bool false,.bool false] w λe w'=>(∃v,e=.returned (.tuple #[v,.string ⟨⟨hexDs 16 u⟩⟩]))/\Below w.heap.size w w':=by
 go_enter Tryz.func209,Tryz.ntmps209
 go_name_bytes_deep 43 MSG hMSG
 clear hMSG
 go_name_bytes_deep 30 SM hSM
 have eSM:SM=digs36:=by rw[<-hSM];decide+kernel
 subst eSM;clear hSM
 go_wp2_with (first|(go_at_call 253;refine(pow16_53 _).mono ?_;rintro e w' ⟨rfl,rfl⟩)|(go_at_call 254;refine(tz16_54 _ (by first|(rw[World.cell?_alloc_lt (h:=by exact hs)];exact hT)|exact hT|(trace_state;exact(World.cell?_alloc_lt (h:=hs)).trans hT))).mono ?_;rintro e w' ⟨rfl,rfl⟩))
 go_loopw [1,13] (λvu vi wr=>∃(v i n:Nat)(dk:Array UInt8),vu=.int .u64 v/\vi=.int .i64 i/\wr=(putRow (λ(b:UInt8)=>Value.int .u8 (b.toNat:Int)) (w.alloc (.cells Tryz.zeroCells253 253)) w.heap.size 0 dk).drewN n/\Hid (HexInv u i v dk)) (λvu _ _=>(RowKit.intOf vu).toNat)
 case atStart=>exact⟨u,65,0,Array.replicate 65 0,rfl,rfl,(putRow_self _ _ _ _ _ (zero253 w)).symm,Lib.hid (HexInv.start hu (by rw[QG]))⟩
 case round=>
  obtain⟨v,i,n,dk0,rfl,rfl,hw0,HI0⟩:=hrel
  rename World=>W0
  have hs0:=HI0.out.size;have hH0:Holds (λ(b:UInt8)=>Value.int .u8 (b.toNat:Int)) W0 w.heap.size 0 dk0:=by rw[hw0];exact holds_putRow _ _ _ 0 _ dk0 (zero253 w) (by rw[QG];exact hs0)
  obtain⟨j,rfl⟩:∃j,i=j+1:=⟨i-1,by have:=HI0.out.lo;omega⟩;have hj:j<65:=by have:=HI0.out.hi;omega
  obtain⟨g0,hc0⟩:∃g:Int,W0.cell? ⟨w.heap.size,j,none⟩=some (.int .u8 g):=⟨_,by have:=(hH0 j (by omega)).1;rw[iB] at this;exact this⟩;have hf0:W0.frozen? ⟨w.heap.size,j,none⟩=false:=by have:=(hH0 j (by omega)).2;rw[iB] at this;exact this
  have AW0:=Lib.hid hw0;clear hw0 hH0
  by_cases h16:16<=v
  ·have key:bits BinOp.and IntKind.u64 (v:Int) 15=(v:Int) % 16:=by
     rw[show(15:Int)=((15:Nat):Int) from rfl,bits_and_u64_nat v 15 (by have:=HI0.out.lt;have:16^(j+1-49)<=16^16:=v8 (by omega) (by omega);omega) (by omega),show v&&&15=v % 16 from Nat.and_two_pow_sub_one_eq_mod v 4]
     rfl
   have hX:∀w,(Instr.index 9 (.string digs36) (.int .u64 ((v:Int) % 16))).run Tryz.prog w=.ok (.int .u8 ((dig1 (v % 16)).toNat:Int)) w:=idx36 _ _ (by omega) (by omega);have HI1:=Lib.hid (HI0.out.step h16)
   go_wp2
   refine⟨⟨v/16,j,n,_,by rw[Int.natCast_ediv];rfl,rfl,?_,HI1⟩,?_⟩
   ·rw[AW0.out];have e:=store1_world (w.alloc (.cells Tryz.zeroCells253 253)) w.heap.size 0 dk0 n j (dig1 (v % 16)) (by omega);rw[iB] at e;exact e
   ·show((v:Int)/16).toNat<(v:Int).toNat;omega
  ·have hX:∀w,(Instr.index 9 (.string digs36) (.int .u64 (v:Int))).run Tryz.prog w=.ok (.int .u8 ((dig1 v).toNat:Int)) w:=idx36 _ _ rfl (by omega);have hL:=HI0.out.last (by omega);have hl:(hexDs 16 u).length=65-j:=by rw[<-hL,nn,DJ,HC,hs0]
   have hw1:W0.setCell ⟨w.heap.size,j,none⟩ (.int .u8 ((dig1 v).toNat:Int))=(putRow (λ(b:UInt8)=>Value.int .u8 (b.toNat:Int)) (w.alloc (.cells Tryz.zeroCells253 253)) w.heap.size 0 (dk0.setIfInBounds j (dig1 v))).drewN n:=by
    rw[AW0.out]
    have e:=store1_world (w.alloc (.cells Tryz.zeroCells253 253)) w.heap.size 0 dk0 n j (dig1 v) (by omega)
    rw[iB] at e
    exact e
   have hsl:∀W,(Instr.sliceAt 253 (.pointer (some ⟨w.heap.size,0,none⟩)) (some (.int .i64 (j:Int))) none none).run Tryz.prog W=.ok (.slice (some ⟨w.heap.size,j,none⟩) (65-j) (65-j)) W:=λW=>by
    have ha:Tryz.prog.arrayLen 253=65:=by kernel_rfl
    have hz:Tryz.prog.elem 253=5:=by kernel_rfl
    rw[run_sliceAt_array_l W 253 ⟨w.heap.size,0,none⟩ (by kernel_rfl) .i64 (j:Int) (by omega) (by rw[ha];omega),ha,hz,Tryz.sizeOf5]
    simp[slicedAt]
    rw[cN (by omega),Lib.add_plain,iB]
   have hcv:(convert 22 9 (.slice (some ⟨w.heap.size,j,none⟩) (65-j) (65-j))).run Tryz.prog ((putRow (λ(b:UInt8)=>Value.int .u8 (b.toNat:Int)) (w.alloc (.cells Tryz.zeroCells253 253)) w.heap.size 0 (dk0.setIfInBounds j (dig1 v))).drewN n)=.ok (.string ⟨⟨hexDs 16 u⟩⟩) ((putRow (λ(b:UInt8)=>Value.int .u8 (b.toNat:Int)) (w.alloc (.cells Tryz.zeroCells253 253)) w.heap.size 0 (dk0.setIfInBounds j (dig1 v))).drewN n):=by
    have h:=run_convert_bytes_back (P:=Tryz.prog) ((putRow (λ(b:UInt8)=>Value.int .u8 (b.toNat:Int)) (w.alloc (.cells Tryz.zeroCells253 253)) w.heap.size 0 (dk0.setIfInBounds j (dig1 v))).drewN n) 22 9 5 ⟨w.heap.size,j,none⟩ (65-j) (hexDs 16 u) (by kernel_rfl) (by kernel_rfl) (by kernel_rfl) (λt ht=>by
     rw[Lib.add_plain,World.cell?_drewN]
     have hc:=cell?_putRow (λ(b:UInt8)=>Value.int .u8 (b.toNat:Int)) _ w.heap.size 0 _ (dk0.setIfInBounds j (dig1 v)) (zero253 w) (by rw[QG,HC,hs0]) (j+t) (by rw[HC,hs0];omega)
     rw[iB] at hc
     rw[hc,Zp _ (j+t) (by rw[HC,hs0];omega)]
     simp only[<-hL,ZJ,Array.getElem_toList])
    rw[hl] at h
    exact h
   go_wp2
   go_ret2
   refine⟨⟨_,rfl⟩,?_⟩;exact below_put w _ _ n
def fuint_225(u:Nat)(hu:u<18446744073709551616)(w:World)(hs:9<w.heap.size)(hT:w.cell? ⟨9,15,none⟩=some (.int .u8 4)):Calls Tryz.prog 225 #[.int .u64 u,.int .i64 16] w λe w'=>e=.returned (.string ⟨⟨hexDs 16 u⟩⟩)/\Below w.heap.size w w':=by
 go_enter Tryz.func225,Tryz.ntmps225
 go_wp2_with (go_at_call 209;refine(fbits u hu w hs hT).mono ?_;rintro e w' ⟨⟨v,rfl⟩,hB⟩)
 go_ret
 exact⟨rfl,hB⟩
def fuint_178(u:Nat)(hu:u<18446744073709551616)(w:World)(hs:9<w.heap.size)(hT:w.cell? ⟨9,15,none⟩=some (.int .u8 4)):Calls Tryz.prog 178 #[.int .u64 u,.int .i64 16] w λe w'=>e=.returned (.string ⟨⟨hexDs 16 u⟩⟩)/\Below w.heap.size w w':=by
 go_enter Tryz.func178,Tryz.ntmps178
 go_wp2_with (go_at_call 225;refine(fuint_225 u hu w hs hT).mono ?_;rintro e w' ⟨rfl,hB⟩)
 go_ret
 exact⟨rfl,hB⟩
end Go.Proofs
namespace Go.Sd
open Go Go.Ev Go.Proofs Go.RowKit Go.Shelf
section
variable{W:World}{γ:Nat->G}{w w':World}
variable(W)
def ahF(hW:oW W)(n:Nat):lq W 178 (XG n):=by
 refine⟨enters Tryz.func178 (by kernel_rfl),λγ w A M x y I N C u=>?_⟩;obtain⟨s,a,_⟩:=x
 match A,C with
 |[v1,v2],C=>
  obtain⟨P,Q,h3⟩:=C;obtain rfl:=zK P;obtain rfl:=zK Q;have u:yJ n s a=some y:=u;unfold yJ at u;split at u
  ·rename_i D;injection u with u;subst u;obtain⟨rfl,E,R⟩:=D;obtain⟨c,rfl⟩:=hV E;have J:=(Ql hW N (show 9<10 by omega)).2;have S:w.cell? ⟨9,15,none⟩=some (.int .u8 4):=(SQ (j:=0) J 15).trans hW.tz;have F:9<w.heap.size:=by
    refine DN λH=>?_
    have e:=J
    rw[yl H,jN (show 9<W.heap.size by have:=hW.sz;omega)] at e
    cases e
   have U:Calls Tryz.prog 178 #[.int .u64 (c:Int),.int .i64 16] w _:=fuint_178 c (by omega) w F S;refine Calls.mono U λe w' Y=>?_;obtain⟨rfl,Z⟩:=Y;exact⟨_,γ,rfl,rW I Z (lC I),Rd.s _ _,trivial,trivial,trivial⟩
  ·cases u
end
end Go.Sd
namespace Go.Proofs
open Go.Shelf Go.RowKit Go.Lib
set_option maxHeartbeats 4000000 in
set_option maxRecDepth 1000000 in
def ins_end{base:Option Addr}{n c:Nat}{bv:Addr}{cv:Nat}{v':Value}{w w':World}(hn:n<=c)
  (hr:(Builtin.append_ #[46,46] 46 #[.slice base n c,.slice (some bv) 1 cv]).run Tryz.prog w=.ok v' w'):
  Calls Tryz.prog 187 #[.slice base n c,.int .i64 n,.slice (some bv) 1 cv] w λe w2=>e=.returned v'/\w2=w':=by
 go_enter Tryz.func187,Tryz.ntmps187
 go_wp2_with (at_builtin;refine wpList_append_run rfl _ _ 46 46 rfl rfl rfl rfl hr ?_)
 all_goals(go_ret;exact⟨rfl,rfl⟩)
set_option maxHeartbeats 4000000 in
set_option maxRecDepth 1000000 in
def ins_room{b off n c i vb voff cv:Nat}{x1 x2:Value}{w W1 W2:World}(hi:i<n)(hroom:n+1<=c)(hn63:n<=4611686018427387904)
  (hov:∀lb cb,(callFunc 231 #[.slice (some ⟨vb,voff,none⟩) 1 cv,.slice (some ⟨b,off+(i+1)*3,none⟩) lb cb]).run Tryz.prog w=.ok (.value (.bool false)) w)
  (hcp1:∀ty dc sc,(Builtin.copy_ #[46,46] ty #[.slice (some ⟨b,off+(i+1)*3,none⟩) (n+1-(i+1)) dc,.slice (some ⟨b,off+i*3,none⟩) (n+1-i) sc]).run Tryz.prog w.drew=.ok x1 W1)
  (hcp2:∀ty dc,(Builtin.copy_ #[46,46] ty #[.slice (some ⟨b,off+i*3,none⟩) (n+1-i) dc,.slice (some ⟨vb,voff,none⟩) 1 cv]).run Tryz.prog W1=.ok x2 W2):
  Calls Tryz.prog 187 #[.slice (some ⟨b,off,none⟩) n c,.int .i64 i,.slice (some ⟨vb,voff,none⟩) 1 cv] w λe w2=>e=.returned (.slice (some ⟨b,off,none⟩) (n+1) c)/\w2=W2:=by
 have hz2:¬ ((i:Int)=(n:Int)):=by omega
 have hw1:IntKind.i64.wrap ((i:Int)+1)=(i:Int)+1:=by rw[IntKind.wrap_i64];omega
 have hb1:(0:Int)<=(i:Int)+1:=by omega
 have hin:i<=n:=by omega
 have htn:((i:Int)+1).toNat=i+1:=by omega
 have hb2:¬ (c=i+1):=by omega
 have hb3:(i:Int)<=(n:Int)+1:=by omega
 have hb4:¬ (c=i):=by omega
 go_enter Tryz.func187,Tryz.ntmps187
 go_wp2_with (simp only[hov])
 go_region_law (refine step_copy_runI rfl _ _ 46 46 rfl _ _ (by simp[Act.eval,Act.put]) (by simp[Act.eval,Act.put]) (hcp1 _ (c-(i+1)) (c-i)) ?_)
 go_wp2_with (at_builtin;refine wpList_copy_runI _ rfl _ _ 46 46 rfl _ _ rfl rfl (hcp2 _ _) ?_)
 go_ret
 exact⟨rfl,rfl⟩
set_option maxHeartbeats 4000000 in
set_option maxRecDepth 1000000 in
def ins_grow{b off n c i vb voff cv nb c':Nat}{x1 x2:Value}{w W1 W2 W3:World}(hi:i<n)(hnc:n<=c)(hroom:c<n+1)(hc':n+1<=c')(hn63:n<=4611686018427387904)
  (hap:(Builtin.append_ #[46,3] 46 #[.slice (some ⟨b,off,none⟩) i c,.int .i64 ((n:Int)+1-i)]).run Tryz.prog w=.ok (.slice (some ⟨nb,0,none⟩) (n+1) c') W1)
  (hcp2:∀ty,(Builtin.copy_ #[46,46] ty #[.slice (some ⟨nb,i*3,none⟩) (n+1-i) (c'-i),.slice (some ⟨vb,voff,none⟩) 1 cv]).run Tryz.prog W1=.ok x1 W2)
  (hcp1:∀ty,(Builtin.copy_ #[46,46] ty #[.slice (some ⟨nb,(i+1)*3,none⟩) (n+1-(i+1)) (c'-(i+1)),.slice (some ⟨b,off+i*3,none⟩) (n-i) (c-i)]).run Tryz.prog W2.drew=.ok x2 W3):
  Calls Tryz.prog 187 #[.slice (some ⟨b,off,none⟩) n c,.int .i64 i,.slice (some ⟨vb,voff,none⟩) 1 cv] w λe w2=>e=.returned (.slice (some ⟨nb,0,none⟩) (n+1) c')/\w2=W3:=by
 have hz2:¬ ((i:Int)=(n:Int)):=by omega
 have hw1:IntKind.i64.wrap ((i:Int)+1)=(i:Int)+1:=by rw[IntKind.wrap_i64];omega
 have hb1:(0:Int)<=(i:Int)+1:=by omega
 have hin:i<=n:=by omega
 have htn:((i:Int)+1).toNat=i+1:=by omega
 have hb2:¬ (c'=i+1):=by omega
 have hb3:(i:Int)<=(n:Int)+1:=by omega
 have hb4:¬ (c=i):=by omega
 have hb5:¬ (c'=i):=by omega
 go_enter Tryz.func187,Tryz.ntmps187
 go_wp2_with (at_builtin;first|refine wpList_append_run rfl _ _ 46 3 rfl rfl rfl rfl hap ?_|refine wpList_copy_runI _ rfl _ _ 46 46 rfl _ _ rfl rfl (hcp2 _) ?_)
 go_region_law (refine step_copy_runI rfl _ _ 46 46 rfl _ _ (by simp[Act.eval,Act.put]) (by simp[Act.eval,Act.put]) (hcp1 _) ?_)
 go_wp2
 go_ret
 exact⟨rfl,rfl⟩
end Go.Proofs
namespace Go.Sd
open Go Go.RowKit
open Go.Ev hiding World cY Rd
open Go.Proofs hiding Enters
section
variable{W:World}{γ:Nat->G}{w w':World}
def Jt{P:Program}(w:World)(H J M e:TypeId)(b o u A:Nat)(a:Addr)(x C k:Nat)(y:List Value)
  (N:P.underlying H=some (.slice e))(I:(P.info? e).map (·.size)=some 3)(Q:k=Nat.min x u)(R:y.length=k*3)
  (D:∀j v,y[j]?=some v->w.cell? (a.add j)=some v)(S:∀j,j<y.length->(w.cell? ⟨b,o+j,none⟩).isSome=true)(U:∀j,j<y.length->w.frozen? ⟨b,o+j,none⟩=false)(Y:∀v∈y,v.oneCell'=true):
  (Builtin.copy_ #[H,J] M #[.slice (some ⟨b,o,none⟩) u A,.slice (some a) x C]).run P w=.ok (goInt k) (w.setCells b o y):=by
 have Z:=ai2 (P:=P) w a y D;have E:=run_storeCells_cells (P:=P) b o y 0 w (by simpa using S) (by simpa using U) Y;cases F:P.info? e with
 |none=>simp[F] at I
 |some i=>
  have hi:i.size=3:=by simpa[F] using I
  simp[Builtin.copy_,lx N,Builtin.lenOf,Builtin.firstCells,sizeOf,typeInfo,F,hi,<-Q,<-R,Z,E]
def ZZ{P:Program}(w:World)(u Z e:TypeId)(R:P.underlying u=some (.slice e))(j:Nat)(S:∀w,(Go.sizeOf e).run P w=.ok j w)
  (a b:Addr)(D ca E cb:Nat)(x:a.block≠b.block)(tA tB:TypeId)(kA U:Nat)
  (F:w.shape? a.block=some (tA,kA))(H:w.shape? b.block=some (tB,U))(I:kA≠0)
  (J:w.frozen? b=false)(M:w.frozen? {block:=b.block,off:=U}=false):
  (Extern.SlicesOverlaps.overlaps #[u,u] #[Z] #[.slice (some a) D ca,.slice (some b) E cb]).run P w=.ok (.bool false) w:=by
 have N:(a.block !=b.block)=true:=by simpa using x
 have y:(a.block==b.block)=false:=by simpa using x
 change Sem.run P (α:=Value) (do
  let some t:=(#[u,u]:Array TypeId)[0]?|stuck "slices.overlaps: no parameter types"
  let .slice A<-underlying t|stuck "slices.overlaps: slice type expected"
  let j<-sizeOf A
  match(some a:Option Addr),(some b:Option Addr) with
  |some a,some b=>
   if D=0\/E=0\/j=0 then pure (Value.bool false)
   else if a.block !=b.block&&(<-frozen a)&&(<-frozen b) then unsupported .addressObserved
   else do
    if a.block !=b.block then do
     noView a;noView b
     if<-mayBeOne a b then return Value.bool ((<-choose _)==1)
    pure (Value.bool (a.block==b.block&&a.off<b.off+E*j&&b.off<a.off+D*j))
  |_,_=>pure (Value.bool false)) w=_
 by_cases Y:D=0\/E=0\/j=0
 ·simp[lx R,S,Y]
 ·cases kA with
  |zero=>exact absurd rfl I
  |succ kA=>
   cases Q:w.frozen? a<;>cases C:w.frozen? {block:=a.block,off:=kA+1}<;>simp[lx R,S,Y,N,y,frozen,noView,viewAt,mayBeOne,stringish,shape,Sem.run,F,H,J,M,Q,C]
def tvV:TV->Value|.i k z=>.int k z|_=>undef
def hC(a:List dy)(r c:Nat):Value:=match a[r]? with
 |some x=>tvV ((enc true .hold x).getD c .un)
 |none=>undef
def KT{d:Bool}{a:List dy}{r c:Nat}{x:dy}(hx:a[r]?=some x)(e:c<3):∃z,(enc d .hold x)[c]?=some (.i .i64 z)/\hC a r c=.int .i64 z:=by
 simp only[hC,hx]
 match c,e with
 |0,_=>exact⟨_,rfl,rfl⟩
 |1,_=>exact⟨_,rfl,rfl⟩
 |2,_=>exact⟨_,rfl,rfl⟩
def zM{a:List dy}{r c:Nat}(e:r<a.length)(j:c<3):(hC a r c).oneCell'=true:=by
 obtain⟨z,_,h⟩:=KT (d:=true) (eN e) j;rw[h];rfl
def M9{rc:Rc}{d:Bool}{e:List dy}{M:Nat->Nat->Option Gp}{b a:Nat}{f:Nat->Nat->Value}
  (D:∀(r:Nat)(x:dy)(j:Nat)u,e[r]?=some x->(enc d .hold x)[j]?=some u->eK rc.w b (a+r*3+j)=some (f r j)/\(f r j).oneCell'=true)
  (E:∀(r:Nat)(x:dy)(j:Nat)u,e[r]?=some x->(enc d .hold x)[j]?=some u->Rd rc (M r j) u (f r j)):
  ∀r c,r<e.length->c<3->rc.w.cell? ⟨b,a+r*3+c,none⟩=some (hC e r c):=λr c y A=>by
 have hx:=eN y;obtain⟨z,C,F⟩:=KT (d:=d) hx A;rw[F,<-(E r _ c _ hx C).kz];exact(D r _ c _ hx C).1
def Oe{γ':Nat->G}{C:World}{y:List dy}{b off cap:Nat}{u:Array Value}{e:TypeId}{fr:Nat×Nat}(F:y.length<=cap)(H:γ' b=.at (.cE 3) [tg .hold])(D:C.heap[b]?=some (.cells u e fr))(I:ng .hold u.size fr)(J:off+cap*3<=u.size)
  (M:∀r c,r<y.length->c<3->u[off+r*3+c]?=some (hC y r c)):Rd (ea γ' C) (some (.cE 3,[])) (.own true .hold y) (.slice (some ⟨b,off,none⟩) y.length cap):=by
 refine Rd.kE (.cE 3) [] true .hold y b off cap u e fr (hC y) F H D I J (λr x c N hx A=>?_) λr x c N hx A=>?_
 ·have E:r<y.length:=(eT.1 hx).1;obtain⟨a,_⟩:=FQ A;refine⟨?_,zM E a⟩;have P:(ea γ' C).w.heap[b]?=some (.cells u e fr):=D;simp only[eK,World.cell?,P];simpa[cI] using M r c E a
 ·obtain⟨a,z,rfl⟩:=FQ A;obtain⟨S,Q,R⟩:=KT (d:=true) hx a;have j:=Q.symm.trans A;injection j with j;rw[R,<-j];exact Rd.i _ _ _
def WD{a:List dy}{v:dy}{i r c:Nat}(u:i<=a.length):hC (a.take i++[v]++a.drop i) r c=if r<i then hC a r c else if r=i then hC [v] 0 c else hC a (r-1) c:=by
 have e:(a.take i++[v]++a.drop i)[r]?=if r<i then a[r]? else if r=i then some v else a[r-1]?:=by
  by_cases h:r<i
  ·rw[cM h,ke,o7 (by rw[kI];omega),o5,cM h]
  ·rw[cN h,ke,qb (by rw[kI];omega),kI]
   by_cases j:r=i
   ·rw[cM j,j,show i-min i a.length=0 by omega];rfl
   ·rw[cN j,qb (by simp;omega),vW]
    congr 1
    simp;omega
 unfold hC;rw[e]
 by_cases h:r<i
 ·simp only[cM h]
 ·by_cases j:r=i
  ·simp only[cN h,cM j,qS]
  ·simp only[cN h,cN j]
end
section
variable{W:World}{γ:Nat->G}{w w':World}
def adf{j:Nat->G}{g:Nat}(e:dK (λq _=>∃n,q=.cE n) γ w j w')(y:j g=.at (.cE 0) [tg .hold]):dK (λq _=>∃n,q=.cE n) γ w (iI j g (.at (.cE 3) [tg .hold])) w' where
 im:=λb u=>by
  obtain⟨a,x⟩:=e.im b u;have:b≠g:=by rintro rfl;rw[y] at a;cases a
  exact⟨by rw[j1 this];exact a,x⟩
 at':=λb q p u hx=>by
  obtain⟨a,x⟩:=e.at' b q p u hx;have:b≠g:=by rintro rfl;rw[y] at a;cases a;exact hx ⟨0,rfl⟩
  exact⟨by rw[j1 this];exact a,x⟩
 fr:=λb u A=>by
  obtain⟨a,x⟩:=e.fr b u A;have:b≠g:=by rintro rfl;rw[y] at a;cases a
  exact⟨by rw[j1 this];exact a,x⟩
 size:=e.size
 new:=λb u=>by
  have a:=e.new b u;have:b≠g:=by rintro rfl;rw[y] at a;cases a
  rw[j1 this];exact a
 tape:=e.tape
 os:=e.os
 output:=e.output
def SS{n k t:Nat}{f:Nat->Nat->Value}{u:Value}(e:0<k)(h:(kC n k f)[t]?=some u):t<n*k/\t/k<n/\t % k<k/\u=f (t/k) (t % k):=by
 have a:t<n*k:=by
  have:=(eT.1 h).1
  rwa[qh] at this
 have j:t/k<n:=QJ (by rw[v7];exact a);refine⟨a,j,Mk _ e,?_⟩;have:=rX (f:=f) j (Mk t e);rw[v7,QK,h] at this;exact gV this
def KU:(Tryz.prog.info? 50).map (·.size)=some 3:=by kernel_rfl
def Dc{n:Nat}{f:Nat->Nat->Value}{b o:Nat}(h:∀r c,r<n->c<3->w.cell? ⟨b,o+r*3+c,none⟩=some (f r c)):∀j v,(kC n 3 f)[j]?=some v->w.cell? ((⟨b,o,none⟩:Addr).add j)=some v:=λj v a=>by
 obtain⟨x,e,u,rfl⟩:=SS (by omega) a;have:=h _ _ e u;rw[show o+j/3*3+j % 3=o+j by omega] at this;rw[Addr.add_lit];exact this
def Fj{n:Nat}{f:Nat->Nat->Value}(h:∀r c,r<n->c<3->(f r c).oneCell'=true):∀v∈kC n 3 f,v.oneCell'=true:=λv a=>by
 obtain⟨t,e⟩:=qR a;obtain⟨x,j,u,rfl⟩:=SS (by omega) e;exact h _ _ j u
def ag2{a j b o cv:Nat}{x:Array Value}{e:TypeId}{fr:Nat×Nat}{u:Value}(A:a≠b)(y:w.cell? ⟨a,j,none⟩=some u)(C:w.heap[b]?=some (.cells x e fr))(J:ng .hold x.size fr)(M:o<x.size):
  ∀D cb,(callFunc 231 #[.slice (some ⟨a,j,none⟩) 1 cv,.slice (some ⟨b,o,none⟩) D cb]).run Tryz.prog w=.ok (.value (.bool false)) w:=λD cb=>by
 have N:=J.mrk rfl;have P:=J o M;obtain⟨kA,E,F⟩:∃kA E,w.shape? a=some (E,kA+1):=by
  simp only[World.cell?] at y
  split at y
  ·rename_i c Q S H;have R:j<c.size:=by
    rcases yn j c.size with h|h
    ·exact h
    ·simp[yl h] at y
   exact⟨c.size-1,Q,by simp only[World.shape?,H];rw[show c.size-1+1=c.size by omega]⟩
  ·cases y
 have I:w.shape? b=some (e,x.size):=by simp only[World.shape?,C]
 obtain⟨U,Y⟩:=fr;rw[run_callFunc_extern Tryz.func231 (by kernel_rfl) (by kernel_rfl) (by kernel_rfl) (e:=Extern.SlicesOverlaps.overlaps #[46,46] #[4]) (by kernel_rfl),
  ZZ w 46 4 50 Tryz.underlying46 3 Tryz.sizeOf50 ⟨a,j,none⟩ ⟨b,o,none⟩ 1 cv D cb A E e (kA+1) x.size F I (by omega)
   (by simp only[World.frozen?,C];simpa using P) (by simp only[World.frozen?,C];simpa using N)];rfl
end
section
variable{W:World}{γ:Nat->G}{w w':World}
def ahG{x:List dy}{v:dy}{v1:Value}{N P cv:Nat}(hf:∀b,w.heap.size<=b->γ b=.fr)(h1:Rd (ea γ w) (some (.cE 0,[])) (.own true .hold x) v1)
  (R:∀r c,r<1->c<3->w.cell? ⟨N,P+r*3+c,none⟩=some (hC [v] r c))(hn:x.length<4294967296):
  Calls Tryz.prog 187 #[v1,.int .i64 (x.length:Nat),.slice (some ⟨N,P,none⟩) 1 cv] w λe w'=>∃u F,e=.returned u/\dK (λq _=>∃n,q=.cE n) γ w F w'/\Rd (ea F w') (some (.cE 3,[])) (.own true .hold (x++[v])) u:=by
 obtain⟨a,cap,rfl,A⟩:=h1.J1;have A:x.length<=cap:=A;obtain⟨i,z,a1,a2,a3,a4,a5⟩:=xf (T:=50) (k:=3) (by kernel_rfl);have hx:Rd (Gs.rc At ⟨γ,λ_=>0,λ_=>.bool true⟩ w) (some (.cE 0,[])) (.own true .hold x) (.slice a x.length cap):=
  Rd.same (c':=Gs.rc At ⟨γ,λ_=>0,λ_=>.bool true⟩ w) h1 (λb S=>⟨S,rfl⟩) (λq p he b π S=>⟨S,rfl⟩) (λk H=>by cases H) (λk H=>by cases H) (λk H=>by cases H);have T:Lp Tryz.prog 46 46 .hold 50 i z:=⟨Tryz.underlying46,a1,a2,a3,a4,.inl ⟨_,Tryz.underlying46⟩⟩;have src:Src Tryz.prog (cI .hold) 46 (.slice (some ⟨N,P,none⟩) 1 cv) 1 (kC 1 3 (hC [v])) w:=
  Src.ofSlice w Tryz.underlying46 ⟨N,P,none⟩ 1 cv _ (by rw[qh];rfl) (Dc R) (Fj λr c D U=>zM (by simpa using D) U);have Y:lW (Gs.rc At ⟨γ,λ_=>0,λ_=>.bool true⟩ w) true .hold [v] (kC 1 3 (hC [v])):=⟨by rw[qh];rfl,λr y j tv hy hj=>by
  obtain⟨C,z,rfl⟩:=FQ hj
  have D:r<1:=(eT.1 hy).1
  obtain⟨z',e1,e2⟩:=KT (d:=true) hy C
  have:=e1.symm.trans hj
  injection this with this
  cases this
  have e3:hC [v] r j=.int .i64 z:=e2
  exact⟨hC [v] r j,rX D C,zM D C,(show Rd _ _ _ (hC [v] r j) from by rw[e3];exact Rd.i _ _ _)⟩⟩;obtain⟨v',w2,I,J,_,Z,aa⟩:=FY (ty:=46) (γ1:=γ) (g:=⟨γ,λ_=>0,λ_=>.bool true⟩) (XQ hf) T hx src Y
  (by show 2*(List.length (α:=dy) x+1)*i.bytes<=2^48
      have:2*(List.length (α:=dy) x+1)*i.bytes<=2*4294967296*1000:=Ml (by omega) a5
      omega) (by show List.length (α:=dy) x+1<=2^62;omega);refine Calls.mono (ins_end A J) λe' w' he=>?_;obtain⟨rfl,rfl⟩:=he;rcases Z.lT with⟨h0,_⟩|⟨q,π,g2,ab,af,cs,e,fr,f,hm,rfl,ad,E,Q,hu,hs,U,D⟩
 ·have h0:x++[v]=[]:=h0;simp at h0
 simp only[di,eS] at hm;obtain⟨rfl,rfl⟩:=hm;have E:I g2=.at (.cE 0) [tg .hold]:=E;have Q:w'.heap[g2]?=some (.cells cs e fr):=Q;have ae:=M9 (rc:=Gs.rc At ⟨I,λ_=>0,λ_=>.bool true⟩ w') U D;refine⟨_,_,rfl,adf aa E,Oe ad qj Q hu hs λr c D C=>?_⟩;have M:w'.cell? ⟨g2,ab+r*3+c,none⟩=some (hC (x++[v]) r c):=ae r c D C;simp only[World.cell?,Q] at M;simpa using M
def ahH{x:List dy}{v:dy}{i N vo cv b a P:Nat}{cs:Array Value}{e:TypeId}{fr:Nat×Nat}(hf:∀b,w.heap.size<=b->γ b=.fr)
  (I:γ b=.at (.cE 0) [tg .hold])(hh:w.heap[b]?=some (.cells cs e fr))(hl:x.length+1<=P)(hu:ng .hold cs.size fr)(hs:a+P*3<=cs.size)
  (F:∀r c,r<x.length->c<3->w.cell? ⟨b,a+r*3+c,none⟩=some (hC x r c))(ab:N≠b)
  (ad:∀r c,r<1->c<3->w.cell? ⟨N,vo+r*3+c,none⟩=some (hC [v] r c))(hi:i<x.length)(hn:x.length<4294967296):
  Calls Tryz.prog 187 #[.slice (some ⟨b,a,none⟩) x.length P,.int .i64 (i:Nat),.slice (some ⟨N,vo,none⟩) 1 cv] w λe w'=>∃u γ',e=.returned u/\dK (λq _=>∃n,q=.cE n) γ w γ' w'/\Rd (ea γ' w') (some (.cE 3,[])) (.own true .hold (x.take i++[v]++x.drop i)) u:=by
 have an:∀k,k<cs.size->w.frozen? ⟨b,k,none⟩=false:=λk A=>by
  have:=hu k A
  simp only[World.frozen?,hh]
  simpa using this
 have Q:∀k,k<cs.size->(w.cell? ⟨b,k,none⟩).isSome=true:=λk A=>by
  simp only[World.cell?,hh]
  simp[A]
 have v0:w.cell? ⟨N,vo,none⟩=some (hC [v] 0 0):=by simpa using ad 0 0 (by omega) (by omega)
 have ao:=ag2 (cv:=cv) (o:=a+(i+1)*3) ab v0 hh hu (by omega);obtain⟨n1,J⟩:∃n1,n1=kC (x.length-i) 3 (λr c=>hC x (i+r) c):=⟨_,rfl⟩;have ae:n1.length=(x.length-i)*3:=by rw[J];exact qh
 have M:(kC 1 3 (hC [v])).length=1*3:=qh;obtain⟨W1,af⟩:∃W1,W1=w.drew.setCells b (a+(i+1)*3) n1:=⟨_,rfl⟩;have ah:∀R S sc,(Builtin.copy_ #[46,46] R #[.slice (some ⟨b,a+(i+1)*3,none⟩) (x.length+1-(i+1)) S,.slice (some ⟨b,a+i*3,none⟩) (x.length+1-i) sc]).run Tryz.prog w.drew=.ok (goInt (x.length-i:Nat)) W1:=λR S sc=>by
  rw[af]
  refine Jt w.drew 46 46 R 50 b (a+(i+1)*3) _ S ⟨b,a+i*3,none⟩ _ sc (x.length-i) n1 Tryz.underlying46 KU (by simp only[QR];split<;>omega) ae ?_ (λj hj=>Q _ (by omega)) (λj hj=>an _ (by omega)) ?_
  ·rw[J];refine Dc (w:=w.drew) λr c U Y=>?_;have:=F (i+r) c (by omega) Y;rw[show a+(i+r)*3+c=a+i*3+r*3+c by omega] at this;exact this
  ·rw[J];exact Fj λr c U Y=>zM (by omega) Y
 have C:=kt b n1 (a+(i+1)*3) w.drew;rw[<-af] at C;obtain⟨uB,g1,g2,g3,g4⟩:=C.this cs e fr hh;obtain⟨W2,ai⟩:∃W2,W2=W1.setCells b (a+i*3) (kC 1 3 (hC [v])):=⟨_,rfl⟩;have aj:∀R S,(Builtin.copy_ #[46,46] R #[.slice (some ⟨b,a+i*3,none⟩) (x.length+1-i) S,.slice (some ⟨N,vo,none⟩) 1 cv]).run Tryz.prog W1=.ok (goInt (1:Nat)) W2:=λR S=>by
  rw[ai]
  refine Jt W1 46 46 R 50 b (a+i*3) _ S ⟨N,vo,none⟩ 1 cv 1 _ Tryz.underlying46 KU (by simp only[QR];split<;>omega) M (Dc λr c U Y=>?_) (λj hj=>?_) (λj hj=>?_) (Fj λr c U Y=>zM U Y)
  ·rw[<-ad r c U Y];exact lP (C.other N ab)
  ·simp only[World.cell?,g1];have:a+i*3+j<uB.size:=by omega
   simp[this]
  ·have:=hu (a+i*3+j) (by omega);simp only[World.frozen?,g1];simpa using this
 have E:=kt b (kC 1 3 (hC [v])) (a+i*3) W1;rw[<-ai] at E;obtain⟨ap,d1,d2,d3,d4⟩:=E.this uB e fr g1;refine Calls.mono (ins_room hi hl (by omega) ao ah aj) λe' w' he=>?_;obtain⟨rfl,rfl⟩:=he;have aq:b<w.heap.size:=lC hf b (by rw[I];simp);have H:∀k,k≠b->w'.heap[k]?=w.heap[k]?:=λk A=>(E.other k A).trans (C.other k A);have ak:w'.heap.size=w.heap.size:=E.size.trans C.size;have Z:(x.take i++[v]++x.drop i).length=x.length+1:=by simp;omega
 refine⟨_,iI γ b (.at (.cE 3) [tg .hold]),rfl,?_,?_⟩
 ·exact{
   im:=λk A=>by
    have D:k≠b:=λe=>by rw[e,I] at A;cases A
    exact⟨by rw[j1 D];exact A,H k D⟩
   at':=λk q π A hx=>by
    have D:k≠b:=λe=>by rw[e,I] at A;cases A;exact hx ⟨0,rfl⟩
    exact⟨by rw[j1 D];exact A,H k D⟩
   fr:=λk _ h0=>by
    have D:k≠b:=λe=>by rw[e,I] at h0;cases h0
    exact⟨by rw[j1 D];exact h0,H k D⟩
   size:=by rw[ak];exact iN _
   new:=λk A=>by
    rw[ak] at A
    rw[j1 (by omega)];exact hf k A
   tape:=E.tape.trans C.tape
   os:=E.os.trans C.os
   output:=E.output.trans C.output}
 ·have am:=Oe (γ':=iI γ b (.at (.cE 3) [tg .hold])) (y:=x.take i++[v]++x.drop i) (by rw[Z];exact hl) qj d1 (by rw[d2,g2];exact hu) (by rw[d2,g2];exact hs) λr c U aa=>by
    rw[Z] at U
    rw[WD (by omega)]
    by_cases c1:r<i
    ·rw[cM c1,d4 _ (by rw[M];omega),g4 _ (by omega)];have:=F r c (by omega) aa;simp only[World.cell?,hh] at this;simpa using this
    ·rw[cN c1]
     by_cases c2:r=i
     ·rw[cM c2,c2,d3 _ (by rw[M];omega) (by omega)];have:=rX (n:=1) (f:=hC [v]) (r:=0) (by omega) aa;rw[Hy,iB] at this;exact this
     ·rw[cN c2,d4 _ (by rw[M];omega)];have:=g3 ((r-1-i)*3+c) (by rw[ae];omega) (by omega);rw[show a+(i+1)*3+((r-1-i)*3+c)=a+r*3+c by omega] at this;rw[this,J,rX (by omega) aa,show i+(r-1-i)=r-1 by omega]
  rw[Z] at am;exact am
end
section
variable{W:World}{γ:Nat->G}{w w':World}
def ahI{a:List dy}{v:dy}{i J vo cv b off cap:Nat}(hf:∀b,w.heap.size<=b->γ b=.fr)
  (an:γ b=.at (.cE 0) [tg .hold])(ao:γ J=.im)(hl:a.length<=cap)(ap:cap<a.length+1)
  (E:∀r c,r<a.length->c<3->w.cell? ⟨b,off+r*3+c,none⟩=some (hC a r c))
  (aq:∀r c,r<1->c<3->w.cell? ⟨J,vo+r*3+c,none⟩=some (hC [v] r c))(hi:i<a.length)(hn:a.length<4294967296):
  Calls Tryz.prog 187 #[.slice (some ⟨b,off,none⟩) a.length cap,.int .i64 (i:Nat),.slice (some ⟨J,vo,none⟩) 1 cv] w λe w'=>∃u γ',e=.returned u/\dK (λq _=>∃n,q=.cE n) γ w γ' w'/\Rd (ea γ' w') (some (.cE 3,[])) (.own true .hold (a.take i++[v]++a.drop i)) u:=by
 have au:b<w.heap.size:=lC hf b (by rw[an];simp);have av:J<w.heap.size:=lC hf J (by rw[ao];simp);obtain⟨ii,z,a1,a2,a3,a4,a5⟩:=xf (T:=50) (k:=3) (by kernel_rfl);obtain⟨n0,N⟩:∃n0,n0=kC i 3 (hC a):=⟨_,rfl⟩;have ab:n0.length=i*3:=by rw[N];exact qh
 obtain⟨c',aw⟩:∃c',c'=grownCap w (i+(a.length+1-i)) cap 50:=⟨_,rfl⟩;have ad:a.length+1<=c':=by
  have:=Zs w (i+(a.length+1-i)) cap 50
  omega
 obtain⟨cs,Q⟩:∃cs,cs=n0.toArray++Builtin.zeroCells z.cells (a.length+1-i)++Builtin.zeroCells z.cells (c'-(i+(a.length+1-i))):=⟨_,rfl⟩;have ax:cs.size=c'*3:=by
  rw[Q,QF,QF,size_zeroCells,size_zeroCells,a4]
  simp only[Mj,ab]
  omega
 obtain⟨W1,A⟩:∃W1,W1=w.drew.alloc (.cells cs 50):=⟨_,rfl⟩;have ay:(Builtin.append_ #[46,3] 46 #[.slice (some ⟨b,off,none⟩) i cap,.int .i64 ((a.length:Int)+1-i)]).run Tryz.prog w=.ok (.slice (some ⟨w.heap.size,0,none⟩) (a.length+1) c') W1:=by
  have ae:(Builtin.firstCells ii.size i (.slice (some ⟨b,off,none⟩) i cap)).run Tryz.prog w.drew=.ok n0.toArray w.drew:=by
   rw[a3,N]
   exact run_firstCells_some w.drew 3 i ⟨b,off,none⟩ i cap _ qh (Dc (w:=w.drew) λr c M H=>E r c (by omega) H)
  have aB:(a.length+1-i)*ii.bytes<=4294967296*1000:=Ml (by omega) a5
  have aC:(i+(a.length+1-i))*ii.bytes<=4294967296*1000:=Ml (by omega) a5
  have:=Lib.run_append_grow_zeros (P:=Tryz.prog) w 46 3 46 50 ii z .i64 .i64 Tryz.underlying46 Tryz.underlying3 a1 a2 (some ⟨b,off,none⟩) i cap n0 ae (a.length+1-i) (by omega) (by omega) (by omega) (by omega) (by omega) (growslice_fits (by omega) (by omega))
  rw[<-aw,<-Q,<-A,show i+(a.length+1-i)=a.length+1 by omega,show((a.length+1-i:Nat):Int)=(a.length:Int)+1-i by omega] at this
  exact this
 have R:W1.heap[w.heap.size]?=some (.cells cs 50 (0,0)):=by
  rw[A]
  show(w.heap.push _)[w.heap.size]?=_
  simp
 have S:∀k,k<w.heap.size->W1.heap[k]?=w.heap[k]?:=λk D=>by
  rw[A]
  show(w.heap.push _)[k]?=_
  rw[Array.getElem?_push,cN (by omega)]
 have az:W1.heap.size=w.heap.size+1:=by
  rw[A]
  show(w.heap.push _).size=_
  simp
 obtain⟨W2,af⟩:∃W2,W2=W1.setCells w.heap.size (i*3) (kC 1 3 (hC [v])):=⟨_,rfl⟩;have U:(kC 1 3 (hC [v])).length=1*3:=qh;have ah:∀Y,(Builtin.copy_ #[46,46] Y #[.slice (some ⟨w.heap.size,i*3,none⟩) (a.length+1-i) (c'-i),.slice (some ⟨J,vo,none⟩) 1 cv]).run Tryz.prog W1=.ok (goInt (1:Nat)) W2:=λY=>by
  rw[af]
  refine Jt W1 46 46 Y 50 w.heap.size (i*3) _ _ ⟨J,vo,none⟩ 1 cv 1 _ Tryz.underlying46 KU (by simp only[QR];split<;>omega) U (Dc λr c M H=>?_) (λj hj=>?_) (λj hj=>?_) (Fj λr c M H=>zM M H)
  ·rw[<-aq r c M H];exact lP (S J av)
  ·simp only[World.cell?,R];have:i*3+j<cs.size:=by omega
   simp[this]
  ·simp[World.frozen?,R]
 have x:=kt w.heap.size (kC 1 3 (hC [v])) (i*3) W1;rw[<-af] at x;obtain⟨uB,g1,g2,g3,g4⟩:=x.this cs 50 (0,0) R;obtain⟨n1,I⟩:∃n1,n1=kC (a.length-i) 3 (λr c=>hC a (i+r) c):=⟨_,rfl⟩;have ai:n1.length=(a.length-i)*3:=by rw[I];exact qh
 obtain⟨W3,aj⟩:∃W3,W3=W2.drew.setCells w.heap.size ((i+1)*3) n1:=⟨_,rfl⟩;have ak:∀Y,(Builtin.copy_ #[46,46] Y #[.slice (some ⟨w.heap.size,(i+1)*3,none⟩) (a.length+1-(i+1)) (c'-(i+1)),.slice (some ⟨b,off+i*3,none⟩) (a.length-i) (cap-i)]).run Tryz.prog W2.drew=.ok (goInt (a.length-i:Nat)) W3:=λY=>by
  rw[aj]
  refine Jt W2.drew 46 46 Y 50 w.heap.size ((i+1)*3) _ _ ⟨b,off+i*3,none⟩ _ _ (a.length-i) n1 Tryz.underlying46 KU (by simp only[QR];split<;>omega) ai ?_ (λj hj=>?_) (λj hj=>?_) ?_
  ·rw[I];refine Dc (w:=W2.drew) λr c M H=>?_;have:=E (i+r) c (by omega) H;rw[show off+(i+r)*3+c=off+i*3+r*3+c by omega] at this;rw[<-this];exact lP (w:=w) (w':=W2.drew) ((x.other b (by omega)).trans (S b au))
  ·show(W2.cell? _).isSome=true;simp only[World.cell?,g1];have:(i+1)*3+j<uB.size:=by omega
   simp[this]
  ·show W2.frozen? _=false;simp[World.frozen?,g1]
  ·rw[I];exact Fj λr c M H=>zM (by omega) H
 have C:=kt w.heap.size n1 ((i+1)*3) W2.drew;rw[<-aj] at C;obtain⟨aD,d1,d2,d3,d4⟩:=C.this uB 50 (0,0) g1;refine Calls.mono (ins_grow hi hl ap ad (by omega) ay ah ak) λe' w' he=>?_;obtain⟨rfl,rfl⟩:=he;have F:∀k,k<w.heap.size->w'.heap[k]?=w.heap[k]?:=λk D=>(C.other k (by omega)).trans ((x.other k (by omega)).trans (S k D));have aA:w'.heap.size=w.heap.size+1:=C.size.trans (x.size.trans az);have Z:(a.take i++[v]++a.drop i).length=a.length+1:=by simp;omega
 refine⟨_,iI γ w.heap.size (.at (.cE 3) [tg .hold]),rfl,?_,?_⟩
 ·exact{
   im:=λk D=>by
    have:=lC hf k (by rw[D];simp)
    exact⟨by rw[j1 (by omega)];exact D,F k this⟩
   at':=λk q π D hx=>by
    have:=lC hf k (by rw[D];simp)
    exact⟨by rw[j1 (by omega)];exact D,F k this⟩
   fr:=λk D h0=>⟨by rw[j1 (by omega)];exact h0,F k D⟩
   size:=by omega
   new:=λk D=>by
    rw[aA] at D
    rw[j1 (by omega)];exact hf k (by omega)
   tape:=C.tape.trans (x.tape.trans (by rw[A];rfl))
   os:=C.os.trans (x.os.trans (by rw[A];rfl))
   output:=C.output.trans (x.output.trans (by rw[A];rfl))}
 ·have am:=Oe (γ':=iI γ w.heap.size (.at (.cE 3) [tg .hold])) (y:=a.take i++[v]++a.drop i) (off:=0) (cap:=c') (by rw[Z];exact ad) qj d1 ng.zero (by rw[d2,g2,ax];omega) λr c M aa=>by
    rw[Z] at M
    rw[WD (by omega),iB]
    by_cases c1:r<i
    ·rw[cM c1,d4 _ (by omega),g4 _ (by rw[U];omega),Q,Array.append_assoc,QH (by simp only[Mj,ab];omega)];simp only[Zz];rw[N,rX c1 aa]
    ·rw[cN c1]
     by_cases c2:r=i
     ·rw[cM c2,c2,d4 _ (by omega),g3 _ (by rw[U];omega) (by omega)];have:=rX (n:=1) (f:=hC [v]) (r:=0) (by omega) aa;rw[Hy,iB] at this;exact this
     ·rw[cN c2];have:=d3 ((r-1-i)*3+c) (by rw[ai];omega) (by omega);rw[show(i+1)*3+((r-1-i)*3+c)=r*3+c by omega] at this;rw[this,I,rX (by omega) aa,show i+(r-1-i)=r-1 by omega]
  rw[Z] at am;exact am
variable(W)
def ahJ(n:Nat):lq W 187 (XH n):=by
 refine⟨enters Tryz.func187 (by kernel_rfl),λγ w I af(x:List dy×Int×List dy×Unit)(y:List dy)S hG U D=>?_⟩;obtain⟨xs,i,vs,_⟩:=x
 match I,U with
 |[v1,v2,v3],U=>
  obtain⟨P,h2,h3,h4⟩:=U;obtain rfl:=zK h2;have P:Rd (ea γ w) (some (.cE 0,[])) (.own true .hold xs) v1:=P;have D:Cq n xs i vs=some y:=D;unfold Cq at D;split at D
  ·rename_i Y;injection D with D;obtain⟨k0,k1,k2,k3⟩:=Y;obtain⟨i,rfl⟩:=hV k0;rw[fH] at D;have ah:i<=xs.length:=by omega
   obtain⟨v,rfl⟩:∃v,vs=[v]:=List.length_eq_one_iff.1 k2;rcases OZ h3 with⟨J,_⟩|⟨Q,vo,cv,f,rfl,ai,a,M,Z⟩
   ·cases J
   have a:γ Q=.im:=a;have F:∀r c,r<1->c<3->w.cell? ⟨Q,vo+r*3+c,none⟩=some (hC [v] r c):=λr c hr hc=>M9 (rc:=ea γ w) M Z r c (by simpa using hr) hc
   suffices H:Calls Tryz.prog 187 #[v1,.int .i64 (i:Nat),.slice (some ⟨Q,vo,none⟩) 1 cv] w λe w'=>∃u E,e=.returned u/\dK (λq _=>∃n,q=.cE n) γ w E w'/\Rd (ea E w') (some (.cE 3,[])) (.own true .hold (xs.take i++[v]++xs.drop i)) u by
    refine Calls.mono H λe w' he=>?_;obtain⟨u,E,rfl,aa,ab⟩:=he;exact⟨u,E,rfl,aa,by rw[<-D];exact ab,trivial,trivial,trivial,trivial⟩
   by_cases N:i=xs.length
   ·subst N;have:=ahG (cv:=cv) S P F k3;rw[s8,rK,HJ];exact this
   ·have R:i<xs.length:=by omega
    rcases P.lT with⟨J,_⟩|⟨q,π,b,ad,cap,cs,e,fr,f2,hm,rfl,hl,j,hh,hu,hs,hc,hr⟩
    ·have J:xs=[]:=J;rw[J] at R;simp at R
    simp only[di,eS] at hm;obtain⟨rfl,rfl⟩:=hm;have j:γ b=.at (.cE 0) [tg .hold]:=j;have hh:w.heap[b]?=some (.cells cs e fr):=hh;have hl:xs.length<=cap:=hl;have hs:ad+cap*3<=cs.size:=hs;have A:=M9 (rc:=ea γ w) hc hr;have ae:Q≠b:=by rintro rfl;rw[j] at a;cases a
    by_cases C:xs.length+1<=cap
    ·exact ahH S j hh C hu hs A ae F R k3
    ·exact ahI S j a hl (DN C) A F R k3
  ·cases D
end
end Go.Sd
