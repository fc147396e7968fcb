import Derived.Shelf.LaysM
import Derived.Shelf.Strings.Fields
import Derived.Shelf.Strings.OnBuilder
import Derived.Shelf.Strings.Repeat
import Derived.Shelf.Strings.Search3
import Derived.Shelf.Spec.BitsCarry
import Derived.Shelf.Strconv.Itoa4
import Derived.Ground.NamesProg
import Derived.Test.YtmomonnlmbljoaaGreatDoorProg
import Derived.RangeFuncWrites
import Derived.RangeFuncLeaves
import Derived.Shelf.Abstract
import Derived.WalkKit
import Derived.OwnWalkIn
import Derived.TacticsInMore
import Derived.Test.YtmomonnlmbljoaaGreatDoorPal
import Derived.Test.YtmomonnlmbljoaaGreatDoorPar
section
namespace Go.Proofs
open Go.Shelf
def Tryz.lFields_ren:Go.Shelf.Ren:=⟨fun | 157=>122 | 229=>165 | 199=>166 | 261=>200 | 311=>212 | 312=>213 | n=>n,fun | 9=>9 | 31=>38 | 3=>3 | 5=>5 | 4=>4 | 119=>219 | 0=>0 | 40=>221 | 152=>243 | 21=>21 | 154=>245 | 51=>194 | 141=>247 | 196=>259 | 193=>256 | 198=>262 | 49=>260 | 194=>257 | 201=>265 | 226=>269 | 46=>145 | 227=>270 | n=>n,fun | 0=>0 | 6=>1 | n=>n⟩
theorem Tryz.lFields:Go.Proofs.Lays.n157 Tryz.prog Tryz.lFields_ren:={
 mixed:=by kernel_rfl
 f157:=Tryz.func122.trans (congrArg some (by kernel_rfl))
 f199:=Tryz.func166.trans (congrArg some (by kernel_rfl))
 f229:=Tryz.func165.trans (congrArg some (by kernel_rfl))
 f261:=Tryz.func200.trans (congrArg some (by kernel_rfl))
 f311:=Tryz.func212.trans (congrArg some (by kernel_rfl))
 f312:=Tryz.func213.trans (congrArg some (by kernel_rfl))
 t0:=Tryz.underlying0
 a0:=Tryz.isAgg0
 z0:=Tryz.sizeOf0
 v0:=Tryz.zeroValue0
 t3:=Tryz.underlying3
 a3:=Tryz.isAgg3
 z3:=Tryz.sizeOf3
 v3:=Tryz.zeroValue3
 t4:=Tryz.underlying4
 a4:=Tryz.isAgg4
 z4:=Tryz.sizeOf4
 v4:=Tryz.zeroValue4
 t5:=Tryz.underlying5
 a5:=Tryz.isAgg5
 z5:=Tryz.sizeOf5
 v5:=Tryz.zeroValue5
 t9:=Tryz.underlying9
 a9:=Tryz.isAgg9
 z9:=Tryz.sizeOf9
 v9:=Tryz.zeroValue9
 t21:=Tryz.underlying21
 a21:=Tryz.isAgg21
 z21:=Tryz.sizeOf21
 v21:=Tryz.zeroValue21
 t31:=Tryz.underlying38
 a31:=Tryz.isAgg38
 z31:=Tryz.sizeOf38
 v31:=Tryz.zeroValue38
 t40:=Tryz.underlying221
 a40:=Tryz.isAgg221
 z40:=Tryz.sizeOf221
 v40:=Tryz.zeroValue221
 t46:=Tryz.underlying145
 a46:=Tryz.isAgg145
 z46:=Tryz.sizeOf145
 v46:=Tryz.zeroValue145
 t49:=Tryz.underlying260
 a49:=Tryz.isAgg260
 z49:=Tryz.sizeOf260
 v49:=Tryz.zeroValue260
 t51:=Tryz.underlying194
 a51:=Tryz.isAgg194
 z51:=Tryz.sizeOf194
 v51:=Tryz.zeroValue194
 t119:=Tryz.underlying219
 a119:=Tryz.isAgg219
 z119:=Tryz.sizeOf219
 t141:=Tryz.underlying247
 a141:=Tryz.isAgg247
 z141:=Tryz.sizeOf247
 v141:=Tryz.zeroValue247
 t152:=Tryz.underlying243
 a152:=Tryz.isAgg243
 z152:=Tryz.sizeOf243
 v152:=Tryz.zeroValue243
 t154:=Tryz.underlying245
 a154:=Tryz.isAgg245
 z154:=Tryz.sizeOf245
 v154:=Tryz.zeroValue245
 t193:=Tryz.underlying256
 a193:=Tryz.isAgg256
 z193:=Tryz.sizeOf256
 v193:=Tryz.zeroValue256
 t194:=Tryz.underlying257
 a194:=Tryz.isAgg257
 z194:=Tryz.sizeOf257
 v194:=Tryz.zeroValue257
 t196:=Tryz.underlying259
 a196:=Tryz.isAgg259
 z196:=Tryz.sizeOf259
 v196:=Tryz.zeroValue259
 t198:=Tryz.underlying262
 a198:=Tryz.isAgg262
 z198:=Tryz.sizeOf262
 v198:=Tryz.zeroValue262
 t201:=Tryz.underlying265
 a201:=Tryz.isAgg265
 z201:=Tryz.sizeOf265
 v201:=Tryz.zeroValue265
 t226:=Tryz.underlying269
 a226:=Tryz.isAgg269
 z226:=Tryz.sizeOf269
 v226:=Tryz.zeroValue269
 t227:=Tryz.underlying270
 a227:=Tryz.isAgg270
 z227:=Tryz.sizeOf270
 v227:=Tryz.zeroValue270
 g0:=by kernel_rfl
 g6:=by kernel_rfl }
def Tryz.lJoin_ren:Go.Shelf.Ren:=⟨fun | 156=>96 | 165=>100 | 166=>101 | 169=>103 | 240=>131 | 241=>132 | 276=>179 | 277=>180 | n=>n,fun | 31=>38 | 9=>9 | 3=>3 | 4=>4 | 0=>0 | 20=>20 | 72=>151 | 76=>154 | 70=>148 | 37=>149 | 75=>153 | 127=>199 | 164=>230 | 5=>5 | 80=>157 | n=>n,fun | n=>n⟩
theorem Tryz.lJoin:Go.Proofs.Lays.n156 Tryz.prog Tryz.lJoin_ren:={
 mixed:=by kernel_rfl
 f156:=Tryz.func96.trans (congrArg some (by kernel_rfl))
 f165:=Tryz.func100.trans (congrArg some (by kernel_rfl))
 f166:=Tryz.func101.trans (congrArg some (by kernel_rfl))
 f169:=Tryz.func103.trans (congrArg some (by kernel_rfl))
 f240:=Tryz.func131.trans (congrArg some (by kernel_rfl))
 f241:=Tryz.func132.trans (congrArg some (by kernel_rfl))
 f276:=Tryz.func179.trans (congrArg some (by kernel_rfl))
 f277:=Tryz.func180.trans (congrArg some (by kernel_rfl))
 t0:=Tryz.underlying0
 a0:=Tryz.isAgg0
 z0:=Tryz.sizeOf0
 v0:=Tryz.zeroValue0
 t3:=Tryz.underlying3
 a3:=Tryz.isAgg3
 z3:=Tryz.sizeOf3
 v3:=Tryz.zeroValue3
 t4:=Tryz.underlying4
 a4:=Tryz.isAgg4
 z4:=Tryz.sizeOf4
 v4:=Tryz.zeroValue4
 t9:=Tryz.underlying9
 a9:=Tryz.isAgg9
 z9:=Tryz.sizeOf9
 v9:=Tryz.zeroValue9
 t20:=Tryz.underlying20
 a20:=Tryz.isAgg20
 z20:=Tryz.sizeOf20
 v20:=Tryz.zeroValue20
 t31:=Tryz.underlying38
 a31:=Tryz.isAgg38
 z31:=Tryz.sizeOf38
 v31:=Tryz.zeroValue38
 t37:=Tryz.underlying149
 a37:=Tryz.isAgg149
 z37:=Tryz.sizeOf149
 v37:=Tryz.zeroValue149
 t70:=Tryz.underlying148
 a70:=Tryz.isAgg148
 z70:=Tryz.sizeOf148
 v70:=Tryz.zeroValue148
 t72:=Tryz.underlying151
 a72:=Tryz.isAgg151
 z72:=Tryz.sizeOf151
 v72:=Tryz.zeroValue151
 t75:=Tryz.underlying153
 a75:=Tryz.isAgg153
 z75:=Tryz.sizeOf153
 v75:=Tryz.zeroValue153
 t76:=Tryz.underlying154
 a76:=Tryz.isAgg154
 z76:=Tryz.sizeOf154
 v76:=Tryz.zeroValue154
 t127:=Tryz.underlying199
 a127:=Tryz.isAgg199
 z127:=Tryz.sizeOf199
 v127:=Tryz.zeroValue199
 t164:=Tryz.underlying230
 a164:=Tryz.isAgg230
 z164:=Tryz.sizeOf230
 v164:=Tryz.zeroValue230 }
def Tryz.lRepeat_ren:Go.Shelf.Ren:=⟨fun | 105=>56 | 212=>99 | 99=>80 | 165=>100 | 166=>101 | 170=>102 | 169=>103 | 263=>129 | 264=>130 | 206=>117 | 240=>131 | 241=>132 | 276=>179 | 277=>180 | n=>n,fun | 9=>9 | 3=>3 | 4=>4 | 20=>20 | 0=>0 | 46=>145 | 109=>146 | 5=>5 | 72=>151 | 76=>154 | 51=>194 | 146=>195 | 53=>23 | 148=>197 | 70=>148 | 37=>149 | 75=>153 | 127=>199 | 164=>230 | 80=>157 | n=>n,fun | n=>n⟩
theorem Tryz.lRepeat:Go.Proofs.Lays.n105 Tryz.prog Tryz.lRepeat_ren:={
 mixed:=by kernel_rfl
 f99:=Tryz.func80.trans (congrArg some (by kernel_rfl))
 f105:=Tryz.func56.trans (congrArg some (by kernel_rfl))
 f165:=Tryz.func100.trans (congrArg some (by kernel_rfl))
 f166:=Tryz.func101.trans (congrArg some (by kernel_rfl))
 f169:=Tryz.func103.trans (congrArg some (by kernel_rfl))
 f170:=Tryz.func102.trans (congrArg some (by kernel_rfl))
 f206:=Tryz.func117.trans (congrArg some (by kernel_rfl))
 f212:=Tryz.func99.trans (congrArg some (by kernel_rfl))
 f240:=Tryz.func131.trans (congrArg some (by kernel_rfl))
 f241:=Tryz.func132.trans (congrArg some (by kernel_rfl))
 f263:=Tryz.func129.trans (congrArg some (by kernel_rfl))
 f264:=Tryz.func130.trans (congrArg some (by kernel_rfl))
 f276:=Tryz.func179.trans (congrArg some (by kernel_rfl))
 f277:=Tryz.func180.trans (congrArg some (by kernel_rfl))
 t0:=Tryz.underlying0
 a0:=Tryz.isAgg0
 z0:=Tryz.sizeOf0
 v0:=Tryz.zeroValue0
 t3:=Tryz.underlying3
 a3:=Tryz.isAgg3
 z3:=Tryz.sizeOf3
 v3:=Tryz.zeroValue3
 t4:=Tryz.underlying4
 a4:=Tryz.isAgg4
 z4:=Tryz.sizeOf4
 v4:=Tryz.zeroValue4
 t5:=Tryz.underlying5
 a5:=Tryz.isAgg5
 z5:=Tryz.sizeOf5
 v5:=Tryz.zeroValue5
 t9:=Tryz.underlying9
 a9:=Tryz.isAgg9
 z9:=Tryz.sizeOf9
 v9:=Tryz.zeroValue9
 t20:=Tryz.underlying20
 a20:=Tryz.isAgg20
 z20:=Tryz.sizeOf20
 v20:=Tryz.zeroValue20
 t37:=Tryz.underlying149
 a37:=Tryz.isAgg149
 z37:=Tryz.sizeOf149
 v37:=Tryz.zeroValue149
 t46:=Tryz.underlying145
 a46:=Tryz.isAgg145
 z46:=Tryz.sizeOf145
 v46:=Tryz.zeroValue145
 t51:=Tryz.underlying194
 a51:=Tryz.isAgg194
 z51:=Tryz.sizeOf194
 v51:=Tryz.zeroValue194
 t53:=Tryz.underlying23
 a53:=Tryz.isAgg23
 z53:=Tryz.sizeOf23
 v53:=Tryz.zeroValue23
 t70:=Tryz.underlying148
 a70:=Tryz.isAgg148
 z70:=Tryz.sizeOf148
 v70:=Tryz.zeroValue148
 t72:=Tryz.underlying151
 a72:=Tryz.isAgg151
 z72:=Tryz.sizeOf151
 v72:=Tryz.zeroValue151
 t75:=Tryz.underlying153
 a75:=Tryz.isAgg153
 z75:=Tryz.sizeOf153
 v75:=Tryz.zeroValue153
 t76:=Tryz.underlying154
 a76:=Tryz.isAgg154
 z76:=Tryz.sizeOf154
 v76:=Tryz.zeroValue154
 t109:=Tryz.underlying146
 a109:=Tryz.isAgg146
 z109:=Tryz.sizeOf146
 v109:=Tryz.zeroValue146
 t127:=Tryz.underlying199
 a127:=Tryz.isAgg199
 z127:=Tryz.sizeOf199
 v127:=Tryz.zeroValue199
 t146:=Tryz.underlying195
 a146:=Tryz.isAgg195
 z146:=Tryz.sizeOf195
 v146:=Tryz.zeroValue195
 t148:=Tryz.underlying197
 a148:=Tryz.isAgg197
 z148:=Tryz.sizeOf197
 v148:=Tryz.zeroValue197
 t164:=Tryz.underlying230
 a164:=Tryz.isAgg230
 z164:=Tryz.sizeOf230
 v164:=Tryz.zeroValue230 }
def Tryz.lContains_ren:Go.Shelf.Ren:=⟨fun | 144=>125 | 143=>171 | 219=>206 | 217=>215 | 225=>216 | 224=>217 | 267=>218 | 266=>219 | 314=>220 | n=>n,fun | 9=>9 | 4=>4 | 3=>3 | 5=>5 | 46=>145 | 146=>195 | 51=>194 | n=>n,fun | 1=>3 | n=>n⟩
theorem Tryz.lContains:Go.Proofs.Lays.n144 Tryz.prog Tryz.lContains_ren:={
 mixed:=by kernel_rfl
 f143:=Tryz.func171.trans (congrArg some (by kernel_rfl))
 f144:=Tryz.func125.trans (congrArg some (by kernel_rfl))
 f217:=Tryz.func215.trans (congrArg some (by kernel_rfl))
 f219:=Tryz.func206.trans (congrArg some (by kernel_rfl))
 f224:=Tryz.func217.trans (congrArg some (by kernel_rfl))
 f225:=Tryz.func216.trans (congrArg some (by kernel_rfl))
 f266:=Tryz.func219.trans (congrArg some (by kernel_rfl))
 f267:=Tryz.func218.trans (congrArg some (by kernel_rfl))
 f314:=Tryz.func220.trans (congrArg some (by kernel_rfl))
 t3:=Tryz.underlying3
 a3:=Tryz.isAgg3
 z3:=Tryz.sizeOf3
 v3:=Tryz.zeroValue3
 t4:=Tryz.underlying4
 a4:=Tryz.isAgg4
 z4:=Tryz.sizeOf4
 v4:=Tryz.zeroValue4
 t5:=Tryz.underlying5
 a5:=Tryz.isAgg5
 z5:=Tryz.sizeOf5
 v5:=Tryz.zeroValue5
 t9:=Tryz.underlying9
 a9:=Tryz.isAgg9
 z9:=Tryz.sizeOf9
 v9:=Tryz.zeroValue9
 t46:=Tryz.underlying145
 a46:=Tryz.isAgg145
 z46:=Tryz.sizeOf145
 v46:=Tryz.zeroValue145
 t51:=Tryz.underlying194
 a51:=Tryz.isAgg194
 z51:=Tryz.sizeOf194
 v51:=Tryz.zeroValue194
 t146:=Tryz.underlying195
 a146:=Tryz.isAgg195
 z146:=Tryz.sizeOf195
 v146:=Tryz.zeroValue195
 g1:=by kernel_rfl }
def Tryz.lItoa_ren:Go.Shelf.Ren:=⟨fun | 171=>37 | 243=>90 | 246=>123 | 283=>167 | 284=>168 | 285=>169 | 286=>170 | 129=>202 | 317=>201 | 318=>203 | 319=>204 | 320=>205 | 337=>214 | 338=>188 | n=>n,fun | 3=>3 | 9=>9 | 2=>2 | 4=>4 | 171=>222 | 0=>0 | 53=>23 | 37=>149 | 5=>5 | 173=>225 | 212=>250 | 51=>194 | 20=>20 | 213=>251 | 46=>145 | 232=>271 | 233=>253 | n=>n,fun | 17=>2 | 18=>5 | 19=>4 | n=>n⟩
theorem Tryz.lItoa:Go.Proofs.LaysM.n171 Tryz.prog Tryz.lItoa_ren:={
 mixed:=by kernel_rfl
 f129:=Tryz.func202.trans (congrArg some (by kernel_rfl))
 f171:=Tryz.func37.trans (congrArg some (by kernel_rfl))
 f243:=Tryz.func90.trans (congrArg some (by kernel_rfl))
 f246:=Tryz.func123.trans (congrArg some (by kernel_rfl))
 f283:=Tryz.func167.trans (congrArg some (by kernel_rfl))
 f284:=Tryz.func168.trans (congrArg some (by kernel_rfl))
 f285:=Tryz.func169.trans (congrArg some (by kernel_rfl))
 f286:=Tryz.func170.trans (congrArg some (by kernel_rfl))
 f317:=Tryz.func201.trans (congrArg some (by kernel_rfl))
 f318:=Tryz.func203.trans (congrArg some (by kernel_rfl))
 f319:=Tryz.func204.trans (congrArg some (by kernel_rfl))
 f320:=Tryz.func205.trans (congrArg some (by kernel_rfl))
 f337:=Tryz.func214.trans (congrArg some (by kernel_rfl))
 f338:=Tryz.func188.trans (congrArg some (by kernel_rfl))
 t0:=Tryz.underlying0
 a0:=Tryz.isAgg0
 z0:=Tryz.sizeOf0
 v0:=Tryz.zeroValue0
 t2:=Tryz.underlying2
 a2:=Tryz.isAgg2
 z2:=Tryz.sizeOf2
 v2:=Tryz.zeroValue2
 t3:=Tryz.underlying3
 a3:=Tryz.isAgg3
 z3:=Tryz.sizeOf3
 v3:=Tryz.zeroValue3
 t4:=Tryz.underlying4
 a4:=Tryz.isAgg4
 z4:=Tryz.sizeOf4
 v4:=Tryz.zeroValue4
 t5:=Tryz.underlying5
 a5:=Tryz.isAgg5
 z5:=Tryz.sizeOf5
 v5:=Tryz.zeroValue5
 t9:=Tryz.underlying9
 a9:=Tryz.isAgg9
 z9:=Tryz.sizeOf9
 v9:=Tryz.zeroValue9
 t20:=Tryz.underlying20
 a20:=Tryz.isAgg20
 z20:=Tryz.sizeOf20
 v20:=Tryz.zeroValue20
 t37:=Tryz.underlying149
 a37:=Tryz.isAgg149
 z37:=Tryz.sizeOf149
 v37:=Tryz.zeroValue149
 t46:=Tryz.underlying145
 a46:=Tryz.isAgg145
 z46:=Tryz.sizeOf145
 v46:=Tryz.zeroValue145
 t51:=Tryz.underlying194
 a51:=Tryz.isAgg194
 z51:=Tryz.sizeOf194
 v51:=Tryz.zeroValue194
 t53:=Tryz.underlying23
 a53:=Tryz.isAgg23
 z53:=Tryz.sizeOf23
 v53:=Tryz.zeroValue23
 t171:=Tryz.underlying222
 a171:=Tryz.isAgg222
 z171:=Tryz.sizeOf222
 v171:=Tryz.zeroValue222
 t173:=Tryz.underlying225
 a173:=Tryz.isAgg225
 z173:=Tryz.sizeOf225
 v173:=Tryz.zeroValue225
 t212:=Tryz.underlying250
 a212:=Tryz.isAgg250
 z212:=Tryz.sizeOf250
 v212:=Tryz.zeroValue250
 t213:=Tryz.underlying251
 a213:=Tryz.isAgg251
 z213:=Tryz.sizeOf251
 t232:=Tryz.underlying271
 a232:=Tryz.isAgg271
 z232:=Tryz.sizeOf271
 v232:=Tryz.zeroValue271
 t233:=Tryz.underlying253
 a233:=Tryz.isAgg253
 z233:=Tryz.sizeOf253
 v233:=Tryz.zeroValue253
 g17:=by kernel_rfl
 g18:=by kernel_rfl
 g19:=by kernel_rfl
 i0:=by kernel_rfl
 i2:=by kernel_rfl
 i3:=by kernel_rfl
 i4:=by kernel_rfl
 i5:=by kernel_rfl
 i9:=by kernel_rfl
 i20:=by kernel_rfl
 i37:=by kernel_rfl
 i46:=by kernel_rfl
 i51:=by kernel_rfl
 i53:=by kernel_rfl
 i171:=by kernel_rfl
 i173:=by kernel_rfl
 i212:=by kernel_rfl
 i232:=by kernel_rfl
 i233:=by kernel_rfl
 m17:=by kernel_rfl
 m18:=by kernel_rfl
 m19:=by kernel_rfl }
def Tryz.lFormatInt_ren:Go.Shelf.Ren:=⟨fun | 173=>95 | 246=>123 | 283=>167 | 284=>168 | 285=>169 | 286=>170 | 129=>202 | 317=>201 | 318=>203 | 319=>204 | 320=>205 | 337=>214 | 338=>188 | n=>n,fun | 2=>2 | 3=>3 | 9=>9 | 4=>4 | 171=>222 | 0=>0 | 53=>23 | 37=>149 | 5=>5 | 173=>225 | 212=>250 | 51=>194 | 20=>20 | 213=>251 | 46=>145 | 232=>271 | 233=>253 | n=>n,fun | 17=>2 | 18=>5 | 19=>4 | n=>n⟩
theorem Tryz.lFormatInt:Go.Proofs.LaysM.n173 Tryz.prog Tryz.lFormatInt_ren:={
 mixed:=by kernel_rfl
 f129:=Tryz.func202.trans (congrArg some (by kernel_rfl))
 f173:=Tryz.func95.trans (congrArg some (by kernel_rfl))
 f246:=Tryz.func123.trans (congrArg some (by kernel_rfl))
 f283:=Tryz.func167.trans (congrArg some (by kernel_rfl))
 f284:=Tryz.func168.trans (congrArg some (by kernel_rfl))
 f285:=Tryz.func169.trans (congrArg some (by kernel_rfl))
 f286:=Tryz.func170.trans (congrArg some (by kernel_rfl))
 f317:=Tryz.func201.trans (congrArg some (by kernel_rfl))
 f318:=Tryz.func203.trans (congrArg some (by kernel_rfl))
 f319:=Tryz.func204.trans (congrArg some (by kernel_rfl))
 f320:=Tryz.func205.trans (congrArg some (by kernel_rfl))
 f337:=Tryz.func214.trans (congrArg some (by kernel_rfl))
 f338:=Tryz.func188.trans (congrArg some (by kernel_rfl))
 t0:=Tryz.underlying0
 a0:=Tryz.isAgg0
 z0:=Tryz.sizeOf0
 v0:=Tryz.zeroValue0
 t2:=Tryz.underlying2
 a2:=Tryz.isAgg2
 z2:=Tryz.sizeOf2
 v2:=Tryz.zeroValue2
 t3:=Tryz.underlying3
 a3:=Tryz.isAgg3
 z3:=Tryz.sizeOf3
 v3:=Tryz.zeroValue3
 t4:=Tryz.underlying4
 a4:=Tryz.isAgg4
 z4:=Tryz.sizeOf4
 v4:=Tryz.zeroValue4
 t5:=Tryz.underlying5
 a5:=Tryz.isAgg5
 z5:=Tryz.sizeOf5
 v5:=Tryz.zeroValue5
 t9:=Tryz.underlying9
 a9:=Tryz.isAgg9
 z9:=Tryz.sizeOf9
 v9:=Tryz.zeroValue9
 t20:=Tryz.underlying20
 a20:=Tryz.isAgg20
 z20:=Tryz.sizeOf20
 v20:=Tryz.zeroValue20
 t37:=Tryz.underlying149
 a37:=Tryz.isAgg149
 z37:=Tryz.sizeOf149
 v37:=Tryz.zeroValue149
 t46:=Tryz.underlying145
 a46:=Tryz.isAgg145
 z46:=Tryz.sizeOf145
 v46:=Tryz.zeroValue145
 t51:=Tryz.underlying194
 a51:=Tryz.isAgg194
 z51:=Tryz.sizeOf194
 v51:=Tryz.zeroValue194
 t53:=Tryz.underlying23
 a53:=Tryz.isAgg23
 z53:=Tryz.sizeOf23
 v53:=Tryz.zeroValue23
 t171:=Tryz.underlying222
 a171:=Tryz.isAgg222
 z171:=Tryz.sizeOf222
 v171:=Tryz.zeroValue222
 t173:=Tryz.underlying225
 a173:=Tryz.isAgg225
 z173:=Tryz.sizeOf225
 v173:=Tryz.zeroValue225
 t212:=Tryz.underlying250
 a212:=Tryz.isAgg250
 z212:=Tryz.sizeOf250
 v212:=Tryz.zeroValue250
 t213:=Tryz.underlying251
 a213:=Tryz.isAgg251
 z213:=Tryz.sizeOf251
 t232:=Tryz.underlying271
 a232:=Tryz.isAgg271
 z232:=Tryz.sizeOf271
 v232:=Tryz.zeroValue271
 t233:=Tryz.underlying253
 a233:=Tryz.isAgg253
 z233:=Tryz.sizeOf253
 v233:=Tryz.zeroValue253
 g17:=by kernel_rfl
 g18:=by kernel_rfl
 g19:=by kernel_rfl
 i0:=by kernel_rfl
 i2:=by kernel_rfl
 i3:=by kernel_rfl
 i4:=by kernel_rfl
 i5:=by kernel_rfl
 i9:=by kernel_rfl
 i20:=by kernel_rfl
 i37:=by kernel_rfl
 i46:=by kernel_rfl
 i51:=by kernel_rfl
 i53:=by kernel_rfl
 i171:=by kernel_rfl
 i173:=by kernel_rfl
 i212:=by kernel_rfl
 i232:=by kernel_rfl
 i233:=by kernel_rfl
 m17:=by kernel_rfl
 m18:=by kernel_rfl
 m19:=by kernel_rfl }
end Go.Proofs
end
section

end
section
namespace Go.Proofs.YtmomonnlmbljoaaGreatDoor
open Go.V
set_option maxRecDepth 1000000
variable {mL:Int}
noncomputable def a5l:List Value:=[.int .u8 0,.int .u8 0,.int .u8 0,.int .u8 0,.int .u8 0,.int .u8 0,.int .u8 0,.int .u8 0,.int .u8 0,.int .u8 1,.int .u8 1,.int .u8 1,.int .u8 1,.int .u8 1,.int .u8 0,.int .u8 0,.int .u8 0,.int .u8 0,.int .u8 0,.int .u8 0,.int .u8 0,.int .u8 0,.int .u8 0,.int .u8 0,.int .u8 0,.int .u8 0,.int .u8 0,.int .u8 0,.int .u8 0,.int .u8 0,.int .u8 0,.int .u8 0,.int .u8 1,.int .u8 0,.int .u8 0,.int .u8 0,.int .u8 0,.int .u8 0,.int .u8 0,.int .u8 0,.int .u8 0,.int .u8 0,.int .u8 0,.int .u8 0,.int .u8 0,.int .u8 0,.int .u8 0,.int .u8 0,.int .u8 0,.int .u8 0,.int .u8 0,.int .u8 0,.int .u8 0,.int .u8 0,.int .u8 0,.int .u8 0,.int .u8 0,.int .u8 0,.int .u8 0,.int .u8 0,.int .u8 0,.int .u8 0,.int .u8 0,.int .u8 0,.int .u8 0,.int .u8 0,.int .u8 0,.int .u8 0,.int .u8 0,.int .u8 0,.int .u8 0,.int .u8 0,.int .u8 0,.int .u8 0,.int .u8 0,.int .u8 0,.int .u8 0,.int .u8 0,.int .u8 0,.int .u8 0,.int .u8 0,.int .u8 0,.int .u8 0,.int .u8 0,.int .u8 0,.int .u8 0,.int .u8 0,.int .u8 0,.int .u8 0,.int .u8 0,.int .u8 0,.int .u8 0,.int .u8 0,.int .u8 0,.int .u8 0,.int .u8 0,.int .u8 0,.int .u8 0,.int .u8 0,.int .u8 0,.int .u8 0,.int .u8 0,.int .u8 0,.int .u8 0,.int .u8 0,.int .u8 0,.int .u8 0,.int .u8 0,.int .u8 0,.int .u8 0,.int .u8 0,.int .u8 0,.int .u8 0,.int .u8 0,.int .u8 0,.int .u8 0,.int .u8 0,.int .u8 0,.int .u8 0,.int .u8 0,.int .u8 0,.int .u8 0,.int .u8 0,.int .u8 0,.int .u8 0,.int .u8 0,.int .u8 0,.int .u8 0,.int .u8 0,.int .u8 0,.int .u8 0,.int .u8 0,.int .u8 0,.int .u8 0,.int .u8 0,.int .u8 0,.int .u8 0,.int .u8 0,.int .u8 0,.int .u8 0,.int .u8 0,.int .u8 0,.int .u8 0,.int .u8 0,.int .u8 0,.int .u8 0,.int .u8 0,.int .u8 0,.int .u8 0,.int .u8 0,.int .u8 0,.int .u8 0,.int .u8 0,.int .u8 0,.int .u8 0,.int .u8 0,.int .u8 0,.int .u8 0,.int .u8 0,.int .u8 0,.int .u8 0,.int .u8 0,.int .u8 0,.int .u8 0,.int .u8 0,.int .u8 0,.int .u8 0,.int .u8 0,.int .u8 0,.int .u8 0,.int .u8 0,.int .u8 0,.int .u8 0,.int .u8 0,.int .u8 0,.int .u8 0,.int .u8 0,.int .u8 0,.int .u8 0,.int .u8 0,.int .u8 0,.int .u8 0,.int .u8 0,.int .u8 0,.int .u8 0,.int .u8 0,.int .u8 0,.int .u8 0,.int .u8 0,.int .u8 0,.int .u8 0,.int .u8 0,.int .u8 0,.int .u8 0,.int .u8 0,.int .u8 0,.int .u8 0,.int .u8 0,.int .u8 0,.int .u8 0,.int .u8 0,.int .u8 0,.int .u8 0,.int .u8 0,.int .u8 0,.int .u8 0,.int .u8 0,.int .u8 0,.int .u8 0,.int .u8 0,.int .u8 0,.int .u8 0,.int .u8 0,.int .u8 0,.int .u8 0,.int .u8 0,.int .u8 0,.int .u8 0,.int .u8 0,.int .u8 0,.int .u8 0,.int .u8 0,.int .u8 0,.int .u8 0,.int .u8 0,.int .u8 0,.int .u8 0,.int .u8 0,.int .u8 0,.int .u8 0,.int .u8 0,.int .u8 0,.int .u8 0,.int .u8 0,.int .u8 0,.int .u8 0,.int .u8 0,.int .u8 0,.int .u8 0,.int .u8 0,.int .u8 0,.int .u8 0,.int .u8 0,.int .u8 0,.int .u8 0,.int .u8 0,.int .u8 0,.int .u8 0,.int .u8 0,.int .u8 0,.int .u8 0,.int .u8 0,.int .u8 0,.int .u8 0,.int .u8 0,.int .u8 0]
noncomputable def a8Y:List Value:=[.int .u64 1,.int .u64 10,.int .u64 100,.int .u64 1000,.int .u64 10000,.int .u64 100000,.int .u64 1000000,.int .u64 10000000,.int .u64 100000000,.int .u64 1000000000,.int .u64 10000000000,.int .u64 100000000000,.int .u64 1000000000000,.int .u64 10000000000000,.int .u64 100000000000000,.int .u64 1000000000000000,.int .u64 10000000000000000,.int .u64 100000000000000000,.int .u64 1000000000000000000,.int .u64 10000000000000000000]
noncomputable def b1V:List Value:=[.int .u8 0,.int .u8 1,.int .u8 56,.int .u8 2,.int .u8 57,.int .u8 49,.int .u8 28,.int .u8 3,.int .u8 61,.int .u8 58,.int .u8 42,.int .u8 50,.int .u8 38,.int .u8 29,.int .u8 17,.int .u8 4,.int .u8 62,.int .u8 47,.int .u8 59,.int .u8 36,.int .u8 45,.int .u8 43,.int .u8 51,.int .u8 22,.int .u8 53,.int .u8 39,.int .u8 33,.int .u8 30,.int .u8 24,.int .u8 18,.int .u8 12,.int .u8 5,.int .u8 63,.int .u8 55,.int .u8 48,.int .u8 27,.int .u8 60,.int .u8 41,.int .u8 37,.int .u8 16,.int .u8 46,.int .u8 35,.int .u8 44,.int .u8 21,.int .u8 52,.int .u8 32,.int .u8 23,.int .u8 11,.int .u8 54,.int .u8 26,.int .u8 40,.int .u8 15,.int .u8 34,.int .u8 20,.int .u8 31,.int .u8 10,.int .u8 25,.int .u8 14,.int .u8 19,.int .u8 9,.int .u8 13,.int .u8 8,.int .u8 7,.int .u8 6]
noncomputable def b1L:List Value:=[.int .u8 0,.int .u8 1,.int .u8 28,.int .u8 2,.int .u8 29,.int .u8 14,.int .u8 24,.int .u8 3,.int .u8 30,.int .u8 22,.int .u8 20,.int .u8 15,.int .u8 25,.int .u8 17,.int .u8 4,.int .u8 8,.int .u8 31,.int .u8 27,.int .u8 13,.int .u8 23,.int .u8 21,.int .u8 19,.int .u8 16,.int .u8 7,.int .u8 26,.int .u8 12,.int .u8 18,.int .u8 6,.int .u8 11,.int .u8 5,.int .u8 10,.int .u8 9]
noncomputable def V6 (m:Int):a3J:=[a5l, [],a8Y, [.int .i64 m],b1V,b1L, []]
noncomputable def a3X:List (Nat×List UInt8):=[(0, [117, 110, 114, 101, 97, 99, 104, 97, 98, 108, 101]),(1, [110, 111, 112]),(2, [98, 108, 111, 99, 107]),(3, [108, 111, 111, 112]),(4, [105, 102]),(5, [101, 108, 115, 101]),(11, [101, 110, 100]),(12, [98, 114]),(13, [98, 114, 95, 105, 102]),(14, [98, 114, 95, 116, 97, 98, 108, 101]),(15, [114, 101, 116, 117, 114, 110]),(16, [99, 97, 108, 108]),(17, [99, 97, 108, 108, 95, 105, 110, 100, 105, 114, 101, 99, 116]),(26, [100, 114, 111, 112]),(27, [115, 101, 108, 101, 99, 116]),(28, [115, 101, 108, 101, 99, 116]),(32, [108, 111, 99, 97, 108, 46, 103, 101, 116]),(33, [108, 111, 99, 97, 108, 46, 115, 101, 116]),(34, [108, 111, 99, 97, 108, 46, 116, 101, 101]),(35, [103, 108, 111, 98, 97, 108, 46, 103, 101, 116]),(36, [103, 108, 111, 98, 97, 108, 46, 115, 101, 116]),(37, [116, 97, 98, 108, 101, 46, 103, 101, 116]),(38, [116, 97, 98, 108, 101, 46, 115, 101, 116]),(40, [105, 51, 50, 46, 108, 111, 97, 100]),(41, [105, 54, 52, 46, 108, 111, 97, 100]),(44, [105, 51, 50, 46, 108, 111, 97, 100, 56, 95, 115]),(45, [105, 51, 50, 46, 108, 111, 97, 100, 56, 95, 117]),(46, [105, 51, 50, 46, 108, 111, 97, 100, 49, 54, 95, 115]),(47, [105, 51, 50, 46, 108, 111, 97, 100, 49, 54, 95, 117]),(48, [105, 54, 52, 46, 108, 111, 97, 100, 56, 95, 115]),(49, [105, 54, 52, 46, 108, 111, 97, 100, 56, 95, 117]),(50, [105, 54, 52, 46, 108, 111, 97, 100, 49, 54, 95, 115]),(51, [105, 54, 52, 46, 108, 111, 97, 100, 49, 54, 95, 117]),(52, [105, 54, 52, 46, 108, 111, 97, 100, 51, 50, 95, 115]),(53, [105, 54, 52, 46, 108, 111, 97, 100, 51, 50, 95, 117]),(54, [105, 51, 50, 46, 115, 116, 111, 114, 101]),(55, [105, 54, 52, 46, 115, 116, 111, 114, 101]),(58, [105, 51, 50, 46, 115, 116, 111, 114, 101, 56]),(59, [105, 51, 50, 46, 115, 116, 111, 114, 101, 49, 54]),(60, [105, 54, 52, 46, 115, 116, 111, 114, 101, 56]),(61, [105, 54, 52, 46, 115, 116, 111, 114, 101, 49, 54]),(62, [105, 54, 52, 46, 115, 116, 111, 114, 101, 51, 50]),(63, [109, 101, 109, 111, 114, 121, 46, 115, 105, 122, 101]),(64, [109, 101, 109, 111, 114, 121, 46, 103, 114, 111, 119]),(65, [105, 51, 50, 46, 99, 111, 110, 115, 116]),(66, [105, 54, 52, 46, 99, 111, 110, 115, 116]),(69, [105, 51, 50, 46, 101, 113, 122]),(70, [105, 51, 50, 46, 101, 113]),(71, [105, 51, 50, 46, 110, 101]),(72, [105, 51, 50, 46, 108, 116, 95, 115]),(73, [105, 51, 50, 46, 108, 116, 95, 117]),(74, [105, 51, 50, 46, 103, 116, 95, 115]),(75, [105, 51, 50, 46, 103, 116, 95, 117]),(76, [105, 51, 50, 46, 108, 101, 95, 115]),(77, [105, 51, 50, 46, 108, 101, 95, 117]),(78, [105, 51, 50, 46, 103, 101, 95, 115]),(79, [105, 51, 50, 46, 103, 101, 95, 117]),(80, [105, 54, 52, 46, 101, 113, 122]),(81, [105, 54, 52, 46, 101, 113]),(82, [105, 54, 52, 46, 110, 101]),(83, [105, 54, 52, 46, 108, 116, 95, 115]),(84, [105, 54, 52, 46, 108, 116, 95, 117]),(85, [105, 54, 52, 46, 103, 116, 95, 115]),(86, [105, 54, 52, 46, 103, 116, 95, 117]),(87, [105, 54, 52, 46, 108, 101, 95, 115]),(88, [105, 54, 52, 46, 108, 101, 95, 117]),(89, [105, 54, 52, 46, 103, 101, 95, 115]),(90, [105, 54, 52, 46, 103, 101, 95, 117]),(103, [105, 51, 50, 46, 99, 108, 122]),(104, [105, 51, 50, 46, 99, 116, 122]),(105, [105, 51, 50, 46, 112, 111, 112, 99, 110, 116]),(106, [105, 51, 50, 46, 97, 100, 100]),(107, [105, 51, 50, 46, 115, 117, 98]),(108, [105, 51, 50, 46, 109, 117, 108]),(109, [105, 51, 50, 46, 100, 105, 118, 95, 115]),(110, [105, 51, 50, 46, 100, 105, 118, 95, 117]),(111, [105, 51, 50, 46, 114, 101, 109, 95, 115]),(112, [105, 51, 50, 46, 114, 101, 109, 95, 117]),(113, [105, 51, 50, 46, 97, 110, 100]),(114, [105, 51, 50, 46, 111, 114]),(115, [105, 51, 50, 46, 120, 111, 114]),(116, [105, 51, 50, 46, 115, 104, 108]),(117, [105, 51, 50, 46, 115, 104, 114, 95, 115]),(118, [105, 51, 50, 46, 115, 104, 114, 95, 117]),(119, [105, 51, 50, 46, 114, 111, 116, 108]),(120, [105, 51, 50, 46, 114, 111, 116, 114]),(121, [105, 54, 52, 46, 99, 108, 122]),(122, [105, 54, 52, 46, 99, 116, 122]),(123, [105, 54, 52, 46, 112, 111, 112, 99, 110, 116]),(124, [105, 54, 52, 46, 97, 100, 100]),(125, [105, 54, 52, 46, 115, 117, 98]),(126, [105, 54, 52, 46, 109, 117, 108]),(127, [105, 54, 52, 46, 100, 105, 118, 95, 115]),(128, [105, 54, 52, 46, 100, 105, 118, 95, 117]),(129, [105, 54, 52, 46, 114, 101, 109, 95, 115]),(130, [105, 54, 52, 46, 114, 101, 109, 95, 117]),(131, [105, 54, 52, 46, 97, 110, 100]),(132, [105, 54, 52, 46, 111, 114]),(133, [105, 54, 52, 46, 120, 111, 114]),(134, [105, 54, 52, 46, 115, 104, 108]),(135, [105, 54, 52, 46, 115, 104, 114, 95, 115]),(136, [105, 54, 52, 46, 115, 104, 114, 95, 117]),(137, [105, 54, 52, 46, 114, 111, 116, 108]),(138, [105, 54, 52, 46, 114, 111, 116, 114]),(167, [105, 51, 50, 46, 119, 114, 97, 112, 95, 105, 54, 52]),(172, [105, 54, 52, 46, 101, 120, 116, 101, 110, 100, 95, 105, 51, 50, 95, 115]),(173, [105, 54, 52, 46, 101, 120, 116, 101, 110, 100, 95, 105, 51, 50, 95, 117]),(192, [105, 51, 50, 46, 101, 120, 116, 101, 110, 100, 56, 95, 115]),(193, [105, 51, 50, 46, 101, 120, 116, 101, 110, 100, 49, 54, 95, 115]),(194, [105, 54, 52, 46, 101, 120, 116, 101, 110, 100, 56, 95, 115]),(195, [105, 54, 52, 46, 101, 120, 116, 101, 110, 100, 49, 54, 95, 115]),(196, [105, 54, 52, 46, 101, 120, 116, 101, 110, 100, 51, 50, 95, 115]),(208, [114, 101, 102, 46, 110, 117, 108, 108]),(209, [114, 101, 102, 46, 105, 115, 95, 110, 117, 108, 108]),(210, [114, 101, 102, 46, 102, 117, 110, 99]),(64520, [109, 101, 109, 111, 114, 121, 46, 105, 110, 105, 116]),(64521, [100, 97, 116, 97, 46, 100, 114, 111, 112]),(64522, [109, 101, 109, 111, 114, 121, 46, 99, 111, 112, 121]),(64523, [109, 101, 109, 111, 114, 121, 46, 102, 105, 108, 108]),(64524, [116, 97, 98, 108, 101, 46, 105, 110, 105, 116]),(64525, [101, 108, 101, 109, 46, 100, 114, 111, 112]),(64526, [116, 97, 98, 108, 101, 46, 99, 111, 112, 121]),(64527, [116, 97, 98, 108, 101, 46, 103, 114, 111, 119]),(64528, [116, 97, 98, 108, 101, 46, 115, 105, 122, 101]),(64529, [116, 97, 98, 108, 101, 46, 102, 105, 108, 108])]
theorem a8U:R4.ng≤(V6 mL).length:=Nat.le_refl 7
theorem a5U:∀ l∈(V6 mL), ∀ v∈l,plain v=true:=by
 have h:((V6 mL).all fun l=>l.all plain)=true:=by kernel_rfl
 intro l hl v hv
 exact List.all_eq_true.1 (List.all_eq_true.1 h l hl) v hv
theorem c4Y:∀ c,c<256→a5l[c]?=some (.int .u8 (if Lib.isSp (UInt8.ofNat c) then 1 else 0)):=by
 have h:(List.range 256).map (fun c=>a5l[c]?)=(List.range 256).map (fun c=>some (Value.int .u8 (if Lib.isSp (UInt8.ofNat c) then 1 else 0))):=by kernel_rfl
 intro c hc
 exact List.map_inj_left.1 h c (List.mem_range.2 hc)
theorem c1N:Y4 Tryz.prog R4 (V6 mL) 122 (b3C b0f):=b9i fun bs xs h=>by
 obtain ⟨s,rfl,h1,h2,rfl⟩:=b9x h
 refine ⟨rfl, ?_,fun w hL=>⟨a1J Tryz.func122 (by kernel_rfl) rfl, ?_⟩⟩
 · rw [a0y]
   intro x hx
   obtain ⟨l,_,rfl⟩:=List.mem_map.1 hx
   rfl
 · refine (Go.Proofs.Any.strings_Fields_core Tryz.lFields (by kernel_rfl) s w h1 h2 fun c hc=>?_).mono fun e w' hq=>?_
   · exact hL.cell 0 a5l rfl c _ (c4Y c hc)
   · obtain ⟨rfl,rfl⟩:=hq
     exact ⟨by simp,_,rfl⟩
noncomputable def c6g:Nat→Option (List Value→M Value):=a0m (fun _=>none) 122 (b3C b0f)
theorem c0v:a4C Tryz.prog R4 (V6 mL) c6g:=a8L c0e c1N
noncomputable def c2g (x:Nat×List UInt8):List Value:=[.int .i64 (.ofNat x.1),.string ⟨⟨x.2⟩⟩]
noncomputable def c3u:List (List Value):=a1R c2g a3X
noncomputable def c6W (r:Option ((Ex×(List Value×Log))×S)):Option Log:=match r with
 | some x=>match x.1.1 with
   | .exit _=>none
   | _=>some x.1.2.2
 | none=>none
noncomputable def b5r:Code:=match Tryz.f120.body with
 | some c=>c
 | none=>.skip
noncomputable def c6k (mL:Int) (l:Nat):Option Log:=c6W (a5d Tryz.prog R4 (a7j Tryz.prog R4 c6g 400) 400 b5r (Value.func (.yield l) #[] #[]::a3Y 33) [] (Go.V.a4P (V6 mL)))
theorem c4f (mL:Int) (l:Nat):c6k mL l=some (a1R (fun x=>(l,x)) c3u):=by kernel_rfl
end Go.Proofs.YtmomonnlmbljoaaGreatDoor
end
section
namespace Go.Proofs.YtmomonnlmbljoaaGreatDoor
open Go.V Go.RowKit Go.Shelf Go.Proofs
attribute [local go_sem] Oper.semAt_some
set_option maxRecDepth 100000
variable {mL:Int}
theorem c4H {r:Option ((Ex×(List Value×Log))×S)} {L:Log} (h:c6W r=some L):∃ ex fr s,r=some ((ex,(fr,L)),s)∧∀ id,ex≠.exit id:=by
 cases r with
 | none=>cases h
 | some x=>
   obtain ⟨⟨ex,fr,log⟩,s⟩:=x
   cases ex with
   | exit id=>cases h
   | normal=>cases h; exact ⟨.normal,fr,s,rfl,fun _ q=>by cases q⟩
   | ret=>cases h; exact ⟨.ret,fr,s,rfl,fun _ q=>by cases q⟩
theorem c3E:c3u=a3X.map c2g:=a3I _ _
theorem b2F {w:World} (hL:LaidV (V6 mL) w) {B m:Nat} (hB:B≤w.heap.size) :
 SeqStopsK Fence.wide m Tryz.prog 120 #[] (fun x:Nat×List UInt8=>(c2g x).toArray) (KeepsR (RB (V6 mL) B)) (fun xs=>xs=a3X) (fun pre=>pre <+: a3X) a3X.length w:=by
 refine b5I a2m a0w a8U a5U c0v (n:=400) (c:=b5r) Tryz.func120 rfl rfl (fun l=>?_) hL hB hL.size
 obtain ⟨ex,fr',s',hr,hex⟩:=c4H (c4f mL l)
 have e33:a3Y 33=List.replicate (Tryz.f120.ntmps - 1) undef:=b1G 33
 rw [e33,a3I,c3E,List.map_map] at hr
 exact ⟨ex,fr',s',hr,hex⟩
theorem b3l (n:Nat) (w:World):CallsIn Fence.wide n Tryz.prog 89 #[] w fun e W=>e=.returned (.func (.func 120) #[] #[])∧W=w:=by
 refine callsIn_of_wp Tryz.func89 rfl trivial ?_ rfl
 simp only [Tryz.ntmps89,List.size_toArray,List.length_nil,Nat.reduceSub,Array.replicate_succ,Array.replicate_zero,List.push_toArray,List.append_toArray,List.nil_append]
 gi_wp2
 exact ⟨rfl,_,results_tmp rfl _ _ _,rfl,rfl⟩
end Go.Proofs.YtmomonnlmbljoaaGreatDoor
end
