import Derived.Shelf.LaysM
import Derived.Shelf.Strings.Fields
import Derived.Shelf.Strings.OnBuilder
import Derived.Shelf.Strings.Repeat
import Derived.Shelf.Strings.Search3
import Derived.Shelf.Spec.BitsCarry
import Derived.Shelf.Strconv.Itoa4
import Derived.Ground.NamesProg
import Derived.Test.YtmomonnlmbljoaaGreatDoorProg
import Derived.RangeFuncWrites
import Derived.RangeFuncLeaves
import Derived.Shelf.Abstract
import Derived.WalkKit
import Derived.OwnWalkIn
import Derived.TacticsInMore
import Derived.Test.YtmomonnlmbljoaaGreatDoorRak
import Derived.Test.YtmomonnlmbljoaaGreatDoorRap
section
namespace Go.Proofs
open Go.Shelf
def Tryz.lFields_ren:Go.Shelf.Ren:=⟨fun | 157=>122 | 229=>165 | 199=>166 | 261=>200 | 311=>212 | 312=>213 | n=>n,fun | 9=>9 | 31=>38 | 3=>3 | 5=>5 | 4=>4 | 119=>219 | 0=>0 | 40=>221 | 152=>243 | 21=>21 | 154=>245 | 51=>194 | 141=>247 | 196=>259 | 193=>256 | 198=>262 | 49=>260 | 194=>257 | 201=>265 | 226=>269 | 46=>145 | 227=>270 | n=>n,fun | 0=>0 | 6=>1 | n=>n⟩
theorem Tryz.lFields:Go.Proofs.Lays.n157 Tryz.prog Tryz.lFields_ren:={
 mixed:=by kernel_rfl
 f157:=Tryz.func122.trans (congrArg some (by kernel_rfl))
 f199:=Tryz.func166.trans (congrArg some (by kernel_rfl))
 f229:=Tryz.func165.trans (congrArg some (by kernel_rfl))
 f261:=Tryz.func200.trans (congrArg some (by kernel_rfl))
 f311:=Tryz.func212.trans (congrArg some (by kernel_rfl))
 f312:=Tryz.func213.trans (congrArg some (by kernel_rfl))
 t0:=Tryz.underlying0
 a0:=Tryz.isAgg0
 z0:=Tryz.sizeOf0
 v0:=Tryz.zeroValue0
 t3:=Tryz.underlying3
 a3:=Tryz.isAgg3
 z3:=Tryz.sizeOf3
 v3:=Tryz.zeroValue3
 t4:=Tryz.underlying4
 a4:=Tryz.isAgg4
 z4:=Tryz.sizeOf4
 v4:=Tryz.zeroValue4
 t5:=Tryz.underlying5
 a5:=Tryz.isAgg5
 z5:=Tryz.sizeOf5
 v5:=Tryz.zeroValue5
 t9:=Tryz.underlying9
 a9:=Tryz.isAgg9
 z9:=Tryz.sizeOf9
 v9:=Tryz.zeroValue9
 t21:=Tryz.underlying21
 a21:=Tryz.isAgg21
 z21:=Tryz.sizeOf21
 v21:=Tryz.zeroValue21
 t31:=Tryz.underlying38
 a31:=Tryz.isAgg38
 z31:=Tryz.sizeOf38
 v31:=Tryz.zeroValue38
 t40:=Tryz.underlying221
 a40:=Tryz.isAgg221
 z40:=Tryz.sizeOf221
 v40:=Tryz.zeroValue221
 t46:=Tryz.underlying145
 a46:=Tryz.isAgg145
 z46:=Tryz.sizeOf145
 v46:=Tryz.zeroValue145
 t49:=Tryz.underlying260
 a49:=Tryz.isAgg260
 z49:=Tryz.sizeOf260
 v49:=Tryz.zeroValue260
 t51:=Tryz.underlying194
 a51:=Tryz.isAgg194
 z51:=Tryz.sizeOf194
 v51:=Tryz.zeroValue194
 t119:=Tryz.underlying219
 a119:=Tryz.isAgg219
 z119:=Tryz.sizeOf219
 t141:=Tryz.underlying247
 a141:=Tryz.isAgg247
 z141:=Tryz.sizeOf247
 v141:=Tryz.zeroValue247
 t152:=Tryz.underlying243
 a152:=Tryz.isAgg243
 z152:=Tryz.sizeOf243
 v152:=Tryz.zeroValue243
 t154:=Tryz.underlying245
 a154:=Tryz.isAgg245
 z154:=Tryz.sizeOf245
 v154:=Tryz.zeroValue245
 t193:=Tryz.underlying256
 a193:=Tryz.isAgg256
 z193:=Tryz.sizeOf256
 v193:=Tryz.zeroValue256
 t194:=Tryz.underlying257
 a194:=Tryz.isAgg257
 z194:=Tryz.sizeOf257
 v194:=Tryz.zeroValue257
 t196:=Tryz.underlying259
 a196:=Tryz.isAgg259
 z196:=Tryz.sizeOf259
 v196:=Tryz.zeroValue259
 t198:=Tryz.underlying262
 a198:=Tryz.isAgg262
 z198:=Tryz.sizeOf262
 v198:=Tryz.zeroValue262
 t201:=Tryz.underlying265
 a201:=Tryz.isAgg265
 z201:=Tryz.sizeOf265
 v201:=Tryz.zeroValue265
 t226:=Tryz.underlying269
 a226:=Tryz.isAgg269
 z226:=Tryz.sizeOf269
 v226:=Tryz.zeroValue269
 t227:=Tryz.underlying270
 a227:=Tryz.isAgg270
 z227:=Tryz.sizeOf270
 v227:=Tryz.zeroValue270
 g0:=by kernel_rfl
 g6:=by kernel_rfl }
def Tryz.lJoin_ren:Go.Shelf.Ren:=⟨fun | 156=>96 | 165=>100 | 166=>101 | 169=>103 | 240=>131 | 241=>132 | 276=>179 | 277=>180 | n=>n,fun | 31=>38 | 9=>9 | 3=>3 | 4=>4 | 0=>0 | 20=>20 | 72=>151 | 76=>154 | 70=>148 | 37=>149 | 75=>153 | 127=>199 | 164=>230 | 5=>5 | 80=>157 | n=>n,fun | n=>n⟩
theorem Tryz.lJoin:Go.Proofs.Lays.n156 Tryz.prog Tryz.lJoin_ren:={
 mixed:=by kernel_rfl
 f156:=Tryz.func96.trans (congrArg some (by kernel_rfl))
 f165:=Tryz.func100.trans (congrArg some (by kernel_rfl))
 f166:=Tryz.func101.trans (congrArg some (by kernel_rfl))
 f169:=Tryz.func103.trans (congrArg some (by kernel_rfl))
 f240:=Tryz.func131.trans (congrArg some (by kernel_rfl))
 f241:=Tryz.func132.trans (congrArg some (by kernel_rfl))
 f276:=Tryz.func179.trans (congrArg some (by kernel_rfl))
 f277:=Tryz.func180.trans (congrArg some (by kernel_rfl))
 t0:=Tryz.underlying0
 a0:=Tryz.isAgg0
 z0:=Tryz.sizeOf0
 v0:=Tryz.zeroValue0
 t3:=Tryz.underlying3
 a3:=Tryz.isAgg3
 z3:=Tryz.sizeOf3
 v3:=Tryz.zeroValue3
 t4:=Tryz.underlying4
 a4:=Tryz.isAgg4
 z4:=Tryz.sizeOf4
 v4:=Tryz.zeroValue4
 t9:=Tryz.underlying9
 a9:=Tryz.isAgg9
 z9:=Tryz.sizeOf9
 v9:=Tryz.zeroValue9
 t20:=Tryz.underlying20
 a20:=Tryz.isAgg20
 z20:=Tryz.sizeOf20
 v20:=Tryz.zeroValue20
 t31:=Tryz.underlying38
 a31:=Tryz.isAgg38
 z31:=Tryz.sizeOf38
 v31:=Tryz.zeroValue38
 t37:=Tryz.underlying149
 a37:=Tryz.isAgg149
 z37:=Tryz.sizeOf149
 v37:=Tryz.zeroValue149
 t70:=Tryz.underlying148
 a70:=Tryz.isAgg148
 z70:=Tryz.sizeOf148
 v70:=Tryz.zeroValue148
 t72:=Tryz.underlying151
 a72:=Tryz.isAgg151
 z72:=Tryz.sizeOf151
 v72:=Tryz.zeroValue151
 t75:=Tryz.underlying153
 a75:=Tryz.isAgg153
 z75:=Tryz.sizeOf153
 v75:=Tryz.zeroValue153
 t76:=Tryz.underlying154
 a76:=Tryz.isAgg154
 z76:=Tryz.sizeOf154
 v76:=Tryz.zeroValue154
 t127:=Tryz.underlying199
 a127:=Tryz.isAgg199
 z127:=Tryz.sizeOf199
 v127:=Tryz.zeroValue199
 t164:=Tryz.underlying230
 a164:=Tryz.isAgg230
 z164:=Tryz.sizeOf230
 v164:=Tryz.zeroValue230 }
def Tryz.lRepeat_ren:Go.Shelf.Ren:=⟨fun | 105=>56 | 212=>99 | 99=>80 | 165=>100 | 166=>101 | 170=>102 | 169=>103 | 263=>129 | 264=>130 | 206=>117 | 240=>131 | 241=>132 | 276=>179 | 277=>180 | n=>n,fun | 9=>9 | 3=>3 | 4=>4 | 20=>20 | 0=>0 | 46=>145 | 109=>146 | 5=>5 | 72=>151 | 76=>154 | 51=>194 | 146=>195 | 53=>23 | 148=>197 | 70=>148 | 37=>149 | 75=>153 | 127=>199 | 164=>230 | 80=>157 | n=>n,fun | n=>n⟩
theorem Tryz.lRepeat:Go.Proofs.Lays.n105 Tryz.prog Tryz.lRepeat_ren:={
 mixed:=by kernel_rfl
 f99:=Tryz.func80.trans (congrArg some (by kernel_rfl))
 f105:=Tryz.func56.trans (congrArg some (by kernel_rfl))
 f165:=Tryz.func100.trans (congrArg some (by kernel_rfl))
 f166:=Tryz.func101.trans (congrArg some (by kernel_rfl))
 f169:=Tryz.func103.trans (congrArg some (by kernel_rfl))
 f170:=Tryz.func102.trans (congrArg some (by kernel_rfl))
 f206:=Tryz.func117.trans (congrArg some (by kernel_rfl))
 f212:=Tryz.func99.trans (congrArg some (by kernel_rfl))
 f240:=Tryz.func131.trans (congrArg some (by kernel_rfl))
 f241:=Tryz.func132.trans (congrArg some (by kernel_rfl))
 f263:=Tryz.func129.trans (congrArg some (by kernel_rfl))
 f264:=Tryz.func130.trans (congrArg some (by kernel_rfl))
 f276:=Tryz.func179.trans (congrArg some (by kernel_rfl))
 f277:=Tryz.func180.trans (congrArg some (by kernel_rfl))
 t0:=Tryz.underlying0
 a0:=Tryz.isAgg0
 z0:=Tryz.sizeOf0
 v0:=Tryz.zeroValue0
 t3:=Tryz.underlying3
 a3:=Tryz.isAgg3
 z3:=Tryz.sizeOf3
 v3:=Tryz.zeroValue3
 t4:=Tryz.underlying4
 a4:=Tryz.isAgg4
 z4:=Tryz.sizeOf4
 v4:=Tryz.zeroValue4
 t5:=Tryz.underlying5
 a5:=Tryz.isAgg5
 z5:=Tryz.sizeOf5
 v5:=Tryz.zeroValue5
 t9:=Tryz.underlying9
 a9:=Tryz.isAgg9
 z9:=Tryz.sizeOf9
 v9:=Tryz.zeroValue9
 t20:=Tryz.underlying20
 a20:=Tryz.isAgg20
 z20:=Tryz.sizeOf20
 v20:=Tryz.zeroValue20
 t37:=Tryz.underlying149
 a37:=Tryz.isAgg149
 z37:=Tryz.sizeOf149
 v37:=Tryz.zeroValue149
 t46:=Tryz.underlying145
 a46:=Tryz.isAgg145
 z46:=Tryz.sizeOf145
 v46:=Tryz.zeroValue145
 t51:=Tryz.underlying194
 a51:=Tryz.isAgg194
 z51:=Tryz.sizeOf194
 v51:=Tryz.zeroValue194
 t53:=Tryz.underlying23
 a53:=Tryz.isAgg23
 z53:=Tryz.sizeOf23
 v53:=Tryz.zeroValue23
 t70:=Tryz.underlying148
 a70:=Tryz.isAgg148
 z70:=Tryz.sizeOf148
 v70:=Tryz.zeroValue148
 t72:=Tryz.underlying151
 a72:=Tryz.isAgg151
 z72:=Tryz.sizeOf151
 v72:=Tryz.zeroValue151
 t75:=Tryz.underlying153
 a75:=Tryz.isAgg153
 z75:=Tryz.sizeOf153
 v75:=Tryz.zeroValue153
 t76:=Tryz.underlying154
 a76:=Tryz.isAgg154
 z76:=Tryz.sizeOf154
 v76:=Tryz.zeroValue154
 t109:=Tryz.underlying146
 a109:=Tryz.isAgg146
 z109:=Tryz.sizeOf146
 v109:=Tryz.zeroValue146
 t127:=Tryz.underlying199
 a127:=Tryz.isAgg199
 z127:=Tryz.sizeOf199
 v127:=Tryz.zeroValue199
 t146:=Tryz.underlying195
 a146:=Tryz.isAgg195
 z146:=Tryz.sizeOf195
 v146:=Tryz.zeroValue195
 t148:=Tryz.underlying197
 a148:=Tryz.isAgg197
 z148:=Tryz.sizeOf197
 v148:=Tryz.zeroValue197
 t164:=Tryz.underlying230
 a164:=Tryz.isAgg230
 z164:=Tryz.sizeOf230
 v164:=Tryz.zeroValue230 }
def Tryz.lContains_ren:Go.Shelf.Ren:=⟨fun | 144=>125 | 143=>171 | 219=>206 | 217=>215 | 225=>216 | 224=>217 | 267=>218 | 266=>219 | 314=>220 | n=>n,fun | 9=>9 | 4=>4 | 3=>3 | 5=>5 | 46=>145 | 146=>195 | 51=>194 | n=>n,fun | 1=>3 | n=>n⟩
theorem Tryz.lContains:Go.Proofs.Lays.n144 Tryz.prog Tryz.lContains_ren:={
 mixed:=by kernel_rfl
 f143:=Tryz.func171.trans (congrArg some (by kernel_rfl))
 f144:=Tryz.func125.trans (congrArg some (by kernel_rfl))
 f217:=Tryz.func215.trans (congrArg some (by kernel_rfl))
 f219:=Tryz.func206.trans (congrArg some (by kernel_rfl))
 f224:=Tryz.func217.trans (congrArg some (by kernel_rfl))
 f225:=Tryz.func216.trans (congrArg some (by kernel_rfl))
 f266:=Tryz.func219.trans (congrArg some (by kernel_rfl))
 f267:=Tryz.func218.trans (congrArg some (by kernel_rfl))
 f314:=Tryz.func220.trans (congrArg some (by kernel_rfl))
 t3:=Tryz.underlying3
 a3:=Tryz.isAgg3
 z3:=Tryz.sizeOf3
 v3:=Tryz.zeroValue3
 t4:=Tryz.underlying4
 a4:=Tryz.isAgg4
 z4:=Tryz.sizeOf4
 v4:=Tryz.zeroValue4
 t5:=Tryz.underlying5
 a5:=Tryz.isAgg5
 z5:=Tryz.sizeOf5
 v5:=Tryz.zeroValue5
 t9:=Tryz.underlying9
 a9:=Tryz.isAgg9
 z9:=Tryz.sizeOf9
 v9:=Tryz.zeroValue9
 t46:=Tryz.underlying145
 a46:=Tryz.isAgg145
 z46:=Tryz.sizeOf145
 v46:=Tryz.zeroValue145
 t51:=Tryz.underlying194
 a51:=Tryz.isAgg194
 z51:=Tryz.sizeOf194
 v51:=Tryz.zeroValue194
 t146:=Tryz.underlying195
 a146:=Tryz.isAgg195
 z146:=Tryz.sizeOf195
 v146:=Tryz.zeroValue195
 g1:=by kernel_rfl }
end Go.Proofs
end
section

end
section
namespace Go.Proofs.YtmomonnlmbljoaaGreatDoor
open Go.V
set_option maxRecDepth 1000000
variable {mL:Int}
noncomputable def R9:List Value:=[.int .u8 0,.int .u8 0,.int .u8 0,.int .u8 0,.int .u8 0,.int .u8 0,.int .u8 0,.int .u8 0,.int .u8 0,.int .u8 1,.int .u8 1,.int .u8 1,.int .u8 1,.int .u8 1,.int .u8 0,.int .u8 0,.int .u8 0,.int .u8 0,.int .u8 0,.int .u8 0,.int .u8 0,.int .u8 0,.int .u8 0,.int .u8 0,.int .u8 0,.int .u8 0,.int .u8 0,.int .u8 0,.int .u8 0,.int .u8 0,.int .u8 0,.int .u8 0,.int .u8 1,.int .u8 0,.int .u8 0,.int .u8 0,.int .u8 0,.int .u8 0,.int .u8 0,.int .u8 0,.int .u8 0,.int .u8 0,.int .u8 0,.int .u8 0,.int .u8 0,.int .u8 0,.int .u8 0,.int .u8 0,.int .u8 0,.int .u8 0,.int .u8 0,.int .u8 0,.int .u8 0,.int .u8 0,.int .u8 0,.int .u8 0,.int .u8 0,.int .u8 0,.int .u8 0,.int .u8 0,.int .u8 0,.int .u8 0,.int .u8 0,.int .u8 0,.int .u8 0,.int .u8 0,.int .u8 0,.int .u8 0,.int .u8 0,.int .u8 0,.int .u8 0,.int .u8 0,.int .u8 0,.int .u8 0,.int .u8 0,.int .u8 0,.int .u8 0,.int .u8 0,.int .u8 0,.int .u8 0,.int .u8 0,.int .u8 0,.int .u8 0,.int .u8 0,.int .u8 0,.int .u8 0,.int .u8 0,.int .u8 0,.int .u8 0,.int .u8 0,.int .u8 0,.int .u8 0,.int .u8 0,.int .u8 0,.int .u8 0,.int .u8 0,.int .u8 0,.int .u8 0,.int .u8 0,.int .u8 0,.int .u8 0,.int .u8 0,.int .u8 0,.int .u8 0,.int .u8 0,.int .u8 0,.int .u8 0,.int .u8 0,.int .u8 0,.int .u8 0,.int .u8 0,.int .u8 0,.int .u8 0,.int .u8 0,.int .u8 0,.int .u8 0,.int .u8 0,.int .u8 0,.int .u8 0,.int .u8 0,.int .u8 0,.int .u8 0,.int .u8 0,.int .u8 0,.int .u8 0,.int .u8 0,.int .u8 0,.int .u8 0,.int .u8 0,.int .u8 0,.int .u8 0,.int .u8 0,.int .u8 0,.int .u8 0,.int .u8 0,.int .u8 0,.int .u8 0,.int .u8 0,.int .u8 0,.int .u8 0,.int .u8 0,.int .u8 0,.int .u8 0,.int .u8 0,.int .u8 0,.int .u8 0,.int .u8 0,.int .u8 0,.int .u8 0,.int .u8 0,.int .u8 0,.int .u8 0,.int .u8 0,.int .u8 0,.int .u8 0,.int .u8 0,.int .u8 0,.int .u8 0,.int .u8 0,.int .u8 0,.int .u8 0,.int .u8 0,.int .u8 0,.int .u8 0,.int .u8 0,.int .u8 0,.int .u8 0,.int .u8 0,.int .u8 0,.int .u8 0,.int .u8 0,.int .u8 0,.int .u8 0,.int .u8 0,.int .u8 0,.int .u8 0,.int .u8 0,.int .u8 0,.int .u8 0,.int .u8 0,.int .u8 0,.int .u8 0,.int .u8 0,.int .u8 0,.int .u8 0,.int .u8 0,.int .u8 0,.int .u8 0,.int .u8 0,.int .u8 0,.int .u8 0,.int .u8 0,.int .u8 0,.int .u8 0,.int .u8 0,.int .u8 0,.int .u8 0,.int .u8 0,.int .u8 0,.int .u8 0,.int .u8 0,.int .u8 0,.int .u8 0,.int .u8 0,.int .u8 0,.int .u8 0,.int .u8 0,.int .u8 0,.int .u8 0,.int .u8 0,.int .u8 0,.int .u8 0,.int .u8 0,.int .u8 0,.int .u8 0,.int .u8 0,.int .u8 0,.int .u8 0,.int .u8 0,.int .u8 0,.int .u8 0,.int .u8 0,.int .u8 0,.int .u8 0,.int .u8 0,.int .u8 0,.int .u8 0,.int .u8 0,.int .u8 0,.int .u8 0,.int .u8 0,.int .u8 0,.int .u8 0,.int .u8 0,.int .u8 0,.int .u8 0,.int .u8 0,.int .u8 0,.int .u8 0,.int .u8 0,.int .u8 0,.int .u8 0,.int .u8 0,.int .u8 0,.int .u8 0,.int .u8 0,.int .u8 0,.int .u8 0,.int .u8 0,.int .u8 0,.int .u8 0,.int .u8 0,.int .u8 0,.int .u8 0,.int .u8 0,.int .u8 0]
noncomputable def a3O:List Value:=[.int .u64 1,.int .u64 10,.int .u64 100,.int .u64 1000,.int .u64 10000,.int .u64 100000,.int .u64 1000000,.int .u64 10000000,.int .u64 100000000,.int .u64 1000000000,.int .u64 10000000000,.int .u64 100000000000,.int .u64 1000000000000,.int .u64 10000000000000,.int .u64 100000000000000,.int .u64 1000000000000000,.int .u64 10000000000000000,.int .u64 100000000000000000,.int .u64 1000000000000000000,.int .u64 10000000000000000000]
noncomputable def a3C:List Value:=[.int .u8 0,.int .u8 1,.int .u8 56,.int .u8 2,.int .u8 57,.int .u8 49,.int .u8 28,.int .u8 3,.int .u8 61,.int .u8 58,.int .u8 42,.int .u8 50,.int .u8 38,.int .u8 29,.int .u8 17,.int .u8 4,.int .u8 62,.int .u8 47,.int .u8 59,.int .u8 36,.int .u8 45,.int .u8 43,.int .u8 51,.int .u8 22,.int .u8 53,.int .u8 39,.int .u8 33,.int .u8 30,.int .u8 24,.int .u8 18,.int .u8 12,.int .u8 5,.int .u8 63,.int .u8 55,.int .u8 48,.int .u8 27,.int .u8 60,.int .u8 41,.int .u8 37,.int .u8 16,.int .u8 46,.int .u8 35,.int .u8 44,.int .u8 21,.int .u8 52,.int .u8 32,.int .u8 23,.int .u8 11,.int .u8 54,.int .u8 26,.int .u8 40,.int .u8 15,.int .u8 34,.int .u8 20,.int .u8 31,.int .u8 10,.int .u8 25,.int .u8 14,.int .u8 19,.int .u8 9,.int .u8 13,.int .u8 8,.int .u8 7,.int .u8 6]
noncomputable def a3j:List Value:=[.int .u8 0,.int .u8 1,.int .u8 28,.int .u8 2,.int .u8 29,.int .u8 14,.int .u8 24,.int .u8 3,.int .u8 30,.int .u8 22,.int .u8 20,.int .u8 15,.int .u8 25,.int .u8 17,.int .u8 4,.int .u8 8,.int .u8 31,.int .u8 27,.int .u8 13,.int .u8 23,.int .u8 21,.int .u8 19,.int .u8 16,.int .u8 7,.int .u8 26,.int .u8 12,.int .u8 18,.int .u8 6,.int .u8 11,.int .u8 5,.int .u8 10,.int .u8 9]
noncomputable def K4 (m:Int):R3:=[R9, [],a3O, [.int .i64 m],a3C,a3j, []]
noncomputable def O8:List (Nat×List UInt8):=[(0, [117, 110, 114, 101, 97, 99, 104, 97, 98, 108, 101]),(1, [110, 111, 112]),(2, [98, 108, 111, 99, 107]),(3, [108, 111, 111, 112]),(4, [105, 102]),(5, [101, 108, 115, 101]),(11, [101, 110, 100]),(12, [98, 114]),(13, [98, 114, 95, 105, 102]),(14, [98, 114, 95, 116, 97, 98, 108, 101]),(15, [114, 101, 116, 117, 114, 110]),(16, [99, 97, 108, 108]),(17, [99, 97, 108, 108, 95, 105, 110, 100, 105, 114, 101, 99, 116]),(26, [100, 114, 111, 112]),(27, [115, 101, 108, 101, 99, 116]),(28, [115, 101, 108, 101, 99, 116]),(32, [108, 111, 99, 97, 108, 46, 103, 101, 116]),(33, [108, 111, 99, 97, 108, 46, 115, 101, 116]),(34, [108, 111, 99, 97, 108, 46, 116, 101, 101]),(35, [103, 108, 111, 98, 97, 108, 46, 103, 101, 116]),(36, [103, 108, 111, 98, 97, 108, 46, 115, 101, 116]),(37, [116, 97, 98, 108, 101, 46, 103, 101, 116]),(38, [116, 97, 98, 108, 101, 46, 115, 101, 116]),(40, [105, 51, 50, 46, 108, 111, 97, 100]),(41, [105, 54, 52, 46, 108, 111, 97, 100]),(44, [105, 51, 50, 46, 108, 111, 97, 100, 56, 95, 115]),(45, [105, 51, 50, 46, 108, 111, 97, 100, 56, 95, 117]),(46, [105, 51, 50, 46, 108, 111, 97, 100, 49, 54, 95, 115]),(47, [105, 51, 50, 46, 108, 111, 97, 100, 49, 54, 95, 117]),(48, [105, 54, 52, 46, 108, 111, 97, 100, 56, 95, 115]),(49, [105, 54, 52, 46, 108, 111, 97, 100, 56, 95, 117]),(50, [105, 54, 52, 46, 108, 111, 97, 100, 49, 54, 95, 115]),(51, [105, 54, 52, 46, 108, 111, 97, 100, 49, 54, 95, 117]),(52, [105, 54, 52, 46, 108, 111, 97, 100, 51, 50, 95, 115]),(53, [105, 54, 52, 46, 108, 111, 97, 100, 51, 50, 95, 117]),(54, [105, 51, 50, 46, 115, 116, 111, 114, 101]),(55, [105, 54, 52, 46, 115, 116, 111, 114, 101]),(58, [105, 51, 50, 46, 115, 116, 111, 114, 101, 56]),(59, [105, 51, 50, 46, 115, 116, 111, 114, 101, 49, 54]),(60, [105, 54, 52, 46, 115, 116, 111, 114, 101, 56]),(61, [105, 54, 52, 46, 115, 116, 111, 114, 101, 49, 54]),(62, [105, 54, 52, 46, 115, 116, 111, 114, 101, 51, 50]),(63, [109, 101, 109, 111, 114, 121, 46, 115, 105, 122, 101]),(64, [109, 101, 109, 111, 114, 121, 46, 103, 114, 111, 119]),(65, [105, 51, 50, 46, 99, 111, 110, 115, 116]),(66, [105, 54, 52, 46, 99, 111, 110, 115, 116]),(69, [105, 51, 50, 46, 101, 113, 122]),(70, [105, 51, 50, 46, 101, 113]),(71, [105, 51, 50, 46, 110, 101]),(72, [105, 51, 50, 46, 108, 116, 95, 115]),(73, [105, 51, 50, 46, 108, 116, 95, 117]),(74, [105, 51, 50, 46, 103, 116, 95, 115]),(75, [105, 51, 50, 46, 103, 116, 95, 117]),(76, [105, 51, 50, 46, 108, 101, 95, 115]),(77, [105, 51, 50, 46, 108, 101, 95, 117]),(78, [105, 51, 50, 46, 103, 101, 95, 115]),(79, [105, 51, 50, 46, 103, 101, 95, 117]),(80, [105, 54, 52, 46, 101, 113, 122]),(81, [105, 54, 52, 46, 101, 113]),(82, [105, 54, 52, 46, 110, 101]),(83, [105, 54, 52, 46, 108, 116, 95, 115]),(84, [105, 54, 52, 46, 108, 116, 95, 117]),(85, [105, 54, 52, 46, 103, 116, 95, 115]),(86, [105, 54, 52, 46, 103, 116, 95, 117]),(87, [105, 54, 52, 46, 108, 101, 95, 115]),(88, [105, 54, 52, 46, 108, 101, 95, 117]),(89, [105, 54, 52, 46, 103, 101, 95, 115]),(90, [105, 54, 52, 46, 103, 101, 95, 117]),(103, [105, 51, 50, 46, 99, 108, 122]),(104, [105, 51, 50, 46, 99, 116, 122]),(105, [105, 51, 50, 46, 112, 111, 112, 99, 110, 116]),(106, [105, 51, 50, 46, 97, 100, 100]),(107, [105, 51, 50, 46, 115, 117, 98]),(108, [105, 51, 50, 46, 109, 117, 108]),(109, [105, 51, 50, 46, 100, 105, 118, 95, 115]),(110, [105, 51, 50, 46, 100, 105, 118, 95, 117]),(111, [105, 51, 50, 46, 114, 101, 109, 95, 115]),(112, [105, 51, 50, 46, 114, 101, 109, 95, 117]),(113, [105, 51, 50, 46, 97, 110, 100]),(114, [105, 51, 50, 46, 111, 114]),(115, [105, 51, 50, 46, 120, 111, 114]),(116, [105, 51, 50, 46, 115, 104, 108]),(117, [105, 51, 50, 46, 115, 104, 114, 95, 115]),(118, [105, 51, 50, 46, 115, 104, 114, 95, 117]),(119, [105, 51, 50, 46, 114, 111, 116, 108]),(120, [105, 51, 50, 46, 114, 111, 116, 114]),(121, [105, 54, 52, 46, 99, 108, 122]),(122, [105, 54, 52, 46, 99, 116, 122]),(123, [105, 54, 52, 46, 112, 111, 112, 99, 110, 116]),(124, [105, 54, 52, 46, 97, 100, 100]),(125, [105, 54, 52, 46, 115, 117, 98]),(126, [105, 54, 52, 46, 109, 117, 108]),(127, [105, 54, 52, 46, 100, 105, 118, 95, 115]),(128, [105, 54, 52, 46, 100, 105, 118, 95, 117]),(129, [105, 54, 52, 46, 114, 101, 109, 95, 115]),(130, [105, 54, 52, 46, 114, 101, 109, 95, 117]),(131, [105, 54, 52, 46, 97, 110, 100]),(132, [105, 54, 52, 46, 111, 114]),(133, [105, 54, 52, 46, 120, 111, 114]),(134, [105, 54, 52, 46, 115, 104, 108]),(135, [105, 54, 52, 46, 115, 104, 114, 95, 115]),(136, [105, 54, 52, 46, 115, 104, 114, 95, 117]),(137, [105, 54, 52, 46, 114, 111, 116, 108]),(138, [105, 54, 52, 46, 114, 111, 116, 114]),(167, [105, 51, 50, 46, 119, 114, 97, 112, 95, 105, 54, 52]),(172, [105, 54, 52, 46, 101, 120, 116, 101, 110, 100, 95, 105, 51, 50, 95, 115]),(173, [105, 54, 52, 46, 101, 120, 116, 101, 110, 100, 95, 105, 51, 50, 95, 117]),(192, [105, 51, 50, 46, 101, 120, 116, 101, 110, 100, 56, 95, 115]),(193, [105, 51, 50, 46, 101, 120, 116, 101, 110, 100, 49, 54, 95, 115]),(194, [105, 54, 52, 46, 101, 120, 116, 101, 110, 100, 56, 95, 115]),(195, [105, 54, 52, 46, 101, 120, 116, 101, 110, 100, 49, 54, 95, 115]),(196, [105, 54, 52, 46, 101, 120, 116, 101, 110, 100, 51, 50, 95, 115]),(208, [114, 101, 102, 46, 110, 117, 108, 108]),(209, [114, 101, 102, 46, 105, 115, 95, 110, 117, 108, 108]),(210, [114, 101, 102, 46, 102, 117, 110, 99]),(64520, [109, 101, 109, 111, 114, 121, 46, 105, 110, 105, 116]),(64521, [100, 97, 116, 97, 46, 100, 114, 111, 112]),(64522, [109, 101, 109, 111, 114, 121, 46, 99, 111, 112, 121]),(64523, [109, 101, 109, 111, 114, 121, 46, 102, 105, 108, 108]),(64524, [116, 97, 98, 108, 101, 46, 105, 110, 105, 116]),(64525, [101, 108, 101, 109, 46, 100, 114, 111, 112]),(64526, [116, 97, 98, 108, 101, 46, 99, 111, 112, 121]),(64527, [116, 97, 98, 108, 101, 46, 103, 114, 111, 119]),(64528, [116, 97, 98, 108, 101, 46, 115, 105, 122, 101]),(64529, [116, 97, 98, 108, 101, 46, 102, 105, 108, 108])]
theorem a6k:A9.ng≤(K4 mL).length:=Nat.le_refl 7
theorem a2z:∀ l∈(K4 mL), ∀ v∈l,plain v=true:=by
 have h:((K4 mL).all fun l=>l.all plain)=true:=by kernel_rfl
 intro l hl v hv
 exact List.all_eq_true.1 (List.all_eq_true.1 h l hl) v hv
theorem d4g:∀ c,c<256→R9[c]?=some (.int .u8 (if Lib.isSp (UInt8.ofNat c) then 1 else 0)):=by
 have h:(List.range 256).map (fun c=>R9[c]?)=(List.range 256).map (fun c=>some (Value.int .u8 (if Lib.isSp (UInt8.ofNat c) then 1 else 0))):=by kernel_rfl
 intro c hc
 exact List.map_inj_left.1 h c (List.mem_range.2 hc)
theorem c6e:a0s Tryz.prog A9 (K4 mL) 122 (a5q a2q):=b3d fun bs xs h=>by
 obtain ⟨s,rfl,h1,h2,rfl⟩:=b9b h
 refine ⟨rfl, ?_,fun w hL=>⟨N7 Tryz.func122 (by kernel_rfl) rfl, ?_⟩⟩
 · rw [K9]
   intro x hx
   obtain ⟨l,_,rfl⟩:=List.mem_map.1 hx
   rfl
 · refine (Go.Proofs.Any.strings_Fields_core Tryz.lFields (by kernel_rfl) s w h1 h2 fun c hc=>?_).mono fun e w' hq=>?_
   · exact hL.cell 0 R9 rfl c _ (d4g c hc)
   · obtain ⟨rfl,rfl⟩:=hq
     exact ⟨by simp,_,rfl⟩
noncomputable def d3A:Nat→Option (List Value→M Value):=Y6 (fun _=>none) 122 (a5q a2q)
theorem c0k:Y5 Tryz.prog A9 (K4 mL) d3A:=a1w b9a c6e
noncomputable def c2E (x:Nat×List UInt8):List Value:=[.int .i64 (.ofNat x.1),.string ⟨⟨x.2⟩⟩]
noncomputable def c9U:List (List Value):=U8 c2E O8
noncomputable def d7j (r:Option ((Ex×(List Value×Log))×S)):Option Log:=match r with
 | some x=>match x.1.1 with
   | .exit _=>none
   | _=>some x.1.2.2
 | none=>none
noncomputable def b0r:Code:=match Tryz.f120.body with
 | some c=>c
 | none=>.skip
noncomputable def d4P (mL:Int) (l:Nat):Option Log:=d7j (R6 Tryz.prog A9 (a0u Tryz.prog A9 d3A 400) 400 b0r (Value.func (.yield l) #[] #[]::O1 33) [] (Go.V.a0v (K4 mL)))
theorem d0j (mL:Int) (l:Nat):d4P mL l=some (U8 (fun x=>(l,x)) c9U):=by kernel_rfl
end Go.Proofs.YtmomonnlmbljoaaGreatDoor
end
section
namespace Go.Proofs.YtmomonnlmbljoaaGreatDoor
open Go.V Go.RowKit Go.Shelf Go.Proofs
attribute [local go_sem] Oper.semAt_some
set_option maxRecDepth 100000
variable {mL:Int}
theorem c9z {r:Option ((Ex×(List Value×Log))×S)} {L:Log} (h:d7j r=some L):∃ ex fr s,r=some ((ex,(fr,L)),s)∧∀ id,ex≠.exit id:=by
 cases r with
 | none=>cases h
 | some x=>
   obtain ⟨⟨ex,fr,log⟩,s⟩:=x
   cases ex with
   | exit id=>cases h
   | normal=>cases h; exact ⟨.normal,fr,s,rfl,fun _ q=>by cases q⟩
   | ret=>cases h; exact ⟨.ret,fr,s,rfl,fun _ q=>by cases q⟩
theorem c9V:c9U=O8.map c2E:=Q6 _ _
theorem a4i {w:World} (hL:LaidV (K4 mL) w) {B m:Nat} (hB:B≤w.heap.size) :
 SeqStopsK Fence.wide m Tryz.prog 120 #[] (fun x:Nat×List UInt8=>(c2E x).toArray) (KeepsR (RB (K4 mL) B)) (fun xs=>xs=O8) (fun pre=>pre <+: O8) O8.length w:=by
 refine b0P b7I a3n a6k a2z c0k (n:=400) (c:=b0r) Tryz.func120 rfl rfl (fun l=>?_) hL hB hL.size
 obtain ⟨ex,fr',s',hr,hex⟩:=c9z (d0j mL l)
 have e33:O1 33=List.replicate (Tryz.f120.ntmps - 1) undef:=a3f 33
 rw [e33,Q6,c9V,List.map_map] at hr
 exact ⟨ex,fr',s',hr,hex⟩
theorem a5U (n:Nat) (w:World):CallsIn Fence.wide n Tryz.prog 89 #[] w fun e W=>e=.returned (.func (.func 120) #[] #[])∧W=w:=by
 refine callsIn_of_wp Tryz.func89 rfl trivial ?_ rfl
 simp only [Tryz.ntmps89,List.size_toArray,List.length_nil,Nat.reduceSub,Array.replicate_succ,Array.replicate_zero,List.push_toArray,List.append_toArray,List.nil_append]
 gi_wp2
 exact ⟨rfl,_,results_tmp rfl _ _ _,rfl,rfl⟩
theorem a1r (W:World) (v:Value) (t:TypeId):(W.alloc (.cells #[v] t)).cell? ⟨W.heap.size, 0,none⟩=some v∧(W.alloc (.cells #[v] t)).frozen? ⟨W.heap.size, 0,none⟩=false:=by
 have h:(W.alloc (.cells #[v] t)).heap[W.heap.size]?=some (.cells #[v] t (0, 0)):=World.alloc_heap_new W _
 constructor
 · unfold World.cell?; rw [h]; rfl
 · unfold World.frozen?; rw [h]; rfl
theorem a1g {W:World} {a:Addr} {v:Value} (o:Obj) (h:W.cell? a=some v):(W.alloc o).cell? a=some v:=cell_kept h (World.grownBy_alloc W o none) (fun r q=>by cases q)
theorem b0T {W:World} {a:Addr} {v:Value} (o:Obj) (h:W.cell? a=some v) (hf:W.frozen? a=false):(W.alloc o).frozen? a=false:=(frozen_kept h (World.grownBy_alloc W o none) (fun r q=>by cases q)).trans hf
theorem b4U {R:Nat→Prop} {A B C:World} (h:KeepsR R A B) (k:KeepsR R B C):KeepsR R A C:=⟨Nat.le_trans h.size k.size,fun i o hi ho hc=>k.same i o hi (h.same i o hi ho hc) hc⟩
theorem b5Y {R:Nat→Prop} (W:World) (l:Nat) (o o':Obj) (h:W.heap[l]?=some o) (h1:o.isCells=false) (h2:o.isWalk=false):KeepsR R W (W.putObj l o'):=
 ⟨by simp [World.putObj],fun k ok hk hok hc=>by
  by_cases hkl:k=l
  · subst hkl
    rw [h] at hok; cases hok
    rcases hc with hc | hc
    · rw [h1] at hc; cases hc
    · rw [h2] at hc; cases hc
  · rw [World.putObj_heap_other hkl]; exact hok⟩
theorem a4k {R:Nat→Prop} (W:World):KeepsR R W W:=⟨Nat.le_refl _,fun _ _ _ h _=>h⟩
noncomputable def a5R (op:Int):ByteArray:=match O8.find? (fun x=>(Int.ofNat x.1) == op) with
 | some x=>⟨⟨x.2⟩⟩
 | none=>ByteArray.empty
set_option maxHeartbeats 2000000 in
theorem d7K (n:Nat) (hn:3≤n) (op:Int) (w:World) (hL:LaidV (K4 mL) w) :
 CallsIn Fence.wide n Tryz.prog 35 #[.int .i64 op] w fun e W'=>e=.returned (.string (a5R op))∧Below w.heap.size w W':=by
 have h1:1≤n:=by omega
 refine callsIn_of_wp_marks Tryz.func35 rfl trivial ?_ rfl
 simp only [Tryz.ntmps35,List.size_toArray,List.length_cons,List.length_nil,Nat.reduceAdd,Nat.reduceSub,Array.replicate_succ,Array.replicate_zero,List.push_toArray,List.append_toArray,List.nil_append,List.cons_append]
 gi_wp2
 refine ⟨trivial,(a5U (n - 1) _).mono ?_⟩
 rintro e w' ⟨rfl,rfl⟩
 gi_wp2
 have c0:=a1r w (.int .i64 op) 22
 have c1:=a1r (w.alloc (.cells #[.int .i64 op] 22)) (.string ⟨#[]⟩) 9
 simp only [World.size_alloc] at c1
 have hB0:Below w.heap.size w ((w.alloc (.cells #[.int .i64 op] 22)).alloc (.cells #[.string ⟨#[]⟩] 9)):=((Below.refl _ w).alloc (Nat.le_refl _) _).alloc (by simp) _
 refine wpIn_rangeFunc_ownF rfl h1 (gf:=120) (lb:=#[]) rfl trivial (enters_of Tryz.func120 (by kernel_rfl) rfl)
  (a4i (hL.below hB0 hL.size) (B:=w.heap.size+2) (by simp)) b4U (fun W l o o' _ h1 h2 h3=>b5Y W l o o' h1 h2 h3) (Below.refl _ _) (fun _=>rfl)
  (fun pre W=>((∀ y∈pre,Int.ofNat y.1≠op)∧W.cell? ⟨w.heap.size, 0,none⟩=some (.int .i64 op)∧W.cell? ⟨w.heap.size+1, 0,none⟩=some (.string ⟨#[]⟩)∧W.frozen? ⟨w.heap.size+1, 0,none⟩=false)∧Below w.heap.size w W)
  (fun c pre W=>(c=.ret∧(∃ q y,pre=q ++ [y]∧(∀ x∈q,Int.ofNat x.1≠op)∧Int.ofNat y.1=op∧W.cell? ⟨w.heap.size+1, 0,none⟩=some (.string ⟨⟨y.2⟩⟩)))∧Below w.heap.size w W)
  (OwnFrom.and (Own.from (fun s A B row hs hg hr=>⟨hs.1,cell_kept hs.2.1 hg hr,cell_kept hs.2.2.1 hg hr,(frozen_kept hs.2.2.1 hg hr).trans hs.2.2.2⟩) _) (ownFrom_below (Nat.le_refl _) (by simp; omega)))
  (fun c=>OwnFrom.and (Own.from (fun s A B row hs hg hr=>⟨hs.1,let ⟨q,y,e1,e2,e3,e4⟩:=hs.2; ⟨q,y,e1,e2,e3,cell_kept e4 hg hr⟩⟩) _) (ownFrom_below (Nat.le_refl _) (by simp; omega)))
  ⟨⟨by simp,a1g _ c0.1,c1.1,c1.2⟩,hB0⟩
  (fun x=>{ tmps:=#[.int .i64 op,.pointer (some ⟨w.heap.size, 0,none⟩),.pointer (some ⟨w.heap.size+1, 0,none⟩),.int .i64 (Int.ofNat x.1),.string ⟨⟨x.2⟩⟩,.func (.func 120) #[] #[],.int .i64 (Int.ofNat x.1),.string ⟨⟨x.2⟩⟩,undef,undef,undef,undef],defers:=[] }) ?assign ?body ?done ?stop
 case assign=>
  intro l x W K hK
  gi_wp2
  exact hK
 case body=>
  rintro l pre x W ⟨⟨hp,hcw,hcr,hfr⟩,hB⟩ _
  gi_wp2
  · rename_i hx
    have hx':Int.ofNat x.1=op:=eq_of_beq hx
    exact ⟨KeepsOthers.setCell _ _ _,⟨rfl,pre,x,rfl,hp,hx',World.cell?_setCell_same' _ _ _ (by rw [hcr]; rfl)⟩,hB.setCell (p:=⟨w.heap.size+1, 0,none⟩) (by simp) _⟩
  · rename_i hx
    exact ⟨KeepsOthers.refl _,a4k _,⟨fun y hy=>(List.mem_append.1 hy).elim (hp y) (fun e e'=>by simp at e; subst e; subst e'; simp at hx),hcw,hcr,hfr⟩,hB⟩
 case done=>
  rintro D ys W hD rfl ⟨⟨hne,_,hcr,hfr⟩,hB⟩ hK
  gi_wp2
  have hK':=(KeepsOthers.setCell W ⟨w.heap.size+1, 0,none⟩ (.string ⟨#[]⟩)).same D _ hK rfl
  refine ⟨by simp,.inl ⟨_,_,rfl,run_takeDeferred hK', ?_⟩⟩
  have hc5:=cell_kept (World.cell?_setCell_same' W ⟨w.heap.size+1, 0,none⟩ (.string ⟨#[]⟩) (by rw [hcr]; rfl)) (grownBy_putObj' _ D (.deferred none)) (fun r e=>by cases e; exact ⟨_,hK',rfl⟩)
  refine ⟨.string ⟨#[]⟩, ?_, ?_,(hB.setCell (p:=⟨w.heap.size+1, 0,none⟩) (by simp) _).trans (belowK_b (w:=w) (Nat.le_refl _) _ D _ _ (by simp at hD; omega) hK' rfl rfl)⟩
  · simp [results,Tryz.f35,go_sem,hc5]
  · have:O8.find? (fun x=>(Int.ofNat x.1) == op)=none:=by
     rw [List.find?_eq_none]
     intro x hx
     simpa using hne x hx
    unfold a5R
    rw [this]
    rfl
 case stop=>
  rintro D c pre W hD hpre ⟨⟨rfl,q,y,rfl,hq,hy,hcr⟩,hB⟩ hK
  gi_wp2
  refine ⟨by simp,.inl ⟨_,_,rfl,run_takeDeferred hK, ?_⟩⟩
  have hc5:=cell_kept hcr (grownBy_putObj' _ D (.deferred none)) (fun r e=>by cases e; exact ⟨_,hK,rfl⟩)
  refine ⟨.string ⟨⟨y.2⟩⟩, ?_, ?_,hB.trans (belowK_b (w:=w) (Nat.le_refl _) W D _ _ (by simp at hD; omega) hK rfl rfl)⟩
  · simp [results,Tryz.f35,go_sem,hc5]
  · have:O8.find? (fun x=>(Int.ofNat x.1) == op)=some y:=by
     obtain ⟨t,ht⟩:=hpre
     rw [← ht,List.append_assoc,List.find?_append,List.find?_eq_none.2 (fun x hx=>by simpa using hq x hx)]
     simp
     exact Or.inl hy
    unfold a5R
    rw [this]
theorem a1Y (W:World) (b c:Nat) (v:Value) (h:b≠c):(W.setCell ⟨b, 0,none⟩ v).cell? ⟨c, 0,none⟩=W.cell? ⟨c, 0,none⟩:=by
 apply World.cell?_setCell_other
 intro e
 cases e
 exact h rfl
noncomputable def a5F (s:ByteArray):Value:=match O8.find? (fun x=>x.2 == s.toList) with
 | some x=>.tuple #[.int .i64 (Int.ofNat x.1),.bool true]
 | none=>.tuple #[.int .i64 0,.bool false]
set_option maxHeartbeats 2000000 in
theorem d8m (n:Nat) (hn:3≤n) (s:ByteArray) (w:World) (hL:LaidV (K4 mL) w) :
 CallsIn Fence.wide n Tryz.prog 109 #[.string s] w fun e W'=>e=.returned (a5F s)∧Below w.heap.size w W':=by
 have h1:1≤n:=by omega
 refine callsIn_of_wp_marks Tryz.func109 rfl trivial ?_ rfl
 simp only [Tryz.ntmps109,List.size_toArray,List.length_cons,List.length_nil,Nat.reduceAdd,Nat.reduceSub,Array.replicate_succ,Array.replicate_zero,List.push_toArray,List.append_toArray,List.nil_append,List.cons_append]
 gi_wp2
 refine ⟨trivial,(a5U (n - 1) _).mono ?_⟩
 rintro e w' ⟨rfl,rfl⟩
 gi_wp2
 have c0:=a1r w (.string s) 9
 have c1:=a1r (w.alloc (.cells #[.string s] 9)) (.int .i64 0) 22
 have c2:=a1r ((w.alloc (.cells #[.string s] 9)).alloc (.cells #[.int .i64 0] 22)) (.bool false) 4
 simp only [World.size_alloc] at c1 c2
 have hB0:Below w.heap.size w (((w.alloc (.cells #[.string s] 9)).alloc (.cells #[.int .i64 0] 22)).alloc (.cells #[.bool false] 4)):=(((Below.refl _ w).alloc (Nat.le_refl _) _).alloc (by simp) _).alloc (by simp; omega) _
 refine wpIn_rangeFunc_ownF rfl h1 (gf:=120) (lb:=#[]) rfl trivial (enters_of Tryz.func120 (by kernel_rfl) rfl)
  (a4i (hL.below hB0 hL.size) (B:=w.heap.size+3) (by simp)) b4U (fun W l o o' _ h1 h2 h3=>b5Y W l o o' h1 h2 h3) (Below.refl _ _) (fun _=>rfl)
  (fun pre W=>((∀ y∈pre,y.2≠s.toList)∧W.cell? ⟨w.heap.size, 0,none⟩=some (.string s)∧(W.cell? ⟨w.heap.size+1, 0,none⟩=some (.int .i64 0)∧W.frozen? ⟨w.heap.size+1, 0,none⟩=false)∧W.cell? ⟨w.heap.size+1+1, 0,none⟩=some (.bool false)∧W.frozen? ⟨w.heap.size+1+1, 0,none⟩=false)∧Below w.heap.size w W)
  (fun c pre W=>(c=.ret∧(∃ q y,pre=q ++ [y]∧(∀ x∈q,x.2≠s.toList)∧y.2=s.toList∧W.cell? ⟨w.heap.size+1, 0,none⟩=some (.int .i64 (Int.ofNat y.1))∧W.cell? ⟨w.heap.size+1+1, 0,none⟩=some (.bool true)))∧Below w.heap.size w W)
  (OwnFrom.and (Own.from (fun s A B row hs hg hr=>⟨hs.1,cell_kept hs.2.1 hg hr,⟨cell_kept hs.2.2.1.1 hg hr,(frozen_kept hs.2.2.1.1 hg hr).trans hs.2.2.1.2⟩,cell_kept hs.2.2.2.1 hg hr,(frozen_kept hs.2.2.2.1 hg hr).trans hs.2.2.2.2⟩) _) (ownFrom_below (Nat.le_refl _) (by simp; omega)))
  (fun c=>OwnFrom.and (Own.from (fun s A B row hs hg hr=>⟨hs.1,let ⟨q,y,e1,e2,e3,e4,e5⟩:=hs.2; ⟨q,y,e1,e2,e3,cell_kept e4 hg hr,cell_kept e5 hg hr⟩⟩) _) (ownFrom_below (Nat.le_refl _) (by simp; omega)))
  ⟨⟨by simp,a1g _ (a1g _ c0.1),⟨a1g _ c1.1,b0T _ c1.1 c1.2⟩,c2.1,c2.2⟩,hB0⟩
  (fun x=>{ tmps:=#[.string s,.pointer (some ⟨w.heap.size, 0,none⟩),.pointer (some ⟨w.heap.size+1, 0,none⟩),.pointer (some ⟨w.heap.size+1+1, 0,none⟩),.int .i64 (Int.ofNat x.1),.string ⟨⟨x.2⟩⟩,.func (.func 120) #[] #[],.int .i64 (Int.ofNat x.1),.string ⟨⟨x.2⟩⟩,undef,undef,undef,undef],defers:=[] }) ?assign ?body ?done ?stop
 case assign=>
  intro l x W K hK
  gi_wp2
  exact hK
 case body=>
  rintro l pre x W ⟨⟨hp,hcw,⟨hcr,hfr⟩,hcb,hfb⟩,hB⟩ _
  gi_wp2
  · rename_i hx
    have hx':x.2=s.toList:=eq_of_beq hx
    have e1:∀ v,(W.setCell ⟨w.heap.size+1, 0,none⟩ v).cell? ⟨w.heap.size+1+1, 0,none⟩=some (.bool false):=by
     intro v; rw [a1Y _ _ _ _ (by omega)]; exact hcb
    refine ⟨(KeepsOthers.setCell _ _ _).trans (KeepsOthers.setCell _ _ _),⟨rfl,pre,x,rfl,hp,hx', ?_,World.cell?_setCell_same' _ _ _ (by rw [e1]; rfl)⟩,(hB.setCell (p:=⟨w.heap.size+1, 0,none⟩) (by simp) _).setCell (p:=⟨w.heap.size+1+1, 0,none⟩) (by simp; omega) _⟩
    rw [a1Y _ _ _ _ (by omega)]
    exact World.cell?_setCell_same' _ _ _ (by rw [hcr]; rfl)
  · rename_i hx
    exact ⟨KeepsOthers.refl _,a4k _,⟨fun y hy=>(List.mem_append.1 hy).elim (hp y) (fun e e'=>by simp at e; subst e; rw [e'] at hx; simp at hx),hcw,⟨hcr,hfr⟩,hcb,hfb⟩,hB⟩
 case done=>
  rintro D ys W hD rfl ⟨⟨hne,_,⟨hcr,hfr⟩,hcb,hfb⟩,hB⟩ hK
  gi_wp2
  have e1:(W.setCell ⟨w.heap.size+1, 0,none⟩ (.int .i64 0)).cell? ⟨w.heap.size+1+1, 0,none⟩=some (.bool false):=by
   rw [a1Y _ _ _ _ (by omega)]; exact hcb
  have e2:=World.cell?_setCell_same' (W.setCell ⟨w.heap.size+1, 0,none⟩ (.int .i64 0)) ⟨w.heap.size+1+1, 0,none⟩ (.bool false) (by rw [e1]; rfl)
  have e3:((W.setCell ⟨w.heap.size+1, 0,none⟩ (.int .i64 0)).setCell ⟨w.heap.size+1+1, 0,none⟩ (.bool false)).cell? ⟨w.heap.size+1, 0,none⟩=some (.int .i64 0):=by
   rw [a1Y _ _ _ _ (by omega)]; exact World.cell?_setCell_same' _ _ _ (by rw [hcr]; rfl)
  have hK':=((KeepsOthers.setCell W ⟨w.heap.size+1, 0,none⟩ (.int .i64 0)).trans (KeepsOthers.setCell _ ⟨w.heap.size+1+1, 0,none⟩ (.bool false))).same D _ hK rfl
  refine ⟨by simp,.inl ⟨_,_,rfl,run_takeDeferred hK', ?_⟩⟩
  have hc5:=cell_kept e2 (grownBy_putObj' _ D (.deferred none)) (fun r e=>by cases e; exact ⟨_,hK',rfl⟩)
  have hc6:=cell_kept e3 (grownBy_putObj' _ D (.deferred none)) (fun r e=>by cases e; exact ⟨_,hK',rfl⟩)
  refine ⟨.tuple #[.int .i64 0,.bool false], ?_, ?_,((hB.setCell (p:=⟨w.heap.size+1, 0,none⟩) (by simp) _).setCell (p:=⟨w.heap.size+1+1, 0,none⟩) (by simp; omega) _).trans (belowK_b (w:=w) (Nat.le_refl _) _ D _ _ (by simp at hD; omega) hK' rfl rfl)⟩
  · simp [results,Tryz.f109,go_sem,hc5,hc6]
  · have:O8.find? (fun x=>x.2 == s.toList)=none:=by
     rw [List.find?_eq_none]
     intro x hx
     simpa using hne x hx
    unfold a5F
    rw [this]
 case stop=>
  rintro D c pre W hD hpre ⟨⟨rfl,q,y,rfl,hq,hy,hcr,hcb⟩,hB⟩ hK
  gi_wp2
  refine ⟨by simp,.inl ⟨_,_,rfl,run_takeDeferred hK, ?_⟩⟩
  have hc5:=cell_kept hcr (grownBy_putObj' _ D (.deferred none)) (fun r e=>by cases e; exact ⟨_,hK,rfl⟩)
  have hc6:=cell_kept hcb (grownBy_putObj' _ D (.deferred none)) (fun r e=>by cases e; exact ⟨_,hK,rfl⟩)
  refine ⟨.tuple #[.int .i64 (Int.ofNat y.1),.bool true], ?_, ?_,hB.trans (belowK_b (w:=w) (Nat.le_refl _) W D _ _ (by simp at hD; omega) hK rfl rfl)⟩
  · simp [results,Tryz.f109,go_sem,hc5,hc6]
  · have:O8.find? (fun x=>x.2 == s.toList)=some y:=by
     obtain ⟨t,ht⟩:=hpre
     rw [← ht,List.append_assoc,List.find?_append,List.find?_eq_none.2 (fun x hx=>by simpa using hq x hx)]
     simp
     exact Or.inl hy
    unfold a5F
    rw [this]
end Go.Proofs.YtmomonnlmbljoaaGreatDoor
end
