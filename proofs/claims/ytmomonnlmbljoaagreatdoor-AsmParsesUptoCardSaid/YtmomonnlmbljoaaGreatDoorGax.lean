import Derived.Test.YtmomonnlmbljoaaGreatDoorProg
import Derived.Test.YtmomonnlmbljoaaGreatDoorGaf
import Derived.Test.YtmomonnlmbljoaaGreatDoorGag
import Derived.Test.YtmomonnlmbljoaaGreatDoorGah
set_option maxRecDepth 1000000
set_option maxHeartbeats 4000000
set_option linter.unusedVariables false
set_option linter.unusedSimpArgs false
section
namespace Go.Proofs
open Go.Shelf
def Tryz.lFields_ren:Go.Shelf.Ren:=⟨λ|157=>122|229=>165|199=>166|261=>200|311=>212|312=>213|n=>n,λ|9=>9|31=>38|3=>3|5=>5|4=>4|119=>219|0=>0|40=>221|152=>243|21=>21|154=>245|51=>194|141=>247|196=>259|193=>256|198=>262|49=>260|194=>257|201=>265|226=>269|46=>145|227=>270|n=>n,λ|0=>0|6=>1|n=>n⟩
theorem Tryz.lFields:Go.Proofs.Lays.n157 Tryz.prog Tryz.lFields_ren:={
 mixed:=zw
 f157:=Tryz.func122.trans (wO some zw)
 f199:=Tryz.func166.trans (wO some zw)
 f229:=Tryz.func165.trans (wO some zw)
 f261:=Tryz.func200.trans (wO some zw)
 f311:=Tryz.func212.trans (wO some zw)
 f312:=Tryz.func213.trans (wO some zw)
 t0:=qF
 a0:=Tryz.isAgg0
 z0:=Tryz.sizeOf0
 v0:=pV
 t3:=sP
 a3:=pU
 z3:=qE
 v3:=rH
 t4:=sO
 a4:=pR
 z4:=qD
 v4:=rG
 t5:=uR
 a5:=qZ
 z5:=rF
 v5:=sJ
 t9:=uQ
 a9:=pQ
 z9:=qC
 v9:=rE
 t21:=Tryz.underlying21
 a21:=Tryz.isAgg21
 z21:=Tryz.sizeOf21
 v21:=Tryz.zeroValue21
 t31:=qQ
 a31:=Tryz.isAgg38
 z31:=Tryz.sizeOf38
 v31:=Tryz.zeroValue38
 t40:=Tryz.underlying221
 a40:=Tryz.isAgg221
 z40:=Tryz.sizeOf221
 v40:=Tryz.zeroValue221
 t46:=sF
 a46:=qV
 z46:=qc
 v46:=rq
 t49:=Tryz.underlying260
 a49:=Tryz.isAgg260
 z49:=Tryz.sizeOf260
 v49:=Tryz.zeroValue260
 t51:=qX
 a51:=oz
 z51:=pG
 v51:=qP
 t119:=Tryz.underlying219
 a119:=Tryz.isAgg219
 z119:=Tryz.sizeOf219
 t141:=Tryz.underlying247
 a141:=Tryz.isAgg247
 z141:=Tryz.sizeOf247
 v141:=Tryz.zeroValue247
 t152:=Tryz.underlying243
 a152:=Tryz.isAgg243
 z152:=Tryz.sizeOf243
 v152:=Tryz.zeroValue243
 t154:=Tryz.underlying245
 a154:=Tryz.isAgg245
 z154:=Tryz.sizeOf245
 v154:=Tryz.zeroValue245
 t193:=Tryz.underlying256
 a193:=Tryz.isAgg256
 z193:=Tryz.sizeOf256
 v193:=Tryz.zeroValue256
 t194:=Tryz.underlying257
 a194:=Tryz.isAgg257
 z194:=Tryz.sizeOf257
 v194:=Tryz.zeroValue257
 t196:=Tryz.underlying259
 a196:=Tryz.isAgg259
 z196:=Tryz.sizeOf259
 v196:=Tryz.zeroValue259
 t198:=Tryz.underlying262
 a198:=Tryz.isAgg262
 z198:=Tryz.sizeOf262
 v198:=Tryz.zeroValue262
 t201:=Tryz.underlying265
 a201:=Tryz.isAgg265
 z201:=Tryz.sizeOf265
 v201:=Tryz.zeroValue265
 t226:=Tryz.underlying269
 a226:=Tryz.isAgg269
 z226:=Tryz.sizeOf269
 v226:=Tryz.zeroValue269
 t227:=Tryz.underlying270
 a227:=Tryz.isAgg270
 z227:=Tryz.sizeOf270
 v227:=Tryz.zeroValue270
 g0:=zw
 g6:=by kernel_rfl }
def Tryz.lJoin_ren:Go.Shelf.Ren:=⟨λ|156=>96|165=>100|166=>101|169=>103|240=>131|241=>132|276=>179|277=>180|n=>n,λ|31=>38|9=>9|3=>3|4=>4|0=>0|20=>20|72=>151|76=>154|70=>148|37=>149|75=>153|127=>199|164=>230|5=>5|80=>157|n=>n,λ|n=>n⟩
theorem Tryz.lJoin:Go.Proofs.Lays.n156 Tryz.prog Tryz.lJoin_ren:={
 mixed:=zw
 f156:=Tryz.func96.trans (wO some zw)
 f165:=Tryz.func100.trans (wO some zw)
 f166:=Tryz.func101.trans (wO some zw)
 f169:=Tryz.func103.trans (wO some zw)
 f240:=Tryz.func131.trans (wO some zw)
 f241:=Tryz.func132.trans (wO some zw)
 f276:=Tryz.func179.trans (wO some zw)
 f277:=Tryz.func180.trans (wO some zw)
 t0:=qF
 a0:=Tryz.isAgg0
 z0:=Tryz.sizeOf0
 v0:=pV
 t3:=sP
 a3:=pU
 z3:=qE
 v3:=rH
 t4:=sO
 a4:=pR
 z4:=qD
 v4:=rG
 t9:=uQ
 a9:=pQ
 z9:=qC
 v9:=rE
 t20:=Tryz.underlying20
 a20:=Tryz.isAgg20
 z20:=Tryz.sizeOf20
 v20:=Tryz.zeroValue20
 t31:=qQ
 a31:=Tryz.isAgg38
 z31:=Tryz.sizeOf38
 v31:=Tryz.zeroValue38
 t37:=Tryz.underlying149
 a37:=Tryz.isAgg149
 z37:=Tryz.sizeOf149
 v37:=Tryz.zeroValue149
 t70:=Tryz.underlying148
 a70:=Tryz.isAgg148
 z70:=Tryz.sizeOf148
 v70:=Tryz.zeroValue148
 t72:=Tryz.underlying151
 a72:=Tryz.isAgg151
 z72:=Tryz.sizeOf151
 v72:=Tryz.zeroValue151
 t75:=Tryz.underlying153
 a75:=Tryz.isAgg153
 z75:=Tryz.sizeOf153
 v75:=Tryz.zeroValue153
 t76:=Tryz.underlying154
 a76:=Tryz.isAgg154
 z76:=Tryz.sizeOf154
 v76:=Tryz.zeroValue154
 t127:=Tryz.underlying199
 a127:=Tryz.isAgg199
 z127:=Tryz.sizeOf199
 v127:=Tryz.zeroValue199
 t164:=Tryz.underlying230
 a164:=Tryz.isAgg230
 z164:=Tryz.sizeOf230
 v164:=Tryz.zeroValue230 }
def Tryz.lRepeat_ren:Go.Shelf.Ren:=⟨λ|105=>56|212=>99|99=>80|165=>100|166=>101|170=>102|169=>103|263=>129|264=>130|206=>117|240=>131|241=>132|276=>179|277=>180|n=>n,λ|9=>9|3=>3|4=>4|20=>20|0=>0|46=>145|109=>146|5=>5|72=>151|76=>154|51=>194|146=>195|53=>23|148=>197|70=>148|37=>149|75=>153|127=>199|164=>230|80=>157|n=>n,λ|n=>n⟩
theorem Tryz.lRepeat:Go.Proofs.Lays.n105 Tryz.prog Tryz.lRepeat_ren:={
 mixed:=zw
 f99:=Tryz.func80.trans (wO some zw)
 f105:=Tryz.func56.trans (wO some zw)
 f165:=Tryz.func100.trans (wO some zw)
 f166:=Tryz.func101.trans (wO some zw)
 f169:=Tryz.func103.trans (wO some zw)
 f170:=Tryz.func102.trans (wO some zw)
 f206:=Tryz.func117.trans (wO some zw)
 f212:=Tryz.func99.trans (wO some zw)
 f240:=Tryz.func131.trans (wO some zw)
 f241:=Tryz.func132.trans (wO some zw)
 f263:=Tryz.func129.trans (wO some zw)
 f264:=Tryz.func130.trans (wO some zw)
 f276:=Tryz.func179.trans (wO some zw)
 f277:=Tryz.func180.trans (wO some zw)
 t0:=qF
 a0:=Tryz.isAgg0
 z0:=Tryz.sizeOf0
 v0:=pV
 t3:=sP
 a3:=pU
 z3:=qE
 v3:=rH
 t4:=sO
 a4:=pR
 z4:=qD
 v4:=rG
 t5:=uR
 a5:=qZ
 z5:=rF
 v5:=sJ
 t9:=uQ
 a9:=pQ
 z9:=qC
 v9:=rE
 t20:=Tryz.underlying20
 a20:=Tryz.isAgg20
 z20:=Tryz.sizeOf20
 v20:=Tryz.zeroValue20
 t37:=Tryz.underlying149
 a37:=Tryz.isAgg149
 z37:=Tryz.sizeOf149
 v37:=Tryz.zeroValue149
 t46:=sF
 a46:=qV
 z46:=qc
 v46:=rq
 t51:=qX
 a51:=oz
 z51:=pG
 v51:=qP
 t53:=qO
 a53:=Tryz.isAgg23
 z53:=Tryz.sizeOf23
 v53:=Tryz.zeroValue23
 t70:=Tryz.underlying148
 a70:=Tryz.isAgg148
 z70:=Tryz.sizeOf148
 v70:=Tryz.zeroValue148
 t72:=Tryz.underlying151
 a72:=Tryz.isAgg151
 z72:=Tryz.sizeOf151
 v72:=Tryz.zeroValue151
 t75:=Tryz.underlying153
 a75:=Tryz.isAgg153
 z75:=Tryz.sizeOf153
 v75:=Tryz.zeroValue153
 t76:=Tryz.underlying154
 a76:=Tryz.isAgg154
 z76:=Tryz.sizeOf154
 v76:=Tryz.zeroValue154
 t109:=Tryz.underlying146
 a109:=Tryz.isAgg146
 z109:=Tryz.sizeOf146
 v109:=Tryz.zeroValue146
 t127:=Tryz.underlying199
 a127:=Tryz.isAgg199
 z127:=Tryz.sizeOf199
 v127:=Tryz.zeroValue199
 t146:=Tryz.underlying195
 a146:=Tryz.isAgg195
 z146:=Tryz.sizeOf195
 v146:=Tryz.zeroValue195
 t148:=Tryz.underlying197
 a148:=Tryz.isAgg197
 z148:=Tryz.sizeOf197
 v148:=Tryz.zeroValue197
 t164:=Tryz.underlying230
 a164:=Tryz.isAgg230
 z164:=Tryz.sizeOf230
 v164:=Tryz.zeroValue230 }
def Tryz.lContains_ren:Go.Shelf.Ren:=⟨λ|144=>125|143=>171|219=>206|217=>215|225=>216|224=>217|267=>218|266=>219|314=>220|n=>n,λ|9=>9|4=>4|3=>3|5=>5|46=>145|146=>195|51=>194|n=>n,λ|1=>3|n=>n⟩
theorem Tryz.lContains:Go.Proofs.Lays.n144 Tryz.prog Tryz.lContains_ren:={
 mixed:=zw
 f143:=Tryz.func171.trans (wO some zw)
 f144:=Tryz.func125.trans (wO some zw)
 f217:=Tryz.func215.trans (wO some zw)
 f219:=Tryz.func206.trans (wO some zw)
 f224:=Tryz.func217.trans (wO some zw)
 f225:=Tryz.func216.trans (wO some zw)
 f266:=Tryz.func219.trans (wO some zw)
 f267:=Tryz.func218.trans (wO some zw)
 f314:=Tryz.func220.trans (wO some zw)
 t3:=sP
 a3:=pU
 z3:=qE
 v3:=rH
 t4:=sO
 a4:=pR
 z4:=qD
 v4:=rG
 t5:=uR
 a5:=qZ
 z5:=rF
 v5:=sJ
 t9:=uQ
 a9:=pQ
 z9:=qC
 v9:=rE
 t46:=sF
 a46:=qV
 z46:=qc
 v46:=rq
 t51:=qX
 a51:=oz
 z51:=pG
 v51:=qP
 t146:=Tryz.underlying195
 a146:=Tryz.isAgg195
 z146:=Tryz.sizeOf195
 v146:=Tryz.zeroValue195
 g1:=by kernel_rfl }
end Go.Proofs
end
section
end
namespace Go.Proofs.YtmomonnlmbljoaaGreatDoor
open Go.V Go.RowKit Go.Shelf Go.Proofs
variable {mL:Int}
noncomputable def a3u:List Value:=[0,0,0,0,0,0,0,0,0,1,1,1,1,1,0,0,0,0,0,0,0,0,0,0,0,0,0,0,0,0,0,0,1,0,0,0,0,0,0,0,0,0,0,0,0,0,0,0,0,0,0,0,0,0,0,0,0,0,0,0,0,0,0,0,0,0,0,0,0,0,0,0,0,0,0,0,0,0,0,0,0,0,0,0,0,0,0,0,0,0,0,0,0,0,0,0,0,0,0,0,0,0,0,0,0,0,0,0,0,0,0,0,0,0,0,0,0,0,0,0,0,0,0,0,0,0,0,0,0,0,0,0,0,0,0,0,0,0,0,0,0,0,0,0,0,0,0,0,0,0,0,0,0,0,0,0,0,0,0,0,0,0,0,0,0,0,0,0,0,0,0,0,0,0,0,0,0,0,0,0,0,0,0,0,0,0,0,0,0,0,0,0,0,0,0,0,0,0,0,0,0,0,0,0,0,0,0,0,0,0,0,0,0,0,0,0,0,0,0,0,0,0,0,0,0,0,0,0,0,0,0,0,0,0,0,0,0,0,0,0,0,0,0,0,0,0,0,0,0,0,0,0,0,0,0,0].map (.int .u8)
noncomputable def b3r:List Value:=[1,10,100,1000,10000,100000,1000000,10000000,100000000,1000000000,10000000000,100000000000,1000000000000,10000000000000,100000000000000,1000000000000000,10000000000000000,100000000000000000,1000000000000000000,10000000000000000000].map (.int .u64)
noncomputable def b3c:List Value:=[0,1,56,2,57,49,28,3,61,58,42,50,38,29,17,4,62,47,59,36,45,43,51,22,53,39,33,30,24,18,12,5,63,55,48,27,60,41,37,16,46,35,44,21,52,32,23,11,54,26,40,15,34,20,31,10,25,14,19,9,13,8,7,6].map (.int .u8)
noncomputable def b2X:List Value:=[0,1,28,2,29,14,24,3,30,22,20,15,25,17,4,8,31,27,13,23,21,19,16,7,26,12,18,6,11,5,10,9].map (.int .u8)
noncomputable def L6 (m:Int):a2C:=[a3u,[],b3r,[.int .i64 m],b3c,b2X,[]]
noncomputable def a1y:List (Nat×List UInt8):=[(0,[117,110,114,101,97,99,104,97,98,108,101]),(1,[110,111,112]),(2,[98,108,111,99,107]),(3,[108,111,111,112]),(4,[105,102]),(5,[101,108,115,101]),(11,[101,110,100]),(12,[98,114]),(13,[98,114,95,105,102]),(14,[98,114,95,116,97,98,108,101]),(15,[114,101,116,117,114,110]),(16,[99,97,108,108]),(17,[99,97,108,108,95,105,110,100,105,114,101,99,116]),(26,[100,114,111,112]),(27,[115,101,108,101,99,116]),(28,[115,101,108,101,99,116]),(32,[108,111,99,97,108,46,103,101,116]),(33,[108,111,99,97,108,46,115,101,116]),(34,[108,111,99,97,108,46,116,101,101]),(35,[103,108,111,98,97,108,46,103,101,116]),(36,[103,108,111,98,97,108,46,115,101,116]),(37,[116,97,98,108,101,46,103,101,116]),(38,[116,97,98,108,101,46,115,101,116]),(40,[105,51,50,46,108,111,97,100]),(41,[105,54,52,46,108,111,97,100]),(44,[105,51,50,46,108,111,97,100,56,95,115]),(45,[105,51,50,46,108,111,97,100,56,95,117]),(46,[105,51,50,46,108,111,97,100,49,54,95,115]),(47,[105,51,50,46,108,111,97,100,49,54,95,117]),(48,[105,54,52,46,108,111,97,100,56,95,115]),(49,[105,54,52,46,108,111,97,100,56,95,117]),(50,[105,54,52,46,108,111,97,100,49,54,95,115]),(51,[105,54,52,46,108,111,97,100,49,54,95,117]),(52,[105,54,52,46,108,111,97,100,51,50,95,115]),(53,[105,54,52,46,108,111,97,100,51,50,95,117]),(54,[105,51,50,46,115,116,111,114,101]),(55,[105,54,52,46,115,116,111,114,101]),(58,[105,51,50,46,115,116,111,114,101,56]),(59,[105,51,50,46,115,116,111,114,101,49,54]),(60,[105,54,52,46,115,116,111,114,101,56]),(61,[105,54,52,46,115,116,111,114,101,49,54]),(62,[105,54,52,46,115,116,111,114,101,51,50]),(63,[109,101,109,111,114,121,46,115,105,122,101]),(64,[109,101,109,111,114,121,46,103,114,111,119]),(65,[105,51,50,46,99,111,110,115,116]),(66,[105,54,52,46,99,111,110,115,116]),(69,[105,51,50,46,101,113,122]),(70,[105,51,50,46,101,113]),(71,[105,51,50,46,110,101]),(72,[105,51,50,46,108,116,95,115]),(73,[105,51,50,46,108,116,95,117]),(74,[105,51,50,46,103,116,95,115]),(75,[105,51,50,46,103,116,95,117]),(76,[105,51,50,46,108,101,95,115]),(77,[105,51,50,46,108,101,95,117]),(78,[105,51,50,46,103,101,95,115]),(79,[105,51,50,46,103,101,95,117]),(80,[105,54,52,46,101,113,122]),(81,[105,54,52,46,101,113]),(82,[105,54,52,46,110,101]),(83,[105,54,52,46,108,116,95,115]),(84,[105,54,52,46,108,116,95,117]),(85,[105,54,52,46,103,116,95,115]),(86,[105,54,52,46,103,116,95,117]),(87,[105,54,52,46,108,101,95,115]),(88,[105,54,52,46,108,101,95,117]),(89,[105,54,52,46,103,101,95,115]),(90,[105,54,52,46,103,101,95,117]),(103,[105,51,50,46,99,108,122]),(104,[105,51,50,46,99,116,122]),(105,[105,51,50,46,112,111,112,99,110,116]),(106,[105,51,50,46,97,100,100]),(107,[105,51,50,46,115,117,98]),(108,[105,51,50,46,109,117,108]),(109,[105,51,50,46,100,105,118,95,115]),(110,[105,51,50,46,100,105,118,95,117]),(111,[105,51,50,46,114,101,109,95,115]),(112,[105,51,50,46,114,101,109,95,117]),(113,[105,51,50,46,97,110,100]),(114,[105,51,50,46,111,114]),(115,[105,51,50,46,120,111,114]),(116,[105,51,50,46,115,104,108]),(117,[105,51,50,46,115,104,114,95,115]),(118,[105,51,50,46,115,104,114,95,117]),(119,[105,51,50,46,114,111,116,108]),(120,[105,51,50,46,114,111,116,114]),(121,[105,54,52,46,99,108,122]),(122,[105,54,52,46,99,116,122]),(123,[105,54,52,46,112,111,112,99,110,116]),(124,[105,54,52,46,97,100,100]),(125,[105,54,52,46,115,117,98]),(126,[105,54,52,46,109,117,108]),(127,[105,54,52,46,100,105,118,95,115]),(128,[105,54,52,46,100,105,118,95,117]),(129,[105,54,52,46,114,101,109,95,115]),(130,[105,54,52,46,114,101,109,95,117]),(131,[105,54,52,46,97,110,100]),(132,[105,54,52,46,111,114]),(133,[105,54,52,46,120,111,114]),(134,[105,54,52,46,115,104,108]),(135,[105,54,52,46,115,104,114,95,115]),(136,[105,54,52,46,115,104,114,95,117]),(137,[105,54,52,46,114,111,116,108]),(138,[105,54,52,46,114,111,116,114]),(167,[105,51,50,46,119,114,97,112,95,105,54,52]),(172,[105,54,52,46,101,120,116,101,110,100,95,105,51,50,95,115]),(173,[105,54,52,46,101,120,116,101,110,100,95,105,51,50,95,117]),(192,[105,51,50,46,101,120,116,101,110,100,56,95,115]),(193,[105,51,50,46,101,120,116,101,110,100,49,54,95,115]),(194,[105,54,52,46,101,120,116,101,110,100,56,95,115]),(195,[105,54,52,46,101,120,116,101,110,100,49,54,95,115]),(196,[105,54,52,46,101,120,116,101,110,100,51,50,95,115]),(208,[114,101,102,46,110,117,108,108]),(209,[114,101,102,46,105,115,95,110,117,108,108]),(210,[114,101,102,46,102,117,110,99]),(64520,[109,101,109,111,114,121,46,105,110,105,116]),(64521,[100,97,116,97,46,100,114,111,112]),(64522,[109,101,109,111,114,121,46,99,111,112,121]),(64523,[109,101,109,111,114,121,46,102,105,108,108]),(64524,[116,97,98,108,101,46,105,110,105,116]),(64525,[101,108,101,109,46,100,114,111,112]),(64526,[116,97,98,108,101,46,99,111,112,121]),(64527,[116,97,98,108,101,46,103,114,111,119]),(64528,[116,97,98,108,101,46,115,105,122,101]),(64529,[116,97,98,108,101,46,102,105,108,108])]
theorem a4M:tab.ng<=(L6 mL).length:=xD 7
theorem a1Y:∀l∈(L6 mL),∀v∈l,plain v=true:=by have h:((L6 mL).all λl=>l.all plain)=true:=zw;intro l hl v hv;exact sS.1 (sS.1 h l hl) v hv
theorem d1t:∀c,c<256->a3u[c]?=some (.int .u8 (if Lib.isSp (UInt8.ofNat c)then 1 else 0)):=by have h:(List.range 256).map (λc=>a3u[c]?)=(List.range 256).map (λc=>some (Value.int .u8 (if Lib.isSp (UInt8.ofNat c)then 1 else 0))):=zw;intro c hc;exact List.map_inj_left.1 h c (uw.2 hc)
theorem b5S:V6 Tryz.prog tab (L6 mL) 122 (b6F b1o):=c1N λbs xs h=>by obtain⟨s,rfl,h1,h2,rfl⟩:=c4w h;refine⟨rfl,?_,λw hL=>⟨a0c Tryz.func122 zw rfl,?_⟩⟩;rw[R5];intro x hx;obtain⟨l,_,rfl⟩:=uj.1 hx;rfl;refine(Go.Proofs.Any.strings_Fields_core Tryz.lFields zw s w h1 h2 λc hc=>?_).mono λe w' hq=>?_;exact hL.cell 0 a3u rfl c _ (d1t c hc);obtain⟨rfl,rfl⟩:=hq;exact⟨zn,_,rfl⟩
noncomputable def c7j:Nat->Option (List Value->M Value):=J8 (λ_=>none) 122 (b6F b1o)
theorem c5h:a2X Tryz.prog tab (L6 mL) c7j:=a9K c3Q b5S
noncomputable def c6c (x:Nat×List UInt8):List Value:=[.int .i64 (.ofNat x.1),.string ⟨⟨x.2⟩⟩]
noncomputable def d0t:List (List Value):=J7 c6c a1y
noncomputable def d5j (r:Option ((Ex×(List Value×Log))×S)):Option Log:=match r with
 |some x=>match x.1.1 with|.exit _=>none|_=>some x.1.2.2
 |none=>none
noncomputable def b8S:Code:=match Tryz.f120.body with|some c=>c|none=>.skip
noncomputable def d3E (mL:Int)(l:Nat):Option Log:=d5j (a3o Tryz.prog tab (a7c Tryz.prog tab c7j 400) 400 b8S (Value.func (.yield l) #[] #[]::a0t 33) [] (Go.V.a3a (L6 mL)))
theorem d0L (mL l):d3E mL l=some (J7 (λx=>(l,x)) d0t):=zw
section
attribute [local go_sem] Oper.semAt_some
theorem d1m {r L}(h:d5j r=some L):∃ex fr s,r=some ((ex,(fr,L)),s)/\∀id,ex≠.exit id:=by cases r with|none=>cases h|some x=>obtain⟨⟨ex,fr,log⟩,s⟩:=x;cases ex with|exit id=>cases h|normal=>cases h;exact⟨.normal,fr,s,rfl,λ_ q=>zb⟩|ret=>cases h;exact⟨.ret,fr,s,rfl,λ_ q=>zb⟩
theorem d0C:d0t=a1y.map c6c:=a1z _ _
theorem b4U {w}(hL:LaidV (L6 mL) w){B m}(hB:B<=w.heap.size):SeqStopsK Fence.wide m Tryz.prog 120 #[] (λx=>(c6c x).toArray) (KeepsR (RB (L6 mL) B)) (λxs=>xs=a1y) (λpre=>pre<+:a1y) a1y.length w:=by refine b9n a0n U6 a4M a1Y c5h (n:=400) (c:=b8S) Tryz.func120 rfl rfl (λl=>?_) hL hB hL.size;obtain⟨ex,fr',s',hr,hex⟩:=d1m (d0L mL l);have e33:a0t 33=List.replicate (Tryz.f120.ntmps-1) undef:=b3p 33;rw[e33,a1z,d0C,tX]at hr;exact⟨ex,fr',s',hr,hex⟩
theorem b7f (n w):CallsIn Fence.wide n Tryz.prog 89 #[] w λe W=>e=.returned (.func (.func 120) #[] #[])/\W=w:=by refine callsIn_of_wp Tryz.func89 rfl trivial ?_ rfl;simp only[Tryz.ntmps89,tq,vM,Nat.reduceSub,qz,qy,qN,qj,uu];gi_wp2;exact⟨rfl,_,results_tmp rfl _ _ _,rfl,rfl⟩
theorem a8X (W:World)(v t):(W.alloc (.cells #[v] t)).cell? ⟨W.heap.size,0,none⟩=some v/\(W.alloc (.cells #[v] t)).frozen? ⟨W.heap.size,0,none⟩=false:=by have h:(W.alloc (.cells #[v] t)).heap[W.heap.size]?=some (.cells #[v] t (0,0)):=World.alloc_heap_new W _;simp_all
theorem a8L {W:World}{a v}(o)(h:W.cell? a=some v):(W.alloc o).cell? a=some v:=uT h (World.grownBy_alloc W o none) (λr q=>zb)
theorem b9g {W:World}{a v}(o)(h:W.cell? a=some v)(hf:W.frozen? a=false):(W.alloc o).frozen? a=false:=(pO h (World.grownBy_alloc W o none) (λr q=>zb)).trans hf
theorem c2U {R A B C}(h:KeepsR R A B)(k:KeepsR R B C):KeepsR R A C:=⟨wL h.size k.size,λi o hi ho hc=>k.same i o hi (h.same i o hi ho hc) hc⟩
theorem c1G {R}(W l o o')(h:W.heap[l]?=some o)(h1:o.isCells=false)(h2:o.isWalk=false):KeepsR R W (W.putObj l o'):=⟨zm,λk ok hk hok hc=>by grind[World.putObj_heap_other]⟩
theorem b4M {R}(W):KeepsR R W W:=⟨xD _,λ_ _ _ h _=>h⟩
noncomputable def b5H (op:Int):ByteArray:=match a1y.find? (λx=>(Int.ofNat x.1)==op)with|some x=>⟨⟨x.2⟩⟩|none=>ByteArray.empty
set_option maxHeartbeats 2000000 in theorem d7u (n:Nat)(hn:3<=n)(op:Int)(w:World)(hL:LaidV (L6 mL) w):CallsIn Fence.wide n Tryz.prog 35 #[.int .i64 op] w λe W'=>e=.returned (.string (b5H op))/\Below w.heap.size w W':=by
 have h1:1<=n:=zy;refine callsIn_of_wp_marks Tryz.func35 rfl trivial ?_ rfl;simp only[Tryz.ntmps35,tq,wU,vM,Nat.reduceAdd,Nat.reduceSub,qz,qy,qN,qj,uu,sQ];gi_wp2;refine⟨trivial,(b7f (n-1) _).mono ?_⟩;rintro e w' ⟨rfl,rfl⟩;gi_wp2;have c0:=a8X w (.int .i64 op) 22;have c1:=a8X (w.alloc (.cells #[.int .i64 op] 22)) (.string ⟨#[]⟩) 9;simp only[World.size_alloc]at c1;have hB0:Below w.heap.size w ((w.alloc (.cells #[.int .i64 op] 22)).alloc (.cells #[.string ⟨#[]⟩] 9)):=((tK _ w).alloc (xD _) _).alloc zn _;refine wpIn_rangeFunc_ownF rfl h1 (gf:=120) (lb:=#[]) rfl trivial (enters_of Tryz.func120 zw rfl) (b4U (hL.below hB0 hL.size) (B:=w.heap.size+2) zn) c2U (λW l o o' _ h1 h2 h3=>c1G W l o o' h1 h2 h3) (tK _ _) (λ_=>rfl) (λpre W=>((∀y∈pre,Int.ofNat y.1≠op)/\W.cell? ⟨w.heap.size,0,none⟩=some (.int .i64 op)/\W.cell? ⟨w.heap.size+1,0,none⟩=some (.string ⟨#[]⟩)/\W.frozen? ⟨w.heap.size+1,0,none⟩=false)/\Below w.heap.size w W) (λc pre W=>(c=.ret/\(∃q y,pre=q++[y]/\(∀x∈q,Int.ofNat x.1≠op)/\Int.ofNat y.1=op/\W.cell? ⟨w.heap.size+1,0,none⟩=some (.string ⟨⟨y.2⟩⟩)))/\Below w.heap.size w W) (pM (Own.from (λs A B row hs hg hr=>⟨hs.1,uT hs.2.1 hg hr,uT hs.2.2.1 hg hr,(pO hs.2.2.1 hg hr).trans hs.2.2.2⟩) _) (qU (xD _) zg)) (λc=>pM (Own.from (λs A B row hs hg hr=>⟨hs.1,let⟨q,y,e1,e2,e3,e4⟩:=hs.2;⟨q,y,e1,e2,e3,uT e4 hg hr⟩⟩) _) (qU (xD _) zg)) ⟨⟨zn,a8L _ c0.1,c1.1,c1.2⟩,hB0⟩ (λx=>{tmps:=#[.int .i64 op,.pointer (some ⟨w.heap.size,0,none⟩),.pointer (some ⟨w.heap.size+1,0,none⟩),.int .i64 (Int.ofNat x.1),.string ⟨⟨x.2⟩⟩,.func (.func 120) #[] #[],.int .i64 (Int.ofNat x.1),.string ⟨⟨x.2⟩⟩,undef,undef,undef,undef],defers:=[]}) ?assign ?body ?done ?stop;case assign=>intro l x W K hK;gi_wp2;exact hK
 case body=>rintro l pre x W ⟨⟨hp,hcw,hcr,hfr⟩,hB⟩ _;gi_wp2;rename_i hx;have hx':Int.ofNat x.1=op:=eq_of_beq hx;exact⟨uH _ _ _,⟨rfl,pre,x,rfl,hp,hx',uY _ _ _ (by rw[hcr];rfl)⟩,hB.setCell (p:=⟨w.heap.size+1,0,none⟩) zn _⟩;rename_i hx;exact⟨KeepsOthers.refl _,b4M _,⟨λy hy=>(vN.1 hy).elim (hp y) (λe e'=>zm),hcw,hcr,hfr⟩,hB⟩
 case done=>
  rintro D ys W hD rfl ⟨⟨hne,_,hcr,hfr⟩,hB⟩ hK;gi_wp2;have hK':=(uH W ⟨w.heap.size+1,0,none⟩ (.string ⟨#[]⟩)).same D _ hK rfl;refine⟨zn,.inl ⟨_,_,rfl,rT hK',?_⟩⟩;have hc5:=uT (uY W ⟨w.heap.size+1,0,none⟩ (.string ⟨#[]⟩) (by rw[hcr];rfl)) (tH _ D (.deferred none)) (λr e=>by cases e;exact⟨_,hK',rfl⟩);refine⟨.string ⟨#[]⟩,?_,?_,(hB.setCell (p:=⟨w.heap.size+1,0,none⟩) zn _).trans (belowK_b (w:=w) (xD _) _ D _ _ (by simp at hD;omega) hK' rfl rfl)⟩;simp[results,Tryz.f35,go_sem,hc5];have:a1y.find? (λx=>(Int.ofNat x.1)==op)=none:=by rw[List.find?_eq_none];grind
  unfold b5H;rw[this];rfl
 case stop=>rintro D c pre W hD hpre ⟨⟨rfl,q,y,rfl,hq,hy,hcr⟩,hB⟩ hK;gi_wp2;refine⟨zn,.inl ⟨_,_,rfl,rT hK,?_⟩⟩;have hc5:=uT hcr (tH _ D (.deferred none)) (λr e=>by cases e;exact⟨_,hK,rfl⟩);refine⟨.string ⟨⟨y.2⟩⟩,?_,?_,hB.trans (belowK_b (w:=w) (xD _) W D _ _ (by simp at hD;omega) hK rfl rfl)⟩;simp[results,Tryz.f35,go_sem,hc5];grind[b5H]
theorem b0C (W:World)(b c v)(h:b≠c):(W.setCell ⟨b,0,none⟩ v).cell? ⟨c,0,none⟩=W.cell? ⟨c,0,none⟩:=by apply qL;simp_all
noncomputable def b6E (s:ByteArray):Value:=match a1y.find? (λx=>x.2==s.toList)with|some x=>.tuple #[.int .i64 (Int.ofNat x.1),.bool true]|none=>.tuple #[.int .i64 0,.bool false]
set_option maxHeartbeats 2000000 in theorem d6A (n:Nat)(hn:3<=n)(s:ByteArray)(w:World)(hL:LaidV (L6 mL) w):CallsIn Fence.wide n Tryz.prog 109 #[.string s] w λe W'=>e=.returned (b6E s)/\Below w.heap.size w W':=by
 have h1:1<=n:=zy;refine callsIn_of_wp_marks Tryz.func109 rfl trivial ?_ rfl;simp only[Tryz.ntmps109,tq,wU,vM,Nat.reduceAdd,Nat.reduceSub,qz,qy,qN,qj,uu,sQ];gi_wp2;refine⟨trivial,(b7f (n-1) _).mono ?_⟩;rintro e w' ⟨rfl,rfl⟩;gi_wp2;have c0:=a8X w (.string s) 9;have c1:=a8X (w.alloc (.cells #[.string s] 9)) (.int .i64 0) 22;have c2:=a8X ((w.alloc (.cells #[.string s] 9)).alloc (.cells #[.int .i64 0] 22)) (.bool false) 4;simp only[World.size_alloc]at c1 c2;have hB0:Below w.heap.size w (((w.alloc (.cells #[.string s] 9)).alloc (.cells #[.int .i64 0] 22)).alloc (.cells #[.bool false] 4)):=(((tK _ w).alloc (xD _) _).alloc zn _).alloc zg _;refine wpIn_rangeFunc_ownF rfl h1 (gf:=120) (lb:=#[]) rfl trivial (enters_of Tryz.func120 zw rfl) (b4U (hL.below hB0 hL.size) (B:=w.heap.size+3) zn) c2U (λW l o o' _ h1 h2 h3=>c1G W l o o' h1 h2 h3) (tK _ _) (λ_=>rfl) (λpre W=>((∀y∈pre,y.2≠s.toList)/\W.cell? ⟨w.heap.size,0,none⟩=some (.string s)/\(W.cell? ⟨w.heap.size+1,0,none⟩=some (.int .i64 0)/\W.frozen? ⟨w.heap.size+1,0,none⟩=false)/\W.cell? ⟨w.heap.size+1+1,0,none⟩=some (.bool false)/\W.frozen? ⟨w.heap.size+1+1,0,none⟩=false)/\Below w.heap.size w W) (λc pre W=>(c=.ret/\(∃q y,pre=q++[y]/\(∀x∈q,x.2≠s.toList)/\y.2=s.toList/\W.cell? ⟨w.heap.size+1,0,none⟩=some (.int .i64 (Int.ofNat y.1))/\W.cell? ⟨w.heap.size+1+1,0,none⟩=some (.bool true)))/\Below w.heap.size w W) (pM (Own.from (λs A B row hs hg hr=>⟨hs.1,uT hs.2.1 hg hr,⟨uT hs.2.2.1.1 hg hr,(pO hs.2.2.1.1 hg hr).trans hs.2.2.1.2⟩,uT hs.2.2.2.1 hg hr,(pO hs.2.2.2.1 hg hr).trans hs.2.2.2.2⟩) _) (qU (xD _) zg)) (λc=>pM (Own.from (λs A B row hs hg hr=>⟨hs.1,let⟨q,y,e1,e2,e3,e4,e5⟩:=hs.2;⟨q,y,e1,e2,e3,uT e4 hg hr,uT e5 hg hr⟩⟩) _) (qU (xD _) zg)) ⟨⟨zn,a8L _ (a8L _ c0.1),⟨a8L _ c1.1,b9g _ c1.1 c1.2⟩,c2.1,c2.2⟩,hB0⟩ (λx=>{tmps:=#[.string s,.pointer (some ⟨w.heap.size,0,none⟩),.pointer (some ⟨w.heap.size+1,0,none⟩),.pointer (some ⟨w.heap.size+1+1,0,none⟩),.int .i64 (Int.ofNat x.1),.string ⟨⟨x.2⟩⟩,.func (.func 120) #[] #[],.int .i64 (Int.ofNat x.1),.string ⟨⟨x.2⟩⟩,undef,undef,undef,undef],defers:=[]}) ?assign ?body ?done ?stop;case assign=>intro l x W K hK;gi_wp2;exact hK
 case body=>
  rintro l pre x W ⟨⟨hp,hcw,⟨hcr,hfr⟩,hcb,hfb⟩,hB⟩ _;gi_wp2;rename_i hx;have hx':x.2=s.toList:=eq_of_beq hx;have e1:∀v,(W.setCell ⟨w.heap.size+1,0,none⟩ v).cell? ⟨w.heap.size+1+1,0,none⟩=some (.bool false):=by grind[b0C]
  refine⟨(uH _ _ _).trans (uH _ _ _),⟨rfl,pre,x,rfl,hp,hx',?_,uY _ _ _ (by rw[e1];rfl)⟩,(hB.setCell (p:=⟨w.heap.size+1,0,none⟩) zn _).setCell (p:=⟨w.heap.size+1+1,0,none⟩) zg _⟩;rw[b0C _ _ _ _ zy];grind[World.cell?_setCell_same'];rename_i hx;exact⟨KeepsOthers.refl _,b4M _,⟨λy hy=>(vN.1 hy).elim (hp y) (λe e'=>zm),hcw,⟨hcr,hfr⟩,hcb,hfb⟩,hB⟩
 case done=>
  rintro D ys W hD rfl ⟨⟨hne,_,⟨hcr,hfr⟩,hcb,hfb⟩,hB⟩ hK;gi_wp2;have e1:(W.setCell ⟨w.heap.size+1,0,none⟩ (.int .i64 0)).cell? ⟨w.heap.size+1+1,0,none⟩=some (.bool false):=by rw[b0C _ _ _ _ zy];exact hcb
  have e2:=uY (W.setCell ⟨w.heap.size+1,0,none⟩ (.int .i64 0)) ⟨w.heap.size+1+1,0,none⟩ (.bool false) (by rw[e1];rfl);have e3:((W.setCell ⟨w.heap.size+1,0,none⟩ (.int .i64 0)).setCell ⟨w.heap.size+1+1,0,none⟩ (.bool false)).cell? ⟨w.heap.size+1,0,none⟩=some (.int .i64 0):=by rw[b0C _ _ _ _ zy];grind[World.cell?_setCell_same']
  have hK':=((uH W ⟨w.heap.size+1,0,none⟩ (.int .i64 0)).trans (uH _ ⟨w.heap.size+1+1,0,none⟩ (.bool false))).same D _ hK rfl;refine⟨zn,.inl ⟨_,_,rfl,rT hK',?_⟩⟩;have hc5:=uT e2 (tH _ D (.deferred none)) (λr e=>by cases e;exact⟨_,hK',rfl⟩);have hc6:=uT e3 (tH _ D (.deferred none)) (λr e=>by cases e;exact⟨_,hK',rfl⟩);refine⟨.tuple #[.int .i64 0,.bool false],?_,?_,((hB.setCell (p:=⟨w.heap.size+1,0,none⟩) zn _).setCell (p:=⟨w.heap.size+1+1,0,none⟩) zg _).trans (belowK_b (w:=w) (xD _) _ D _ _ (by simp at hD;omega) hK' rfl rfl)⟩;simp[results,Tryz.f109,go_sem,hc5,hc6];grind[b6E]
 case stop=>rintro D c pre W hD hpre ⟨⟨rfl,q,y,rfl,hq,hy,hcr,hcb⟩,hB⟩ hK;gi_wp2;refine⟨zn,.inl ⟨_,_,rfl,rT hK,?_⟩⟩;have hc5:=uT hcr (tH _ D (.deferred none)) (λr e=>by cases e;exact⟨_,hK,rfl⟩);have hc6:=uT hcb (tH _ D (.deferred none)) (λr e=>by cases e;exact⟨_,hK,rfl⟩);refine⟨.tuple #[.int .i64 (Int.ofNat y.1),.bool true],?_,?_,hB.trans (belowK_b (w:=w) (xD _) W D _ _ (by simp at hD;omega) hK rfl rfl)⟩;simp[results,Tryz.f109,go_sem,hc5,hc6];grind[b6E]
end
noncomputable def c7I (l:List (Nat×List UInt8))(m:Nat):List UInt8:=List.rec (motive:=λ_=>List UInt8) [] (λx _ ih=>match Nat.beq x.1 m with|true=>x.2|false=>ih) l
theorem d3v (m:Nat)(l:List (Nat×List UInt8)):(match l.find? (λx=>(Int.ofNat x.1)==Int.ofNat m)with|some x=>(⟨⟨x.2⟩⟩:ByteArray)|none=>ByteArray.empty)=⟨⟨c7I l m⟩⟩:=by
 induction l with
  |nil=>rfl|cons x l ih=>
   show _=(⟨⟨match Nat.beq x.1 m with|true=>x.2|false=>c7I l m⟩⟩:ByteArray);rw[List.find?_cons];cases hb:Nat.beq x.1 m with
    |true=>have:(Int.ofNat x.1==Int.ofNat m)=true:=zm;rw[this]|false=>
     have:(Int.ofNat x.1==Int.ofNat m)=false:=by
      have hne:x.1≠m:=λe=>by rw[e]at hb;simp at hb
      rw[beq_eq_false_iff_ne];grind
     rw[this];exact ih
noncomputable def b9S (bs:List Value):Option Value:=match bs with
 |[]=>none|v::rest=>match rest with
  |[]=>match v with
   |.int k n=>match k with
    |.i64=>match n with|.ofNat m=>some (.string ⟨⟨c7I a1y m⟩⟩)|.negSucc _=>none
    |_=>none
   |_=>none
  |_::_=>none
theorem c3Z {bs v}(h:b9S bs=some v):M0 (M7 8) bs=true/\M7 8 v=true/\a6Q Tryz.prog (L6 mL) 35 bs v:=by unfold b9S at h;split at h;cases h;split at h;split at h;split at h;split at h;rename_i m;cases h;refine⟨rfl,rfl,λw hL=>⟨a0c Tryz.func35 zw rfl,?_⟩⟩;refine(qG.1 (d7u 3 zy (Int.ofNat m) w hL)).mono λe W' hq=>?_;obtain⟨rfl,hb⟩:=hq;grind[b5H,d3v];cases h;cases h;cases h;cases h
noncomputable def a9B (l:List (Nat×List UInt8))(b:List UInt8):Value:=List.rec (motive:=λ_=>Value) (.tuple ⟨[.int .i64 (.ofNat 0),.bool false]⟩) (λx _ ih=>match beqBytes x.2 b with|true=>.tuple ⟨[.int .i64 (.ofNat x.1),.bool true]⟩|false=>ih) l
noncomputable def b6s (bs:List Value):Option Value:=match bs with
 |[]=>none|v::rest=>match rest with
  |[]=>match v with|.string s=>some (a9B a1y s.data.toList)|_=>none
  |_::_=>none
theorem d1s (b:List UInt8)(l:List (Nat×List UInt8)):(match l.find? (λx=>x.2==b)with|some x=>Value.tuple #[.int .i64 (Int.ofNat x.1),.bool true]|none=>.tuple #[.int .i64 0,.bool false])=a9B l b:=by induction l<;>first|rfl|grind[a9B,a2N]
theorem c4x (b l):M7 8 (a9B l b)=true:=by induction l with|nil=>rfl|cons x l ih=>show M7 8 (match beqBytes x.2 b with|true=>Value.tuple ⟨[.int .i64 (.ofNat x.1),.bool true]⟩|false=>a9B l b)=true;cases beqBytes x.2 b<;>first|rfl|grind[beqBytes]
theorem c3R {bs v}(h:b6s bs=some v):M0 (M7 8) bs=true/\M7 8 v=true/\a6Q Tryz.prog (L6 mL) 109 bs v:=by unfold b6s at h;split at h;cases h;split at h;split at h;rename_i s;cases h;refine⟨rfl,c4x _ _,λw hL=>⟨a0c Tryz.func109 zw rfl,?_⟩⟩;refine(qG.1 (d6A 3 zy s w hL)).mono λe W' hq=>?_;obtain⟨rfl,hb⟩:=hq;grind[b6E,d1s,Lib.toList_data];cases h;cases h
noncomputable def e1S:Nat->Option (List Value->M Value):=a7I (a7I c7j 35 b9S) 109 b6s
theorem d5O:a2X Tryz.prog tab (L6 mL) e1S:=a9A (a9A c5h λ_ _ h=>c3Z h) λ_ _ h=>c3R h
end Go.Proofs.YtmomonnlmbljoaaGreatDoor
section
end
namespace Go.Proofs.YtmomonnlmbljoaaGreatDoor
open Go.V Go.RowKit Go.Shelf Go.Proofs
variable {mL:Int}
theorem b5Q {bs v}(h:b0s bs=some v):M0 (M7 8) bs=true/\M7 8 v=true/\a6Q Tryz.prog (L6 mL) 125 bs v:=by
 unfold b0s at h;split at h;rename_i s sub;cases hb:Nat.blt (F9 s.data.toList) 4294967281 with
  |false=>rw[hb]at h;cases h|true=>
   rw[hb]at h;cases h;refine⟨rfl,rfl,λw hL=>⟨a0c Tryz.func125 zw rfl,?_⟩⟩;have hs:s.size<4294967281:=by rw[J2]at hb;simpa using hb
   refine(Any.strings_Contains Tryz.lContains s sub mL w hs (hL.cell 3 _ rfl 0 _ rfl)).mono λe w' hq=>?_;obtain⟨rfl,rfl⟩:=hq;grind[c2u,Below.refl]
 cases h
theorem c9i:Builder.Extra Tryz.prog Tryz.lRepeat_ren where
 sizeBuilder:=zw
 liesBuilder:=zw
 t5:=uR
 a5:=qZ
 z5:=rF
 v5:=sJ
 infoByte:=zw
 cellsByte:=zw
 sizeByte:=zw
 neB5:=zq
theorem b8X:Builder.Extra Tryz.prog Tryz.lJoin_ren where
 sizeBuilder:=zw
 liesBuilder:=zw
 t5:=uR
 a5:=qZ
 z5:=rF
 v5:=sJ
 infoByte:=zw
 cellsByte:=zw
 sizeByte:=zw
 neB5:=zq
theorem b9i {bs v}(h:b4p bs=some v):M0 (M7 8) bs=true/\M7 8 v=true/\a6Q Tryz.prog (L6 mL) 56 bs v:=by
 unfold b4p at h;split at h;rename_i s c;cases hb:Nat.blt c 4294967296&&Nat.ble (F9 s.data.toList*c) 4294967296 with
  |false=>rw[hb]at h;cases h|true=>
   rw[hb]at h;cases h;simp only[wh]at hb;refine⟨rfl,rfl,λw hL=>⟨a0c Tryz.func56 zw rfl,?_⟩⟩;have h1:c<4294967296:=zm;have h2:s.size*c<=4294967296:=by have:=wJ hb.2;rw[J2]at this;simp_all
   refine(Any.strings_Repeat Tryz.lRepeat c9i s c w zy zy).mono λe w' hq=>?_;obtain⟨rfl,hq⟩:=hq;grind[c7B]
 cases h
theorem c2k:V6 Tryz.prog tab (L6 mL) 96 b4f:=c3X (λ_ _=>a0c Tryz.func96 zw rfl) (λa c sep w=>Any.strings_Join_none Tryz.lJoin b8X a c sep w) (λbk o c xs sep w h1 h2 h3 h4 h5=>Any.strings_Join Tryz.lJoin b8X bk o c xs sep w h1 h2 h3 h4 h5)
theorem b8u:V6 Tryz.prog tab (L6 mL) 163 (λbs=>M.lift (b2R bs)):=c3u λbs v h=>by
 unfold b2R at h;split at h;rename_i x y c;cases hb:Nat.ble c 1 with
  |false=>rw[hb]at h;cases h|true=>
   rw[hb]at h;cases h;refine⟨rfl,rfl,λw=>?_⟩;have hc:=wJ hb;have e:(callFunc 163 #[.int .u64 (x:Int),.int .u64 (y:Int),.int .u64 (c:Int)]).run Tryz.prog w= .ok (.value (.tuple #[.int .u64 (((x+y+c)%18446744073709551616:Nat):Int),.int .u64 (((x+y+c)/18446744073709551616:Nat):Int)])) w:=by rw[run_callFunc_extern Tryz.func163 zw zw zw (e:=add64Entry) zw,run_add64 x y c zy zy zy zy];rfl
   exact e
 cases h
noncomputable def a4Z:Nat->Option (List Value->M Value):=J8 (J8 (a7I (a7I e1S 125 b0s) 56 b4p) 96 b4f) 163 (λbs=>M.lift (b2R bs))
theorem a4K:a2X Tryz.prog tab (L6 mL) a4Z:=a9K (a9K (a9A (a9A d5O λ_ _ h=>b5Q h) λ_ _ h=>b9i h) c2k) b8u
end Go.Proofs.YtmomonnlmbljoaaGreatDoor
