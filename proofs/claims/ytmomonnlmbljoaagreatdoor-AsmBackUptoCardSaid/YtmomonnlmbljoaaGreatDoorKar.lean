import Derived.Test.YtmomonnlmbljoaaGreatDoorProg
import Derived.Test.YtmomonnlmbljoaaGreatDoorKaf
import Derived.Test.YtmomonnlmbljoaaGreatDoorKag
set_option maxRecDepth 1000000
set_option maxHeartbeats 4000000
set_option linter.unusedVariables false
set_option linter.unusedSimpArgs false
section
namespace Go.Proofs
open Go.Shelf
def Tryz.lFields_ren:Go.Shelf.Ren:=⟨λ|157=>122|229=>165|199=>166|261=>200|311=>212|312=>213|n=>n,λ|9=>9|31=>38|3=>3|5=>5|4=>4|119=>219|0=>0|40=>221|152=>243|21=>21|154=>245|51=>194|141=>247|196=>259|193=>256|198=>262|49=>260|194=>257|201=>265|226=>269|46=>145|227=>270|n=>n,λ|0=>0|6=>1|n=>n⟩
theorem Tryz.lFields:Go.Proofs.Lays.n157 Tryz.prog Tryz.lFields_ren:={
 mixed:=zw
 f157:=Tryz.func122.trans (vw some zw)
 f199:=Tryz.func166.trans (vw some zw)
 f229:=Tryz.func165.trans (vw some zw)
 f261:=Tryz.func200.trans (vw some zw)
 f311:=Tryz.func212.trans (vw some zw)
 f312:=Tryz.func213.trans (vw some zw)
 t0:=rD
 a0:=oq
 z0:=pg
 v0:=qo
 t3:=uU
 a3:=qQ
 z3:=qj
 v3:=rY
 t4:=si
 a4:=qP
 z4:=qh
 v4:=rX
 t5:=uM
 a5:=qw
 z5:=rM
 v5:=sS
 t9:=tK
 a9:=qO
 z9:=qg
 v9:=rW
 t21:=Tryz.underlying21
 a21:=Tryz.isAgg21
 z21:=Tryz.sizeOf21
 v21:=Tryz.zeroValue21
 t31:=oL
 a31:=Tryz.isAgg38
 z31:=Tryz.sizeOf38
 v31:=Tryz.zeroValue38
 t40:=Tryz.underlying221
 a40:=Tryz.isAgg221
 z40:=Tryz.sizeOf221
 v40:=Tryz.zeroValue221
 t46:=sU
 a46:=qx
 z46:=rJ
 v46:=sN
 t49:=Tryz.underlying260
 a49:=Tryz.isAgg260
 z49:=Tryz.sizeOf260
 v49:=Tryz.zeroValue260
 t51:=rV
 a51:=qN
 z51:=qc
 v51:=rP
 t119:=Tryz.underlying219
 a119:=Tryz.isAgg219
 z119:=Tryz.sizeOf219
 t141:=Tryz.underlying247
 a141:=Tryz.isAgg247
 z141:=Tryz.sizeOf247
 v141:=Tryz.zeroValue247
 t152:=Tryz.underlying243
 a152:=Tryz.isAgg243
 z152:=Tryz.sizeOf243
 v152:=Tryz.zeroValue243
 t154:=Tryz.underlying245
 a154:=Tryz.isAgg245
 z154:=Tryz.sizeOf245
 v154:=Tryz.zeroValue245
 t193:=Tryz.underlying256
 a193:=Tryz.isAgg256
 z193:=Tryz.sizeOf256
 v193:=Tryz.zeroValue256
 t194:=Tryz.underlying257
 a194:=Tryz.isAgg257
 z194:=Tryz.sizeOf257
 v194:=Tryz.zeroValue257
 t196:=Tryz.underlying259
 a196:=Tryz.isAgg259
 z196:=Tryz.sizeOf259
 v196:=Tryz.zeroValue259
 t198:=Tryz.underlying262
 a198:=Tryz.isAgg262
 z198:=Tryz.sizeOf262
 v198:=Tryz.zeroValue262
 t201:=Tryz.underlying265
 a201:=Tryz.isAgg265
 z201:=Tryz.sizeOf265
 v201:=Tryz.zeroValue265
 t226:=Tryz.underlying269
 a226:=Tryz.isAgg269
 z226:=Tryz.sizeOf269
 v226:=Tryz.zeroValue269
 t227:=Tryz.underlying270
 a227:=Tryz.isAgg270
 z227:=Tryz.sizeOf270
 v227:=Tryz.zeroValue270
 g0:=zw
 g6:=by kernel_rfl }
def Tryz.lJoin_ren:Go.Shelf.Ren:=⟨λ|156=>96|165=>100|166=>101|169=>103|240=>131|241=>132|276=>179|277=>180|n=>n,λ|31=>38|9=>9|3=>3|4=>4|0=>0|20=>20|72=>151|76=>154|70=>148|37=>149|75=>153|127=>199|164=>230|5=>5|80=>157|n=>n,λ|n=>n⟩
theorem Tryz.lJoin:Go.Proofs.Lays.n156 Tryz.prog Tryz.lJoin_ren:={
 mixed:=zw
 f156:=Tryz.func96.trans (vw some zw)
 f165:=Tryz.func100.trans (vw some zw)
 f166:=Tryz.func101.trans (vw some zw)
 f169:=Tryz.func103.trans (vw some zw)
 f240:=Tryz.func131.trans (vw some zw)
 f241:=Tryz.func132.trans (vw some zw)
 f276:=Tryz.func179.trans (vw some zw)
 f277:=Tryz.func180.trans (vw some zw)
 t0:=rD
 a0:=oq
 z0:=pg
 v0:=qo
 t3:=uU
 a3:=qQ
 z3:=qj
 v3:=rY
 t4:=si
 a4:=qP
 z4:=qh
 v4:=rX
 t9:=tK
 a9:=qO
 z9:=qg
 v9:=rW
 t20:=qY
 a20:=oD
 z20:=oU
 v20:=qI
 t31:=oL
 a31:=Tryz.isAgg38
 z31:=Tryz.sizeOf38
 v31:=Tryz.zeroValue38
 t37:=rU
 a37:=oQ
 z37:=ow
 v37:=qX
 t70:=Tryz.underlying148
 a70:=Tryz.isAgg148
 z70:=Tryz.sizeOf148
 v70:=Tryz.zeroValue148
 t72:=Tryz.underlying151
 a72:=Tryz.isAgg151
 z72:=Tryz.sizeOf151
 v72:=Tryz.zeroValue151
 t75:=Tryz.underlying153
 a75:=Tryz.isAgg153
 z75:=Tryz.sizeOf153
 v75:=Tryz.zeroValue153
 t76:=Tryz.underlying154
 a76:=Tryz.isAgg154
 z76:=Tryz.sizeOf154
 v76:=Tryz.zeroValue154
 t127:=Tryz.underlying199
 a127:=Tryz.isAgg199
 z127:=Tryz.sizeOf199
 v127:=Tryz.zeroValue199
 t164:=Tryz.underlying230
 a164:=Tryz.isAgg230
 z164:=Tryz.sizeOf230
 v164:=Tryz.zeroValue230 }
def Tryz.lRepeat_ren:Go.Shelf.Ren:=⟨λ|105=>56|212=>99|99=>80|165=>100|166=>101|170=>102|169=>103|263=>129|264=>130|206=>117|240=>131|241=>132|276=>179|277=>180|n=>n,λ|9=>9|3=>3|4=>4|20=>20|0=>0|46=>145|109=>146|5=>5|72=>151|76=>154|51=>194|146=>195|53=>23|148=>197|70=>148|37=>149|75=>153|127=>199|164=>230|80=>157|n=>n,λ|n=>n⟩
theorem Tryz.lRepeat:Go.Proofs.Lays.n105 Tryz.prog Tryz.lRepeat_ren:={
 mixed:=zw
 f99:=Tryz.func80.trans (vw some zw)
 f105:=Tryz.func56.trans (vw some zw)
 f165:=Tryz.func100.trans (vw some zw)
 f166:=Tryz.func101.trans (vw some zw)
 f169:=Tryz.func103.trans (vw some zw)
 f170:=Tryz.func102.trans (vw some zw)
 f206:=Tryz.func117.trans (vw some zw)
 f212:=Tryz.func99.trans (vw some zw)
 f240:=Tryz.func131.trans (vw some zw)
 f241:=Tryz.func132.trans (vw some zw)
 f263:=Tryz.func129.trans (vw some zw)
 f264:=Tryz.func130.trans (vw some zw)
 f276:=Tryz.func179.trans (vw some zw)
 f277:=Tryz.func180.trans (vw some zw)
 t0:=rD
 a0:=oq
 z0:=pg
 v0:=qo
 t3:=uU
 a3:=qQ
 z3:=qj
 v3:=rY
 t4:=si
 a4:=qP
 z4:=qh
 v4:=rX
 t5:=uM
 a5:=qw
 z5:=rM
 v5:=sS
 t9:=tK
 a9:=qO
 z9:=qg
 v9:=rW
 t20:=qY
 a20:=oD
 z20:=oU
 v20:=qI
 t37:=rU
 a37:=oQ
 z37:=ow
 v37:=qX
 t46:=sU
 a46:=qx
 z46:=rJ
 v46:=sN
 t51:=rV
 a51:=qN
 z51:=qc
 v51:=rP
 t53:=sM
 a53:=oC
 z53:=oP
 v53:=qH
 t70:=Tryz.underlying148
 a70:=Tryz.isAgg148
 z70:=Tryz.sizeOf148
 v70:=Tryz.zeroValue148
 t72:=Tryz.underlying151
 a72:=Tryz.isAgg151
 z72:=Tryz.sizeOf151
 v72:=Tryz.zeroValue151
 t75:=Tryz.underlying153
 a75:=Tryz.isAgg153
 z75:=Tryz.sizeOf153
 v75:=Tryz.zeroValue153
 t76:=Tryz.underlying154
 a76:=Tryz.isAgg154
 z76:=Tryz.sizeOf154
 v76:=Tryz.zeroValue154
 t109:=Tryz.underlying146
 a109:=Tryz.isAgg146
 z109:=Tryz.sizeOf146
 v109:=Tryz.zeroValue146
 t127:=Tryz.underlying199
 a127:=Tryz.isAgg199
 z127:=Tryz.sizeOf199
 v127:=Tryz.zeroValue199
 t146:=Tryz.underlying195
 a146:=Tryz.isAgg195
 z146:=Tryz.sizeOf195
 v146:=Tryz.zeroValue195
 t148:=Tryz.underlying197
 a148:=Tryz.isAgg197
 z148:=Tryz.sizeOf197
 v148:=Tryz.zeroValue197
 t164:=Tryz.underlying230
 a164:=Tryz.isAgg230
 z164:=Tryz.sizeOf230
 v164:=Tryz.zeroValue230 }
def Tryz.lContains_ren:Go.Shelf.Ren:=⟨λ|144=>125|143=>171|219=>206|217=>215|225=>216|224=>217|267=>218|266=>219|314=>220|n=>n,λ|9=>9|4=>4|3=>3|5=>5|46=>145|146=>195|51=>194|n=>n,λ|1=>3|n=>n⟩
theorem Tryz.lContains:Go.Proofs.Lays.n144 Tryz.prog Tryz.lContains_ren:={
 mixed:=zw
 f143:=Tryz.func171.trans (vw some zw)
 f144:=Tryz.func125.trans (vw some zw)
 f217:=Tryz.func215.trans (vw some zw)
 f219:=Tryz.func206.trans (vw some zw)
 f224:=Tryz.func217.trans (vw some zw)
 f225:=Tryz.func216.trans (vw some zw)
 f266:=Tryz.func219.trans (vw some zw)
 f267:=Tryz.func218.trans (vw some zw)
 f314:=Tryz.func220.trans (vw some zw)
 t3:=uU
 a3:=qQ
 z3:=qj
 v3:=rY
 t4:=si
 a4:=qP
 z4:=qh
 v4:=rX
 t5:=uM
 a5:=qw
 z5:=rM
 v5:=sS
 t9:=tK
 a9:=qO
 z9:=qg
 v9:=rW
 t46:=sU
 a46:=qx
 z46:=rJ
 v46:=sN
 t51:=rV
 a51:=qN
 z51:=qc
 v51:=rP
 t146:=Tryz.underlying195
 a146:=Tryz.isAgg195
 z146:=Tryz.sizeOf195
 v146:=Tryz.zeroValue195
 g1:=by kernel_rfl }
def Tryz.lItoa_ren:Go.Shelf.Ren:=⟨λ|171=>37|243=>90|246=>123|283=>167|284=>168|285=>169|286=>170|129=>202|317=>201|318=>203|319=>204|320=>205|337=>214|338=>188|n=>n,λ|3=>3|9=>9|2=>2|4=>4|171=>222|0=>0|53=>23|37=>149|5=>5|173=>225|212=>250|51=>194|20=>20|213=>251|46=>145|232=>271|233=>253|n=>n,λ|17=>2|18=>5|19=>4|n=>n⟩
theorem Tryz.lItoa:Go.Proofs.LaysM.n171 Tryz.prog Tryz.lItoa_ren:={
 mixed:=zw
 f129:=Tryz.func202.trans (vw some zw)
 f171:=Tryz.func37.trans (vw some zw)
 f243:=Tryz.func90.trans (vw some zw)
 f246:=Tryz.func123.trans (vw some zw)
 f283:=Tryz.func167.trans (vw some zw)
 f284:=Tryz.func168.trans (vw some zw)
 f285:=Tryz.func169.trans (vw some zw)
 f286:=Tryz.func170.trans (vw some zw)
 f317:=Tryz.func201.trans (vw some zw)
 f318:=Tryz.func203.trans (vw some zw)
 f319:=Tryz.func204.trans (vw some zw)
 f320:=Tryz.func205.trans (vw some zw)
 f337:=Tryz.func214.trans (vw some zw)
 f338:=Tryz.func188.trans (vw some zw)
 t0:=rD
 a0:=oq
 z0:=pg
 v0:=qo
 t2:=Tryz.underlying2
 a2:=Tryz.isAgg2
 z2:=Tryz.sizeOf2
 v2:=Tryz.zeroValue2
 t3:=uU
 a3:=qQ
 z3:=qj
 v3:=rY
 t4:=si
 a4:=qP
 z4:=qh
 v4:=rX
 t5:=uM
 a5:=qw
 z5:=rM
 v5:=sS
 t9:=tK
 a9:=qO
 z9:=qg
 v9:=rW
 t20:=qY
 a20:=oD
 z20:=oU
 v20:=qI
 t37:=rU
 a37:=oQ
 z37:=ow
 v37:=qX
 t46:=sU
 a46:=qx
 z46:=rJ
 v46:=sN
 t51:=rV
 a51:=qN
 z51:=qc
 v51:=rP
 t53:=sM
 a53:=oC
 z53:=oP
 v53:=qH
 t171:=qf
 a171:=Tryz.isAgg222
 z171:=Tryz.sizeOf222
 v171:=Tryz.zeroValue222
 t173:=Tryz.underlying225
 a173:=Tryz.isAgg225
 z173:=Tryz.sizeOf225
 v173:=Tryz.zeroValue225
 t212:=og
 a212:=Tryz.isAgg250
 z212:=Tryz.sizeOf250
 v212:=Tryz.zeroValue250
 t213:=Tryz.underlying251
 a213:=Tryz.isAgg251
 z213:=Tryz.sizeOf251
 t232:=oZ
 a232:=Tryz.isAgg271
 z232:=Tryz.sizeOf271
 v232:=Tryz.zeroValue271
 t233:=oW
 a233:=Tryz.isAgg253
 z233:=Tryz.sizeOf253
 v233:=Tryz.zeroValue253
 g17:=zw
 g18:=zw
 g19:=zw
 i0:=zw
 i2:=zw
 i3:=zw
 i4:=zw
 i5:=zw
 i9:=zw
 i20:=zw
 i37:=zw
 i46:=zw
 i51:=zw
 i53:=zw
 i171:=zw
 i173:=zw
 i212:=zw
 i232:=zw
 i233:=zw
 m17:=zw
 m18:=zw
 m19:=by kernel_rfl }
def Tryz.lFormatInt_ren:Go.Shelf.Ren:=⟨λ|173=>95|246=>123|283=>167|284=>168|285=>169|286=>170|129=>202|317=>201|318=>203|319=>204|320=>205|337=>214|338=>188|n=>n,λ|2=>2|3=>3|9=>9|4=>4|171=>222|0=>0|53=>23|37=>149|5=>5|173=>225|212=>250|51=>194|20=>20|213=>251|46=>145|232=>271|233=>253|n=>n,λ|17=>2|18=>5|19=>4|n=>n⟩
theorem Tryz.lFormatInt:Go.Proofs.LaysM.n173 Tryz.prog Tryz.lFormatInt_ren:={
 mixed:=zw
 f129:=Tryz.func202.trans (vw some zw)
 f173:=Tryz.func95.trans (vw some zw)
 f246:=Tryz.func123.trans (vw some zw)
 f283:=Tryz.func167.trans (vw some zw)
 f284:=Tryz.func168.trans (vw some zw)
 f285:=Tryz.func169.trans (vw some zw)
 f286:=Tryz.func170.trans (vw some zw)
 f317:=Tryz.func201.trans (vw some zw)
 f318:=Tryz.func203.trans (vw some zw)
 f319:=Tryz.func204.trans (vw some zw)
 f320:=Tryz.func205.trans (vw some zw)
 f337:=Tryz.func214.trans (vw some zw)
 f338:=Tryz.func188.trans (vw some zw)
 t0:=rD
 a0:=oq
 z0:=pg
 v0:=qo
 t2:=Tryz.underlying2
 a2:=Tryz.isAgg2
 z2:=Tryz.sizeOf2
 v2:=Tryz.zeroValue2
 t3:=uU
 a3:=qQ
 z3:=qj
 v3:=rY
 t4:=si
 a4:=qP
 z4:=qh
 v4:=rX
 t5:=uM
 a5:=qw
 z5:=rM
 v5:=sS
 t9:=tK
 a9:=qO
 z9:=qg
 v9:=rW
 t20:=qY
 a20:=oD
 z20:=oU
 v20:=qI
 t37:=rU
 a37:=oQ
 z37:=ow
 v37:=qX
 t46:=sU
 a46:=qx
 z46:=rJ
 v46:=sN
 t51:=rV
 a51:=qN
 z51:=qc
 v51:=rP
 t53:=sM
 a53:=oC
 z53:=oP
 v53:=qH
 t171:=qf
 a171:=Tryz.isAgg222
 z171:=Tryz.sizeOf222
 v171:=Tryz.zeroValue222
 t173:=Tryz.underlying225
 a173:=Tryz.isAgg225
 z173:=Tryz.sizeOf225
 v173:=Tryz.zeroValue225
 t212:=og
 a212:=Tryz.isAgg250
 z212:=Tryz.sizeOf250
 v212:=Tryz.zeroValue250
 t213:=Tryz.underlying251
 a213:=Tryz.isAgg251
 z213:=Tryz.sizeOf251
 t232:=oZ
 a232:=Tryz.isAgg271
 z232:=Tryz.sizeOf271
 v232:=Tryz.zeroValue271
 t233:=oW
 a233:=Tryz.isAgg253
 z233:=Tryz.sizeOf253
 v233:=Tryz.zeroValue253
 g17:=zw
 g18:=zw
 g19:=zw
 i0:=zw
 i2:=zw
 i3:=zw
 i4:=zw
 i5:=zw
 i9:=zw
 i20:=zw
 i37:=zw
 i46:=zw
 i51:=zw
 i53:=zw
 i171:=zw
 i173:=zw
 i212:=zw
 i232:=zw
 i233:=zw
 m17:=zw
 m18:=zw
 m19:=by kernel_rfl }
end Go.Proofs
end
section
end
namespace Go.Proofs.YtmomonnlmbljoaaGreatDoor
open Go.V Go.RowKit Go.Shelf Go.Proofs
variable {mL:Int}
noncomputable def a3J:List Value:=[0,0,0,0,0,0,0,0,0,1,1,1,1,1,0,0,0,0,0,0,0,0,0,0,0,0,0,0,0,0,0,0,1,0,0,0,0,0,0,0,0,0,0,0,0,0,0,0,0,0,0,0,0,0,0,0,0,0,0,0,0,0,0,0,0,0,0,0,0,0,0,0,0,0,0,0,0,0,0,0,0,0,0,0,0,0,0,0,0,0,0,0,0,0,0,0,0,0,0,0,0,0,0,0,0,0,0,0,0,0,0,0,0,0,0,0,0,0,0,0,0,0,0,0,0,0,0,0,0,0,0,0,0,0,0,0,0,0,0,0,0,0,0,0,0,0,0,0,0,0,0,0,0,0,0,0,0,0,0,0,0,0,0,0,0,0,0,0,0,0,0,0,0,0,0,0,0,0,0,0,0,0,0,0,0,0,0,0,0,0,0,0,0,0,0,0,0,0,0,0,0,0,0,0,0,0,0,0,0,0,0,0,0,0,0,0,0,0,0,0,0,0,0,0,0,0,0,0,0,0,0,0,0,0,0,0,0,0,0,0,0,0,0,0,0,0,0,0,0,0,0,0,0,0,0,0].map (.int .u8)
noncomputable def b0s:List Value:=[1,10,100,1000,10000,100000,1000000,10000000,100000000,1000000000,10000000000,100000000000,1000000000000,10000000000000,100000000000000,1000000000000000,10000000000000000,100000000000000000,1000000000000000000,10000000000000000000].map (.int .u64)
noncomputable def b3h:List Value:=[0,1,56,2,57,49,28,3,61,58,42,50,38,29,17,4,62,47,59,36,45,43,51,22,53,39,33,30,24,18,12,5,63,55,48,27,60,41,37,16,46,35,44,21,52,32,23,11,54,26,40,15,34,20,31,10,25,14,19,9,13,8,7,6].map (.int .u8)
noncomputable def b3E:List Value:=[0,1,28,2,29,14,24,3,30,22,20,15,25,17,4,8,31,27,13,23,21,19,16,7,26,12,18,6,11,5,10,9].map (.int .u8)
noncomputable def I5 (m:Int):a2Q:=[a3J,[],b0s,[.int .i64 m],b3h,b3E,[]]
noncomputable def a0O:List (Nat×List UInt8):=[(0,[117,110,114,101,97,99,104,97,98,108,101]),(1,[110,111,112]),(2,[98,108,111,99,107]),(3,[108,111,111,112]),(4,[105,102]),(5,[101,108,115,101]),(11,[101,110,100]),(12,[98,114]),(13,[98,114,95,105,102]),(14,[98,114,95,116,97,98,108,101]),(15,[114,101,116,117,114,110]),(16,[99,97,108,108]),(17,[99,97,108,108,95,105,110,100,105,114,101,99,116]),(26,[100,114,111,112]),(27,[115,101,108,101,99,116]),(28,[115,101,108,101,99,116]),(32,[108,111,99,97,108,46,103,101,116]),(33,[108,111,99,97,108,46,115,101,116]),(34,[108,111,99,97,108,46,116,101,101]),(35,[103,108,111,98,97,108,46,103,101,116]),(36,[103,108,111,98,97,108,46,115,101,116]),(37,[116,97,98,108,101,46,103,101,116]),(38,[116,97,98,108,101,46,115,101,116]),(40,[105,51,50,46,108,111,97,100]),(41,[105,54,52,46,108,111,97,100]),(44,[105,51,50,46,108,111,97,100,56,95,115]),(45,[105,51,50,46,108,111,97,100,56,95,117]),(46,[105,51,50,46,108,111,97,100,49,54,95,115]),(47,[105,51,50,46,108,111,97,100,49,54,95,117]),(48,[105,54,52,46,108,111,97,100,56,95,115]),(49,[105,54,52,46,108,111,97,100,56,95,117]),(50,[105,54,52,46,108,111,97,100,49,54,95,115]),(51,[105,54,52,46,108,111,97,100,49,54,95,117]),(52,[105,54,52,46,108,111,97,100,51,50,95,115]),(53,[105,54,52,46,108,111,97,100,51,50,95,117]),(54,[105,51,50,46,115,116,111,114,101]),(55,[105,54,52,46,115,116,111,114,101]),(58,[105,51,50,46,115,116,111,114,101,56]),(59,[105,51,50,46,115,116,111,114,101,49,54]),(60,[105,54,52,46,115,116,111,114,101,56]),(61,[105,54,52,46,115,116,111,114,101,49,54]),(62,[105,54,52,46,115,116,111,114,101,51,50]),(63,[109,101,109,111,114,121,46,115,105,122,101]),(64,[109,101,109,111,114,121,46,103,114,111,119]),(65,[105,51,50,46,99,111,110,115,116]),(66,[105,54,52,46,99,111,110,115,116]),(69,[105,51,50,46,101,113,122]),(70,[105,51,50,46,101,113]),(71,[105,51,50,46,110,101]),(72,[105,51,50,46,108,116,95,115]),(73,[105,51,50,46,108,116,95,117]),(74,[105,51,50,46,103,116,95,115]),(75,[105,51,50,46,103,116,95,117]),(76,[105,51,50,46,108,101,95,115]),(77,[105,51,50,46,108,101,95,117]),(78,[105,51,50,46,103,101,95,115]),(79,[105,51,50,46,103,101,95,117]),(80,[105,54,52,46,101,113,122]),(81,[105,54,52,46,101,113]),(82,[105,54,52,46,110,101]),(83,[105,54,52,46,108,116,95,115]),(84,[105,54,52,46,108,116,95,117]),(85,[105,54,52,46,103,116,95,115]),(86,[105,54,52,46,103,116,95,117]),(87,[105,54,52,46,108,101,95,115]),(88,[105,54,52,46,108,101,95,117]),(89,[105,54,52,46,103,101,95,115]),(90,[105,54,52,46,103,101,95,117]),(103,[105,51,50,46,99,108,122]),(104,[105,51,50,46,99,116,122]),(105,[105,51,50,46,112,111,112,99,110,116]),(106,[105,51,50,46,97,100,100]),(107,[105,51,50,46,115,117,98]),(108,[105,51,50,46,109,117,108]),(109,[105,51,50,46,100,105,118,95,115]),(110,[105,51,50,46,100,105,118,95,117]),(111,[105,51,50,46,114,101,109,95,115]),(112,[105,51,50,46,114,101,109,95,117]),(113,[105,51,50,46,97,110,100]),(114,[105,51,50,46,111,114]),(115,[105,51,50,46,120,111,114]),(116,[105,51,50,46,115,104,108]),(117,[105,51,50,46,115,104,114,95,115]),(118,[105,51,50,46,115,104,114,95,117]),(119,[105,51,50,46,114,111,116,108]),(120,[105,51,50,46,114,111,116,114]),(121,[105,54,52,46,99,108,122]),(122,[105,54,52,46,99,116,122]),(123,[105,54,52,46,112,111,112,99,110,116]),(124,[105,54,52,46,97,100,100]),(125,[105,54,52,46,115,117,98]),(126,[105,54,52,46,109,117,108]),(127,[105,54,52,46,100,105,118,95,115]),(128,[105,54,52,46,100,105,118,95,117]),(129,[105,54,52,46,114,101,109,95,115]),(130,[105,54,52,46,114,101,109,95,117]),(131,[105,54,52,46,97,110,100]),(132,[105,54,52,46,111,114]),(133,[105,54,52,46,120,111,114]),(134,[105,54,52,46,115,104,108]),(135,[105,54,52,46,115,104,114,95,115]),(136,[105,54,52,46,115,104,114,95,117]),(137,[105,54,52,46,114,111,116,108]),(138,[105,54,52,46,114,111,116,114]),(167,[105,51,50,46,119,114,97,112,95,105,54,52]),(172,[105,54,52,46,101,120,116,101,110,100,95,105,51,50,95,115]),(173,[105,54,52,46,101,120,116,101,110,100,95,105,51,50,95,117]),(192,[105,51,50,46,101,120,116,101,110,100,56,95,115]),(193,[105,51,50,46,101,120,116,101,110,100,49,54,95,115]),(194,[105,54,52,46,101,120,116,101,110,100,56,95,115]),(195,[105,54,52,46,101,120,116,101,110,100,49,54,95,115]),(196,[105,54,52,46,101,120,116,101,110,100,51,50,95,115]),(208,[114,101,102,46,110,117,108,108]),(209,[114,101,102,46,105,115,95,110,117,108,108]),(210,[114,101,102,46,102,117,110,99]),(64520,[109,101,109,111,114,121,46,105,110,105,116]),(64521,[100,97,116,97,46,100,114,111,112]),(64522,[109,101,109,111,114,121,46,99,111,112,121]),(64523,[109,101,109,111,114,121,46,102,105,108,108]),(64524,[116,97,98,108,101,46,105,110,105,116]),(64525,[101,108,101,109,46,100,114,111,112]),(64526,[116,97,98,108,101,46,99,111,112,121]),(64527,[116,97,98,108,101,46,103,114,111,119]),(64528,[116,97,98,108,101,46,115,105,122,101]),(64529,[116,97,98,108,101,46,102,105,108,108])]
theorem a6G:tab.ng<=(I5 mL).length:=wP 7
theorem a3e:∀l∈(I5 mL),∀v∈l,plain v=true:=by have h:((I5 mL).all λl=>l.all plain)=true:=zw;intro l hl v hv;exact rE.1 (rE.1 h l hl) v hv
theorem d2o:∀c,c<256->a3J[c]?=some (.int .u8 (if Lib.isSp (UInt8.ofNat c)then 1 else 0)):=by have h:(List.range 256).map (λc=>a3J[c]?)=(List.range 256).map (λc=>some (Value.int .u8 (if Lib.isSp (UInt8.ofNat c)then 1 else 0))):=zw;intro c hc;exact List.map_inj_left.1 h c (uH.2 hc)
theorem c5Z:K3 Tryz.prog tab (I5 mL) 122 (b6U b1J):=c2x λbs xs h=>by obtain⟨s,rfl,h1,h2,rfl⟩:=c4o h;refine⟨rfl,?_,λw hL=>⟨V5 Tryz.func122 zw rfl,?_⟩⟩;rw[M5];intro x hx;obtain⟨l,_,rfl⟩:=uQ.1 hx;rfl;refine(Go.Proofs.Any.strings_Fields_core Tryz.lFields zw s w h1 h2 λc hc=>?_).mono λe w' hq=>?_;exact hL.cell 0 a3J rfl c _ (d2o c hc);obtain⟨rfl,rfl⟩:=hq;exact⟨zq,_,rfl⟩
noncomputable def d2Q:Nat->Option (List Value->M Value):=M7 (λ_=>none) 122 (b6U b1J)
theorem c5C:a2M Tryz.prog tab (I5 mL) d2Q:=a9V c3O c5Z
noncomputable def c7U (x:Nat×List UInt8):List Value:=[.int .i64 (.ofNat x.1),.string ⟨⟨x.2⟩⟩]
noncomputable def c8E:List (List Value):=K4 c7U a0O
noncomputable def d5E (r:Option ((Ex×(List Value×Log))×S)):Option Log:=match r with
 |some x=>match x.1.1 with|.exit _=>none|_=>some x.1.2.2
 |none=>none
noncomputable def b8L:Code:=match Tryz.f120.body with|some c=>c|none=>.skip
noncomputable def d2h (mL:Int)(l:Nat):Option Log:=d5E (a3z Tryz.prog tab (a7o Tryz.prog tab d2Q 400) 400 b8L (Value.func (.yield l) #[] #[]::a0l 33) [] (Go.V.a3p (I5 mL)))
theorem d1v (mL l):d2h mL l=some (K4 (λx=>(l,x)) c8E):=zw
section
attribute [local go_sem] Oper.semAt_some
theorem d0X {r L}(h:d5E r=some L):∃ex fr s,r=some ((ex,(fr,L)),s)/\∀id,ex≠.exit id:=by cases r with|none=>cases h|some x=>obtain⟨⟨ex,fr,log⟩,s⟩:=x;cases ex with|exit id=>cases h|normal=>cases h;exact⟨.normal,fr,s,rfl,λ_ q=>ze⟩|ret=>cases h;exact⟨.ret,fr,s,rfl,λ_ q=>ze⟩
theorem c8D:c8E=a0O.map c7U:=a0N _ _
theorem b4X {w}(hL:LaidV (I5 mL) w){B m}(hB:B<=w.heap.size):SeqStopsK Fence.wide m Tryz.prog 120 #[] (λx=>(c7U x).toArray) (KeepsR (RB (I5 mL) B)) (λxs=>xs=a0O) (λpre=>pre<+:a0O) a0O.length w:=by refine b9H V7 M9 a6G a3e c5C (n:=400) (c:=b8L) Tryz.func120 rfl rfl (λl=>?_) hL hB hL.size;obtain⟨ex,fr',s',hr,hex⟩:=d0X (d1v mL l);have e33:a0l 33=List.replicate (Tryz.f120.ntmps-1) undef:=b4a 33;rw[e33,a0N,c8D,tq]at hr;exact⟨ex,fr',s',hr,hex⟩
theorem b7p (n w):CallsIn Fence.wide n Tryz.prog 89 #[] w λe W=>e=.returned (.func (.func 120) #[] #[])/\W=w:=by refine callsIn_of_wp Tryz.func89 rfl trivial ?_ rfl;simp only[Tryz.ntmps89,sO,uq,Nat.reduceSub,pY,pX,oK,pG,vI];gi_wp2;exact⟨rfl,_,results_tmp rfl _ _ _,rfl,rfl⟩
theorem a9k (W:World)(v t):(W.alloc (.cells #[v] t)).cell? ⟨W.heap.size,0,none⟩=some v/\(W.alloc (.cells #[v] t)).frozen? ⟨W.heap.size,0,none⟩=false:=by have h:(W.alloc (.cells #[v] t)).heap[W.heap.size]?=some (.cells #[v] t (0,0)):=World.alloc_heap_new W _;constructor;unfold World.cell?;rw[h];rfl;unfold World.frozen?;rw[h];rfl
theorem a9i {W:World}{a v}(o)(h:W.cell? a=some v):(W.alloc o).cell? a=some v:=tT h (World.grownBy_alloc W o none) (λr q=>ze)
theorem b9E {W:World}{a v}(o)(h:W.cell? a=some v)(hf:W.frozen? a=false):(W.alloc o).frozen? a=false:=(nV h (World.grownBy_alloc W o none) (λr q=>ze)).trans hf
theorem c2F {R A B C}(h:KeepsR R A B)(k:KeepsR R B C):KeepsR R A C:=⟨vR h.size k.size,λi o hi ho hc=>k.same i o hi (h.same i o hi ho hc) hc⟩
theorem c2r {R}(W l o o')(h:W.heap[l]?=some o)(h1:o.isCells=false)(h2:o.isWalk=false):KeepsR R W (W.putObj l o'):=⟨by simp[World.putObj],λk ok hk hok hc=>by by_cases hkl:k=l;subst hkl;rw[h]at hok;cases hok;rcases hc with hc|hc;rw[h1]at hc;cases hc;rw[h2]at hc;cases hc;rw[World.putObj_heap_other hkl];exact hok⟩
theorem b5c {R}(W):KeepsR R W W:=⟨wP _,λ_ _ _ h _=>h⟩
noncomputable def b1K (op:Int):ByteArray:=match a0O.find? (λx=>(Int.ofNat x.1)==op)with|some x=>⟨⟨x.2⟩⟩|none=>ByteArray.empty
set_option maxHeartbeats 2000000 in theorem c5v (n:Nat)(hn:3<=n)(op:Int)(w:World)(hL:LaidV (I5 mL) w):CallsIn Fence.wide n Tryz.prog 35 #[.int .i64 op] w λe W'=>e=.returned (.string (b1K op))/\Below w.heap.size w W':=by
 have h1:1<=n:=zy;refine callsIn_of_wp_marks Tryz.func35 rfl trivial ?_ rfl;simp only[Tryz.ntmps35,sO,wE,uq,Nat.reduceAdd,Nat.reduceSub,pY,pX,oK,pG,vI,ut];gi_wp2;refine⟨trivial,(b7p (n-1) _).mono ?_⟩;rintro e w' ⟨rfl,rfl⟩;gi_wp2;have c0:=a9k w (.int .i64 op) 22;have c1:=a9k (w.alloc (.cells #[.int .i64 op] 22)) (.string ⟨#[]⟩) 9;simp only[World.size_alloc]at c1;have hB0:Below w.heap.size w ((w.alloc (.cells #[.int .i64 op] 22)).alloc (.cells #[.string ⟨#[]⟩] 9)):=((rZ _ w).alloc (wP _) _).alloc zq _;refine wpIn_rangeFunc_ownF rfl h1 (gf:=120) (lb:=#[]) rfl trivial (nY Tryz.func120 zw rfl) (b4X (hL.below hB0 hL.size) (B:=w.heap.size+2) zq) c2F (λW l o o' _ h1 h2 h3=>c2r W l o o' h1 h2 h3) (rZ _ _) (λ_=>rfl) (λpre W=>((∀y∈pre,Int.ofNat y.1≠op)/\W.cell? ⟨w.heap.size,0,none⟩=some (.int .i64 op)/\W.cell? ⟨w.heap.size+1,0,none⟩=some (.string ⟨#[]⟩)/\W.frozen? ⟨w.heap.size+1,0,none⟩=false)/\Below w.heap.size w W) (λc pre W=>(c=.ret/\(∃q y,pre=q++[y]/\(∀x∈q,Int.ofNat x.1≠op)/\Int.ofNat y.1=op/\W.cell? ⟨w.heap.size+1,0,none⟩=some (.string ⟨⟨y.2⟩⟩)))/\Below w.heap.size w W) (nU (Own.from (λs A B row hs hg hr=>⟨hs.1,tT hs.2.1 hg hr,tT hs.2.2.1 hg hr,(nV hs.2.2.1 hg hr).trans hs.2.2.2⟩) _) (oO (wP _) zl)) (λc=>nU (Own.from (λs A B row hs hg hr=>⟨hs.1,let⟨q,y,e1,e2,e3,e4⟩:=hs.2;⟨q,y,e1,e2,e3,tT e4 hg hr⟩⟩) _) (oO (wP _) zl)) ⟨⟨zq,a9i _ c0.1,c1.1,c1.2⟩,hB0⟩ (λx=>{tmps:=#[.int .i64 op,.pointer (some ⟨w.heap.size,0,none⟩),.pointer (some ⟨w.heap.size+1,0,none⟩),.int .i64 (Int.ofNat x.1),.string ⟨⟨x.2⟩⟩,.func (.func 120) #[] #[],.int .i64 (Int.ofNat x.1),.string ⟨⟨x.2⟩⟩,undef,undef,undef,undef],defers:=[]}) ?assign ?body ?done ?stop;case assign=>intro l x W K hK;gi_wp2;exact hK
 case body=>rintro l pre x W ⟨⟨hp,hcw,hcr,hfr⟩,hB⟩ _;gi_wp2;rename_i hx;have hx':Int.ofNat x.1=op:=eq_of_beq hx;exact⟨sj _ _ _,⟨rfl,pre,x,rfl,hp,hx',uD _ _ _ (by rw[hcr];rfl)⟩,hB.setCell (p:=⟨w.heap.size+1,0,none⟩) zq _⟩;rename_i hx;exact⟨KeepsOthers.refl _,b5c _,⟨λy hy=>(uf.1 hy).elim (hp y) (λe e'=>by simp at e;subst e;subst e';simp at hx),hcw,hcr,hfr⟩,hB⟩
 case done=>
  rintro D ys W hD rfl ⟨⟨hne,_,hcr,hfr⟩,hB⟩ hK;gi_wp2;have hK':=(sj W ⟨w.heap.size+1,0,none⟩ (.string ⟨#[]⟩)).same D _ hK rfl;refine⟨zq,.inl ⟨_,_,rfl,qG hK',?_⟩⟩;have hc5:=tT (uD W ⟨w.heap.size+1,0,none⟩ (.string ⟨#[]⟩) (by rw[hcr];rfl)) (rT _ D (.deferred none)) (λr e=>by cases e;exact⟨_,hK',rfl⟩);refine⟨.string ⟨#[]⟩,?_,?_,(hB.setCell (p:=⟨w.heap.size+1,0,none⟩) zq _).trans (belowK_b (w:=w) (wP _) _ D _ _ (by simp at hD;omega) hK' rfl rfl)⟩;simp[results,Tryz.f35,go_sem,hc5];have:a0O.find? (λx=>(Int.ofNat x.1)==op)=none:=by rw[om];intro x hx;simpa using hne x hx
  unfold b1K;rw[this];rfl
 case stop=>rintro D c pre W hD hpre ⟨⟨rfl,q,y,rfl,hq,hy,hcr⟩,hB⟩ hK;gi_wp2;refine⟨zq,.inl ⟨_,_,rfl,qG hK,?_⟩⟩;have hc5:=tT hcr (rT _ D (.deferred none)) (λr e=>by cases e;exact⟨_,hK,rfl⟩);refine⟨.string ⟨⟨y.2⟩⟩,?_,?_,hB.trans (belowK_b (w:=w) (wP _) W D _ _ (by simp at hD;omega) hK rfl rfl)⟩;simp[results,Tryz.f35,go_sem,hc5];have:a0O.find? (λx=>(Int.ofNat x.1)==op)=some y:=yK;unfold b1K;rw[this]
theorem b0V (W:World)(b c v)(h:b≠c):(W.setCell ⟨b,0,none⟩ v).cell? ⟨c,0,none⟩=W.cell? ⟨c,0,none⟩:=by apply oI;intro e;cases e;exact h rfl
noncomputable def b6p (s:ByteArray):Value:=match a0O.find? (λx=>x.2==s.toList)with|some x=>.tuple #[.int .i64 (Int.ofNat x.1),.bool true]|none=>.tuple #[.int .i64 0,.bool false]
set_option maxHeartbeats 2000000 in theorem d8q (n:Nat)(hn:3<=n)(s:ByteArray)(w:World)(hL:LaidV (I5 mL) w):CallsIn Fence.wide n Tryz.prog 109 #[.string s] w λe W'=>e=.returned (b6p s)/\Below w.heap.size w W':=by
 have h1:1<=n:=zy;refine callsIn_of_wp_marks Tryz.func109 rfl trivial ?_ rfl;simp only[Tryz.ntmps109,sO,wE,uq,Nat.reduceAdd,Nat.reduceSub,pY,pX,oK,pG,vI,ut];gi_wp2;refine⟨trivial,(b7p (n-1) _).mono ?_⟩;rintro e w' ⟨rfl,rfl⟩;gi_wp2;have c0:=a9k w (.string s) 9;have c1:=a9k (w.alloc (.cells #[.string s] 9)) (.int .i64 0) 22;have c2:=a9k ((w.alloc (.cells #[.string s] 9)).alloc (.cells #[.int .i64 0] 22)) (.bool false) 4;simp only[World.size_alloc]at c1 c2;have hB0:Below w.heap.size w (((w.alloc (.cells #[.string s] 9)).alloc (.cells #[.int .i64 0] 22)).alloc (.cells #[.bool false] 4)):=(((rZ _ w).alloc (wP _) _).alloc zq _).alloc zl _;refine wpIn_rangeFunc_ownF rfl h1 (gf:=120) (lb:=#[]) rfl trivial (nY Tryz.func120 zw rfl) (b4X (hL.below hB0 hL.size) (B:=w.heap.size+3) zq) c2F (λW l o o' _ h1 h2 h3=>c2r W l o o' h1 h2 h3) (rZ _ _) (λ_=>rfl) (λpre W=>((∀y∈pre,y.2≠s.toList)/\W.cell? ⟨w.heap.size,0,none⟩=some (.string s)/\(W.cell? ⟨w.heap.size+1,0,none⟩=some (.int .i64 0)/\W.frozen? ⟨w.heap.size+1,0,none⟩=false)/\W.cell? ⟨w.heap.size+1+1,0,none⟩=some (.bool false)/\W.frozen? ⟨w.heap.size+1+1,0,none⟩=false)/\Below w.heap.size w W) (λc pre W=>(c=.ret/\(∃q y,pre=q++[y]/\(∀x∈q,x.2≠s.toList)/\y.2=s.toList/\W.cell? ⟨w.heap.size+1,0,none⟩=some (.int .i64 (Int.ofNat y.1))/\W.cell? ⟨w.heap.size+1+1,0,none⟩=some (.bool true)))/\Below w.heap.size w W) (nU (Own.from (λs A B row hs hg hr=>⟨hs.1,tT hs.2.1 hg hr,⟨tT hs.2.2.1.1 hg hr,(nV hs.2.2.1.1 hg hr).trans hs.2.2.1.2⟩,tT hs.2.2.2.1 hg hr,(nV hs.2.2.2.1 hg hr).trans hs.2.2.2.2⟩) _) (oO (wP _) zl)) (λc=>nU (Own.from (λs A B row hs hg hr=>⟨hs.1,let⟨q,y,e1,e2,e3,e4,e5⟩:=hs.2;⟨q,y,e1,e2,e3,tT e4 hg hr,tT e5 hg hr⟩⟩) _) (oO (wP _) zl)) ⟨⟨zq,a9i _ (a9i _ c0.1),⟨a9i _ c1.1,b9E _ c1.1 c1.2⟩,c2.1,c2.2⟩,hB0⟩ (λx=>{tmps:=#[.string s,.pointer (some ⟨w.heap.size,0,none⟩),.pointer (some ⟨w.heap.size+1,0,none⟩),.pointer (some ⟨w.heap.size+1+1,0,none⟩),.int .i64 (Int.ofNat x.1),.string ⟨⟨x.2⟩⟩,.func (.func 120) #[] #[],.int .i64 (Int.ofNat x.1),.string ⟨⟨x.2⟩⟩,undef,undef,undef,undef],defers:=[]}) ?assign ?body ?done ?stop;case assign=>intro l x W K hK;gi_wp2;exact hK
 case body=>
  rintro l pre x W ⟨⟨hp,hcw,⟨hcr,hfr⟩,hcb,hfb⟩,hB⟩ _;gi_wp2;rename_i hx;have hx':x.2=s.toList:=eq_of_beq hx;have e1:∀v,(W.setCell ⟨w.heap.size+1,0,none⟩ v).cell? ⟨w.heap.size+1+1,0,none⟩=some (.bool false):=by intro v;rw[b0V _ _ _ _ zy];exact hcb
  refine⟨(sj _ _ _).trans (sj _ _ _),⟨rfl,pre,x,rfl,hp,hx',?_,uD _ _ _ (by rw[e1];rfl)⟩,(hB.setCell (p:=⟨w.heap.size+1,0,none⟩) zq _).setCell (p:=⟨w.heap.size+1+1,0,none⟩) zl _⟩;rw[b0V _ _ _ _ zy];exact uD _ _ _ (by rw[hcr];rfl);rename_i hx;exact⟨KeepsOthers.refl _,b5c _,⟨λy hy=>(uf.1 hy).elim (hp y) (λe e'=>by simp at e;subst e;rw[e']at hx;simp at hx),hcw,⟨hcr,hfr⟩,hcb,hfb⟩,hB⟩
 case done=>
  rintro D ys W hD rfl ⟨⟨hne,_,⟨hcr,hfr⟩,hcb,hfb⟩,hB⟩ hK;gi_wp2;have e1:(W.setCell ⟨w.heap.size+1,0,none⟩ (.int .i64 0)).cell? ⟨w.heap.size+1+1,0,none⟩=some (.bool false):=by rw[b0V _ _ _ _ zy];exact hcb
  have e2:=uD (W.setCell ⟨w.heap.size+1,0,none⟩ (.int .i64 0)) ⟨w.heap.size+1+1,0,none⟩ (.bool false) (by rw[e1];rfl);have e3:((W.setCell ⟨w.heap.size+1,0,none⟩ (.int .i64 0)).setCell ⟨w.heap.size+1+1,0,none⟩ (.bool false)).cell? ⟨w.heap.size+1,0,none⟩=some (.int .i64 0):=by rw[b0V _ _ _ _ zy];exact uD _ _ _ (by rw[hcr];rfl)
  have hK':=((sj W ⟨w.heap.size+1,0,none⟩ (.int .i64 0)).trans (sj _ ⟨w.heap.size+1+1,0,none⟩ (.bool false))).same D _ hK rfl;refine⟨zq,.inl ⟨_,_,rfl,qG hK',?_⟩⟩;have hc5:=tT e2 (rT _ D (.deferred none)) (λr e=>by cases e;exact⟨_,hK',rfl⟩);have hc6:=tT e3 (rT _ D (.deferred none)) (λr e=>by cases e;exact⟨_,hK',rfl⟩);refine⟨.tuple #[.int .i64 0,.bool false],?_,?_,((hB.setCell (p:=⟨w.heap.size+1,0,none⟩) zq _).setCell (p:=⟨w.heap.size+1+1,0,none⟩) zl _).trans (belowK_b (w:=w) (wP _) _ D _ _ (by simp at hD;omega) hK' rfl rfl)⟩;simp[results,Tryz.f109,go_sem,hc5,hc6];have:a0O.find? (λx=>x.2==s.toList)=none:=by rw[om];intro x hx;simpa using hne x hx
  unfold b6p;rw[this]
 case stop=>rintro D c pre W hD hpre ⟨⟨rfl,q,y,rfl,hq,hy,hcr,hcb⟩,hB⟩ hK;gi_wp2;refine⟨zq,.inl ⟨_,_,rfl,qG hK,?_⟩⟩;have hc5:=tT hcr (rT _ D (.deferred none)) (λr e=>by cases e;exact⟨_,hK,rfl⟩);have hc6:=tT hcb (rT _ D (.deferred none)) (λr e=>by cases e;exact⟨_,hK,rfl⟩);refine⟨.tuple #[.int .i64 (Int.ofNat y.1),.bool true],?_,?_,hB.trans (belowK_b (w:=w) (wP _) W D _ _ (by simp at hD;omega) hK rfl rfl)⟩;simp[results,Tryz.f109,go_sem,hc5,hc6];have:a0O.find? (λx=>x.2==s.toList)=some y:=yK;unfold b6p;rw[this]
end
noncomputable def c0Q (l:List (Nat×List UInt8))(m:Nat):List UInt8:=List.rec (motive:=λ_=>List UInt8) [] (λx _ ih=>match Nat.beq x.1 m with|true=>x.2|false=>ih) l
theorem d2K (m:Nat)(l:List (Nat×List UInt8)):(match l.find? (λx=>(Int.ofNat x.1)==Int.ofNat m)with|some x=>(⟨⟨x.2⟩⟩:ByteArray)|none=>ByteArray.empty)=⟨⟨c0Q l m⟩⟩:=by
 induction l with
  |nil=>rfl|cons x l ih=>
   show _=(⟨⟨match Nat.beq x.1 m with|true=>x.2|false=>c0Q l m⟩⟩:ByteArray);rw[nX];cases hb:Nat.beq x.1 m with
    |true=>
     have:(Int.ofNat x.1==Int.ofNat m)=true:=by simp[wK hb]
     rw[this]|false=>
     have:(Int.ofNat x.1==Int.ofNat m)=false:=by
      have hne:x.1≠m:=λe=>by rw[e]at hb;simp at hb
      rw[beq_eq_false_iff_ne];intro e;exact hne (qM e)
     rw[this];exact ih
noncomputable def c0K (bs:List Value):Option Value:=match bs with
 |[]=>none|v::rest=>match rest with
  |[]=>match v with
   |.int k n=>match k with
    |.i64=>match n with|.ofNat m=>some (.string ⟨⟨c0Q a0O m⟩⟩)|.negSucc _=>none
    |_=>none
   |_=>none
  |_::_=>none
theorem c3N {bs v}(h:c0K bs=some v):J7 (K5 8) bs=true/\K5 8 v=true/\a7g Tryz.prog (I5 mL) 35 bs v:=by unfold c0K at h;split at h;cases h;split at h;split at h;split at h;split at h;rename_i m;cases h;refine⟨rfl,rfl,λw hL=>⟨V5 Tryz.func35 zw rfl,?_⟩⟩;refine(pq.1 (c5v 3 zy (Int.ofNat m) w hL)).mono λe W' hq=>?_;obtain⟨rfl,hb⟩:=hq;refine⟨?_,hb⟩;have e:b1K (Int.ofNat m)=⟨⟨c0Q a0O m⟩⟩:=d2K m a0O;rw[e];cases h;cases h;cases h;cases h
noncomputable def a9f (l:List (Nat×List UInt8))(b:List UInt8):Value:=List.rec (motive:=λ_=>Value) (.tuple ⟨[.int .i64 (.ofNat 0),.bool false]⟩) (λx _ ih=>match beqBytes x.2 b with|true=>.tuple ⟨[.int .i64 (.ofNat x.1),.bool true]⟩|false=>ih) l
noncomputable def b7o (bs:List Value):Option Value:=match bs with
 |[]=>none|v::rest=>match rest with
  |[]=>match v with|.string s=>some (a9f a0O s.data.toList)|_=>none
  |_::_=>none
theorem d1U (b:List UInt8)(l:List (Nat×List UInt8)):(match l.find? (λx=>x.2==b)with|some x=>Value.tuple #[.int .i64 (Int.ofNat x.1),.bool true]|none=>.tuple #[.int .i64 0,.bool false])=a9f l b:=by induction l with|nil=>rfl|cons x l ih=>show _=(match beqBytes x.2 b with|true=>Value.tuple ⟨[.int .i64 (.ofNat x.1),.bool true]⟩|false=>a9f l b);rw[nX,a2p];cases hb:x.2==b with|true=>rfl|false=>exact ih
theorem c4a (b l):K5 8 (a9f l b)=true:=by induction l with|nil=>rfl|cons x l ih=>show K5 8 (match beqBytes x.2 b with|true=>Value.tuple ⟨[.int .i64 (.ofNat x.1),.bool true]⟩|false=>a9f l b)=true;cases beqBytes x.2 b with|true=>rfl|false=>exact ih
theorem c4l {bs v}(h:b7o bs=some v):J7 (K5 8) bs=true/\K5 8 v=true/\a7g Tryz.prog (I5 mL) 109 bs v:=by
 unfold b7o at h;split at h;cases h;split at h;split at h;rename_i s;cases h;refine⟨rfl,c4a _ _,λw hL=>⟨V5 Tryz.func109 zw rfl,?_⟩⟩;refine(pq.1 (d8q 3 zy s w hL)).mono λe W' hq=>?_;obtain⟨rfl,hb⟩:=hq;refine⟨?_,hb⟩;have e:b6p s=a9f a0O s.data.toList:=by rw[<-d1U,<-Lib.toList_data];rfl
 rw[e];cases h;cases h
noncomputable def e0O:Nat->Option (List Value->M Value):=b0C (b0C d2Q 35 c0K) 109 b7o
theorem d6j:a2M Tryz.prog tab (I5 mL) e0O:=a9X (a9X c5C λ_ _ h=>c3N h) λ_ _ h=>c4l h
end Go.Proofs.YtmomonnlmbljoaaGreatDoor
section
end
namespace Go.Proofs.YtmomonnlmbljoaaGreatDoor
open Go.V Go.RowKit Go.Shelf Go.Proofs
variable {mL:Int}
theorem b6a {bs v}(h:b1a bs=some v):J7 (K5 8) bs=true/\K5 8 v=true/\a7g Tryz.prog (I5 mL) 125 bs v:=by
 unfold b1a at h;split at h;rename_i s sub;cases hb:Nat.blt (z8 s.data.toList) 4294967281 with
  |false=>rw[hb]at h;cases h|true=>
   rw[hb]at h;cases h;refine⟨rfl,rfl,λw hL=>⟨V5 Tryz.func125 zw rfl,?_⟩⟩;have hs:s.size<4294967281:=by rw[G8]at hb;simpa using hb
   refine(Any.strings_Contains Tryz.lContains s sub mL w hs (hL.cell 3 _ rfl 0 _ rfl)).mono λe w' hq=>?_;obtain⟨rfl,rfl⟩:=hq;exact⟨by rw[c3l],rZ _ _⟩
 cases h
theorem c9s:Builder.Extra Tryz.prog Tryz.lRepeat_ren where
 sizeBuilder:=zw
 liesBuilder:=zw
 t5:=uM
 a5:=qw
 z5:=rM
 v5:=sS
 infoByte:=zw
 cellsByte:=zw
 sizeByte:=zw
 neB5:=zu
theorem b8I:Builder.Extra Tryz.prog Tryz.lJoin_ren where
 sizeBuilder:=zw
 liesBuilder:=zw
 t5:=uM
 a5:=qw
 z5:=rM
 v5:=sS
 infoByte:=zw
 cellsByte:=zw
 sizeByte:=zw
 neB5:=zu
theorem b9C {bs v}(h:b0i bs=some v):J7 (K5 8) bs=true/\K5 8 v=true/\a7g Tryz.prog (I5 mL) 56 bs v:=by
 unfold b0i at h;split at h;rename_i s c;cases hb:Nat.blt c 4294967296&&Nat.ble (z8 s.data.toList*c) 4294967296 with
  |false=>rw[hb]at h;cases h|true=>
   rw[hb]at h;cases h;simp only[wI]at hb;refine⟨rfl,rfl,λw hL=>⟨V5 Tryz.func56 zw rfl,?_⟩⟩;have h1:c<4294967296:=by simpa using hb.1
   have h2:s.size*c<=4294967296:=by have:=vU hb.2;rw[G8]at this;simpa using this
   refine(Any.strings_Repeat Tryz.lRepeat c9s s c w zy zy).mono λe w' hq=>?_;obtain⟨rfl,hq⟩:=hq;exact⟨by rw[c8j],hq⟩
 cases h
theorem d4d:K3 Tryz.prog tab (I5 mL) 96 a8o:=c3P (λ_ _=>V5 Tryz.func96 zw rfl) (λa c sep w=>Any.strings_Join_none Tryz.lJoin b8I a c sep w) (λbk o c xs sep w h1 h2 h3 h4 h5=>Any.strings_Join Tryz.lJoin b8I bk o c xs sep w h1 h2 h3 h4 h5)
theorem d1r:K3 Tryz.prog tab (I5 mL) 163 (λbs=>M.lift (b3v bs)):=c3y λbs v h=>by
 unfold b3v at h;split at h;rename_i x y c;cases hb:Nat.ble c 1 with
  |false=>rw[hb]at h;cases h|true=>
   rw[hb]at h;cases h;refine⟨rfl,rfl,λw=>?_⟩;have hc:=vU hb;have e:(callFunc 163 #[.int .u64 (x:Int),.int .u64 (y:Int),.int .u64 (c:Int)]).run Tryz.prog w= .ok (.value (.tuple #[.int .u64 (((x+y+c)%18446744073709551616:Nat):Int),.int .u64 (((x+y+c)/18446744073709551616:Nat):Int)])) w:=by rw[run_callFunc_extern Tryz.func163 zw zw zw (e:=add64Entry) zw,run_add64 x y c zy zy zy zy];simp only[Result.andThen];congr 5<;>omega
   exact e
 cases h
noncomputable def a6Y:Nat->Option (List Value->M Value):=M7 (M7 (b0C (b0C e0O 125 b1a) 56 b0i) 96 a8o) 163 (λbs=>M.lift (b3v bs))
theorem a5M:a2M Tryz.prog tab (I5 mL) a6Y:=a9V (a9V (a9X (a9X d6j λ_ _ h=>b6a h) λ_ _ h=>b9C h) d4d) d1r
end Go.Proofs.YtmomonnlmbljoaaGreatDoor
