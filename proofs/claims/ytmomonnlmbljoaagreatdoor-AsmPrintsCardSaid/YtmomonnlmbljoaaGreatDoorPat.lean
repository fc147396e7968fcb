import Derived.Test.YtmomonnlmbljoaaGreatDoorPar
section
namespace Go.Proofs.YtmomonnlmbljoaaGreatDoor
open Go.V Go.Proofs
set_option maxRecDepth 100000
set_option linter.unusedVariables false
noncomputable def c19:Code:=a0g Tryz.f19
noncomputable def e1H:Pl:=(.s none .d (.s none .d (.s none .d (.s none (.s none .d (.s none (.s none .d (.s none .d (.s none .d (.s none .d (.s none .d (.s none .d (.s none .d (.s none .d (.s (some [126, 127, 128, 129, 130, 131, 132, 125]) .d (.s none .d (.s (some [147, 148, 149, 150, 151, 146]) .d .d))))))))))) .d)) .d))))
noncomputable def c1j (cb:Cb) (N:Nat) (call:o8) (v50:Value) (v0:Value):M CR:=
 cb.bj CR (bcase (Q5 true v50) (cb.bv R2 (X6 2 v0) fun v53=>
 cb.bv R2 (K7 v53) fun v54=>
 cb.bv R2 (bn .eql 3 (.tmp 49) (.const (.int .i64 (.ofNat 0))) v54 (.int .i64 (.ofNat 0))) fun v55=>
 M.pure (.normal, [v53,v54,v55])) (M.pure (.normal, [undef,undef,undef]))) fun x51 vs52=>O4 x51 (cb.bv CR (W9 v50 (j4 vs52 2) (.bool false)) fun v56=>
 cb.bj CR (bcase (Q5 true v56) (cb.bv R2 (X6 3 v0) fun v59=>
 cb.bv R2 (K7 v59) fun v60=>
 cb.bv R2 (bn .eql 23 (.tmp 54) (.const (.int .u64 (.ofNat 0))) v60 (.int .u64 (.ofNat 0))) fun v61=>
 M.pure (.normal, [v59,v60,v61])) (M.pure (.normal, [undef,undef,undef]))) fun x57 vs58=>O4 x57 (cb.bv CR (W9 v56 (j4 vs58 2) (.bool false)) fun v62=>
 M.pure (.ret v62)) (fun _=>M.fail) M.fail O8) (fun _=>M.fail) M.fail O8
noncomputable def c1t (cb:Cb) (N:Nat) (call:o8) (v0:Value):M CR:=
 cb.bv CR (X6 1 v0) fun v48=>
 cb.bv CR (K7 v48) fun v49=>
 cb.bv CR (bn .eql 3 (.tmp 45) (.const (.int .i64 (.ofNat 0))) v49 (.int .i64 (.ofNat 0))) fun v50=>
 c1j cb N call v50 v0
noncomputable def c1L (cb:Cb) (N:Nat) (call:o8) (v72:Value) (v0:Value):M CR:=
 cb.bj CR (bcase (Q5 true v72) (cb.bv R2 (X6 3 v0) fun v75=>
 cb.bv R2 (K7 v75) fun v76=>
 cb.bv R2 (bn .eql 23 (.tmp 69) (.const (.int .u64 (.ofNat 0))) v76 (.int .u64 (.ofNat 0))) fun v77=>
 M.pure (.normal, [v75,v76,v77])) (M.pure (.normal, [undef,undef,undef]))) fun x73 vs74=>O4 x73 (cb.bv CR (W9 v72 (j4 vs74 2) (.bool false)) fun v78=>
 cb.bj CR (bcase (Q5 true v78) (cb.bv R2 (X6 4 v0) fun v81=>
 cb.bv R2 (a2U 3 v81) fun v82=>
 cb.bc R2 (call 58 [v82]) (fun v83=>
 M.pure (.normal, [v81,v82,v83])) O8) (M.pure (.normal, [undef,undef,undef]))) fun x79 vs80=>O4 x79 (cb.bv CR (W9 v78 (j4 vs80 2) (.bool false)) fun v84=>
 M.pure (.ret v84)) (fun _=>M.fail) M.fail O8) (fun _=>M.fail) M.fail O8
noncomputable def c1g (cb:Cb) (N:Nat) (call:o8) (v65:Value) (v0:Value):M CR:=
 cb.bv CR (bn .eql 3 (.tmp 60) (.const (.int .i64 (.ofNat 0))) v65 (.int .i64 (.ofNat 0))) fun v66=>
 cb.bj CR (bcase (Q5 true v66) (cb.bv R2 (X6 2 v0) fun v69=>
 cb.bv R2 (K7 v69) fun v70=>
 cb.bv R2 (bn .eql 3 (.tmp 64) (.const (.int .i64 (.ofNat 0))) v70 (.int .i64 (.ofNat 0))) fun v71=>
 M.pure (.normal, [v69,v70,v71])) (M.pure (.normal, [undef,undef,undef]))) fun x67 vs68=>O4 x67 (cb.bv CR (W9 v66 (j4 vs68 2) (.bool false)) fun v72=>
 c1L cb N call v72 v0) (fun _=>M.fail) M.fail O8
noncomputable def c1I (cb:Cb) (N:Nat) (call:o8) (v94:Value) (v0:Value):M CR:=
 cb.bj CR (bcase (Q5 true v94) (cb.bv R2 (X6 3 v0) fun v97=>
 cb.bv R2 (K7 v97) fun v98=>
 cb.bv R2 (bn .eql 23 (.tmp 89) (.const (.int .u64 (.ofNat 0))) v98 (.int .u64 (.ofNat 0))) fun v99=>
 M.pure (.normal, [v97,v98,v99])) (M.pure (.normal, [undef,undef,undef]))) fun x95 vs96=>O4 x95 (cb.bv CR (W9 v94 (j4 vs96 2) (.bool false)) fun v100=>
 cb.bj CR (bcase (Q5 true v100) (cb.bv R2 (X6 8 v0) fun v103=>
 cb.bv R2 (K7 v103) fun v104=>
 cb.bc R2 (call 60 [v104]) (fun v105=>
 M.pure (.normal, [v103,v104,v105])) O8) (M.pure (.normal, [undef,undef,undef]))) fun x101 vs102=>O4 x101 (cb.bv CR (W9 v100 (j4 vs102 2) (.bool false)) fun v106=>
 M.pure (.ret v106)) (fun _=>M.fail) M.fail O8) (fun _=>M.fail) M.fail O8
noncomputable def c3e (cb:Cb) (N:Nat) (call:o8) (v0:Value):M CR:=
 cb.bv CR (X6 1 v0) fun v86=>
 cb.bv CR (K7 v86) fun v87=>
 cb.bc CR (call 59 [v87]) (fun v88=>
 cb.bj CR (bcase (Q5 true v88) (cb.bv R2 (X6 2 v0) fun v91=>
 cb.bv R2 (K7 v91) fun v92=>
 cb.bv R2 (bn .eql 3 (.tmp 84) (.const (.int .i64 (.ofNat 0))) v92 (.int .i64 (.ofNat 0))) fun v93=>
 M.pure (.normal, [v91,v92,v93])) (M.pure (.normal, [undef,undef,undef]))) fun x89 vs90=>O4 x89 (cb.bv CR (W9 v88 (j4 vs90 2) (.bool false)) fun v94=>
 c1I cb N call v94 v0) (fun _=>M.fail) M.fail O8) O8
noncomputable def c3f (cb:Cb) (N:Nat) (call:o8) (v122:Value) (vs124:List Value) (v0:Value):M CR:=
 cb.bv CR (W9 v122 (j4 vs124 3) (.bool false)) fun v129=>
 cb.bj CR (bcase (Q5 true v129) (cb.bv R2 (X6 7 v0) fun v132=>
 cb.bv R2 (K7 v132) fun v133=>
 cb.bv R2 (a4X 1 v133 (.int .i64 (.ofNat 0))) fun v134=>
 cb.bv R2 (K7 v134) fun v135=>
 cb.bc R2 (call 61 [v135]) (fun v136=>
 M.pure (.normal, [v132,v133,v134,v135,v136])) O8) (M.pure (.normal, [undef,undef,undef,undef,undef]))) fun x130 vs131=>O4 x130 (cb.bv CR (W9 v129 (j4 vs131 4) (.bool false)) fun v137=>
 M.pure (.ret v137)) (fun _=>M.fail) M.fail O8
noncomputable def c1Z (cb:Cb) (N:Nat) (call:o8) (v116:Value) (v0:Value):M CR:=
 cb.bj CR (bcase (Q5 true v116) (cb.bv R2 (X6 3 v0) fun v119=>
 cb.bv R2 (K7 v119) fun v120=>
 cb.bv R2 (bn .eql 23 (.tmp 109) (.const (.int .u64 (.ofNat 0))) v120 (.int .u64 (.ofNat 0))) fun v121=>
 M.pure (.normal, [v119,v120,v121])) (M.pure (.normal, [undef,undef,undef]))) fun x117 vs118=>O4 x117 (cb.bv CR (W9 v116 (j4 vs118 2) (.bool false)) fun v122=>
 cb.bj CR (bcase (Q5 true v122) (cb.bv R2 (X6 7 v0) fun v125=>
 cb.bv R2 (K7 v125) fun v126=>
 cb.bv R2 (a3U v126) fun v127=>
 cb.bv R2 (bn .eql 3 (.tmp 115) (.const (.int .i64 (.ofNat 1))) v127 (.int .i64 (.ofNat 1))) fun v128=>
 M.pure (.normal, [v125,v126,v127,v128])) (M.pure (.normal, [undef,undef,undef,undef]))) fun x123 vs124=>O4 x123 (c3f cb N call v122 vs124 v0) (fun _=>M.fail) M.fail O8) (fun _=>M.fail) M.fail O8
noncomputable def c2y (cb:Cb) (N:Nat) (call:o8) (v109:Value) (v0:Value):M CR:=
 cb.bv CR (bn .eql 3 (.tmp 100) (.const (.int .i64 (.ofNat 0))) v109 (.int .i64 (.ofNat 0))) fun v110=>
 cb.bj CR (bcase (Q5 true v110) (cb.bv R2 (X6 2 v0) fun v113=>
 cb.bv R2 (K7 v113) fun v114=>
 cb.bv R2 (bn .eql 3 (.tmp 104) (.const (.int .i64 (.ofNat 0))) v114 (.int .i64 (.ofNat 0))) fun v115=>
 M.pure (.normal, [v113,v114,v115])) (M.pure (.normal, [undef,undef,undef]))) fun x111 vs112=>O4 x111 (cb.bv CR (W9 v110 (j4 vs112 2) (.bool false)) fun v116=>
 c1Z cb N call v116 v0) (fun _=>M.fail) M.fail O8
noncomputable def c2U (cb:Cb) (N:Nat) (call:o8) (v3:Value) (v140:Value) (v141:Value) (v142:Value) (v143:Value) (v144:Value) (v145:Value):M R2:=
 cb.bv R2 (bn .eql 3 (.tmp 41) (.const (.int .i64 (.ofNat 16))) v3 (.int .i64 (.ofNat 16))) fun v146=>
 M.pure (.normal, [v140,v141,v142,v143,v144,v145,v146,v146])
noncomputable def b7E (cb:Cb) (N:Nat) (call:o8) (v3:Value) (v140:Value) (v141:Value) (v142:Value) (v143:Value) (v144:Value):M R2:=
 cb.bv R2 (bn .eql 3 (.tmp 41) (.const (.int .i64 (.ofNat 12))) v3 (.int .i64 (.ofNat 12))) fun v145=>
 K5 v145 (
 M.pure (.normal, [v140,v141,v142,v143,v144,v145,undef,v145])) (
 c2U cb N call v3 v140 v141 v142 v143 v144 v145)
noncomputable def b8N (cb:Cb) (N:Nat) (call:o8) (v3:Value) (v140:Value) (v141:Value) (v142:Value) (v143:Value):M R2:=
 cb.bv R2 (bn .eql 3 (.tmp 41) (.const (.int .i64 (.ofNat 9))) v3 (.int .i64 (.ofNat 9))) fun v144=>
 K5 v144 (
 M.pure (.normal, [v140,v141,v142,v143,v144,undef,undef,v144])) (
 b7E cb N call v3 v140 v141 v142 v143 v144)
noncomputable def b7o (cb:Cb) (N:Nat) (call:o8) (v3:Value) (v140:Value) (v141:Value) (v142:Value):M R2:=
 cb.bv R2 (bn .eql 3 (.tmp 41) (.const (.int .i64 (.ofNat 8))) v3 (.int .i64 (.ofNat 8))) fun v143=>
 K5 v143 (
 M.pure (.normal, [v140,v141,v142,v143,undef,undef,undef,v143])) (
 b8N cb N call v3 v140 v141 v142 v143)
noncomputable def b9t (cb:Cb) (N:Nat) (call:o8) (v3:Value) (v140:Value) (v141:Value):M R2:=
 cb.bv R2 (bn .eql 3 (.tmp 41) (.const (.int .i64 (.ofNat 7))) v3 (.int .i64 (.ofNat 7))) fun v142=>
 K5 v142 (
 M.pure (.normal, [v140,v141,v142,undef,undef,undef,undef,v142])) (
 b7o cb N call v3 v140 v141 v142)
noncomputable def b7G (cb:Cb) (N:Nat) (call:o8) (v3:Value) (v140:Value):M R2:=
 cb.bv R2 (bn .eql 3 (.tmp 41) (.const (.int .i64 (.ofNat 4))) v3 (.int .i64 (.ofNat 4))) fun v141=>
 K5 v141 (
 M.pure (.normal, [v140,v141,undef,undef,undef,undef,undef,v141])) (
 b9t cb N call v3 v140 v141)
noncomputable def b7I (cb:Cb) (N:Nat) (call:o8) (v149:Value) (v0:Value):M CR:=
 cb.bj CR (bcase (Q5 true v149) (cb.bv R2 (X6 2 v0) fun v152=>
 cb.bv R2 (K7 v152) fun v153=>
 cb.bv R2 (bn .eql 3 (.tmp 138) (.const (.int .i64 (.ofNat 0))) v153 (.int .i64 (.ofNat 0))) fun v154=>
 M.pure (.normal, [v152,v153,v154])) (M.pure (.normal, [undef,undef,undef]))) fun x150 vs151=>O4 x150 (cb.bv CR (W9 v149 (j4 vs151 2) (.bool false)) fun v155=>
 cb.bj CR (bcase (Q5 true v155) (cb.bv R2 (X6 3 v0) fun v158=>
 cb.bv R2 (K7 v158) fun v159=>
 cb.bv R2 (bn .eql 23 (.tmp 143) (.const (.int .u64 (.ofNat 0))) v159 (.int .u64 (.ofNat 0))) fun v160=>
 M.pure (.normal, [v158,v159,v160])) (M.pure (.normal, [undef,undef,undef]))) fun x156 vs157=>O4 x156 (cb.bv CR (W9 v155 (j4 vs157 2) (.bool false)) fun v161=>
 M.pure (.ret v161)) (fun _=>M.fail) M.fail O8) (fun _=>M.fail) M.fail O8
noncomputable def b9u (cb:Cb) (N:Nat) (call:o8) (v3:Value) (v164:Value) (v165:Value) (v166:Value) (v167:Value):M R2:=
 cb.bv R2 (bn .eql 3 (.tmp 41) (.const (.int .i64 (.ofNat 15))) v3 (.int .i64 (.ofNat 15))) fun v168=>
 M.pure (.normal, [v164,v165,v166,v167,v168,v168])
noncomputable def b8C (cb:Cb) (N:Nat) (call:o8) (v3:Value) (v164:Value) (v165:Value) (v166:Value):M R2:=
 cb.bv R2 (bn .eql 3 (.tmp 41) (.const (.int .i64 (.ofNat 14))) v3 (.int .i64 (.ofNat 14))) fun v167=>
 K5 v167 (
 M.pure (.normal, [v164,v165,v166,v167,undef,v167])) (
 b9u cb N call v3 v164 v165 v166 v167)
noncomputable def b6Q (cb:Cb) (N:Nat) (call:o8) (v3:Value) (v164:Value) (v165:Value):M R2:=
 cb.bv R2 (bn .eql 3 (.tmp 41) (.const (.int .i64 (.ofNat 11))) v3 (.int .i64 (.ofNat 11))) fun v166=>
 K5 v166 (
 M.pure (.normal, [v164,v165,v166,undef,undef,v166])) (
 b8C cb N call v3 v164 v165 v166)
noncomputable def b7C (cb:Cb) (N:Nat) (call:o8) (v3:Value) (v164:Value):M R2:=
 cb.bv R2 (bn .eql 3 (.tmp 41) (.const (.int .i64 (.ofNat 10))) v3 (.int .i64 (.ofNat 10))) fun v165=>
 K5 v165 (
 M.pure (.normal, [v164,v165,undef,undef,undef,v165])) (
 b6Q cb N call v3 v164 v165)
noncomputable def b8v (cb:Cb) (N:Nat) (call:o8) (v171:Value) (v0:Value):M CR:=
 cb.bj CR (bcase (Q5 true v171) (cb.bv R2 (X6 2 v0) fun v174=>
 cb.bv R2 (K7 v174) fun v175=>
 cb.bc R2 (call 59 [v175]) (fun v176=>
 M.pure (.normal, [v174,v175,v176])) O8) (M.pure (.normal, [undef,undef,undef]))) fun x172 vs173=>O4 x172 (cb.bv CR (W9 v171 (j4 vs173 2) (.bool false)) fun v177=>
 cb.bj CR (bcase (Q5 true v177) (cb.bv R2 (X6 3 v0) fun v180=>
 cb.bv R2 (K7 v180) fun v181=>
 cb.bv R2 (bn .eql 23 (.tmp 162) (.const (.int .u64 (.ofNat 0))) v181 (.int .u64 (.ofNat 0))) fun v182=>
 M.pure (.normal, [v180,v181,v182])) (M.pure (.normal, [undef,undef,undef]))) fun x178 vs179=>O4 x178 (cb.bv CR (W9 v177 (j4 vs179 2) (.bool false)) fun v183=>
 M.pure (.ret v183)) (fun _=>M.fail) M.fail O8) (fun _=>M.fail) M.fail O8
noncomputable def b7z (cb:Cb) (N:Nat) (call:o8) (v187:Value) (v0:Value):M CR:=
 cb.bj CR (bcase (Q5 true v187) (cb.bv R2 (X6 2 v0) fun v190=>
 cb.bv R2 (K7 v190) fun v191=>
 cb.bc R2 (call 59 [v191]) (fun v192=>
 M.pure (.normal, [v190,v191,v192])) O8) (M.pure (.normal, [undef,undef,undef]))) fun x188 vs189=>O4 x188 (cb.bv CR (W9 v187 (j4 vs189 2) (.bool false)) fun v193=>
 cb.bj CR (bcase (Q5 true v193) (cb.bv R2 (X6 3 v0) fun v196=>
 cb.bv R2 (K7 v196) fun v197=>
 cb.bv R2 (bn .eql 23 (.tmp 177) (.const (.int .u64 (.ofNat 0))) v197 (.int .u64 (.ofNat 0))) fun v198=>
 M.pure (.normal, [v196,v197,v198])) (M.pure (.normal, [undef,undef,undef]))) fun x194 vs195=>O4 x194 (cb.bv CR (W9 v193 (j4 vs195 2) (.bool false)) fun v199=>
 M.pure (.ret v199)) (fun _=>M.fail) M.fail O8) (fun _=>M.fail) M.fail O8
noncomputable def b7s (cb:Cb) (N:Nat) (call:o8) (v0:Value):M CR:=
 cb.bv CR (X6 1 v0) fun v185=>
 cb.bv CR (K7 v185) fun v186=>
 cb.bv CR (bn .eql 3 (.tmp 168) (.const (.int .i64 (.ofNat 0))) v186 (.int .i64 (.ofNat 0))) fun v187=>
 b7z cb N call v187 v0
noncomputable def b8V (cb:Cb) (N:Nat) (call:o8) (v209:Value) (vs211:List Value) (v0:Value):M CR:=
 cb.bv CR (W9 v209 (j4 vs211 2) (.bool false)) fun v215=>
 cb.bj CR (bcase (Q5 true v215) (cb.bv R2 (X6 3 v0) fun v218=>
 cb.bv R2 (K7 v218) fun v219=>
 cb.bv R2 (bn .lss 23 (.tmp 197) (.const (.int .u64 (.ofNat 4294967296))) v219 (.int .u64 (.ofNat 4294967296))) fun v220=>
 M.pure (.normal, [v218,v219,v220])) (M.pure (.normal, [undef,undef,undef]))) fun x216 vs217=>O4 x216 (cb.bv CR (W9 v215 (j4 vs217 2) (.bool false)) fun v221=>
 M.pure (.ret v221)) (fun _=>M.fail) M.fail O8
noncomputable def b8R (cb:Cb) (N:Nat) (call:o8) (v203:Value) (v0:Value):M CR:=
 cb.bj CR (bcase (Q5 true v203) (cb.bv R2 (X6 1 v0) fun v206=>
 cb.bv R2 (K7 v206) fun v207=>
 cb.bv R2 (bn .leq 3 (.tmp 187) (.const (.int .i64 (.ofNat 63))) v207 (.int .i64 (.ofNat 63))) fun v208=>
 M.pure (.normal, [v206,v207,v208])) (M.pure (.normal, [undef,undef,undef]))) fun x204 vs205=>O4 x204 (cb.bv CR (W9 v203 (j4 vs205 2) (.bool false)) fun v209=>
 cb.bj CR (bcase (Q5 true v209) (cb.bv R2 (X6 2 v0) fun v212=>
 cb.bv R2 (K7 v212) fun v213=>
 cb.bc R2 (call 59 [v213]) (fun v214=>
 M.pure (.normal, [v212,v213,v214])) O8) (M.pure (.normal, [undef,undef,undef]))) fun x210 vs211=>O4 x210 (b8V cb N call v209 vs211 v0) (fun _=>M.fail) M.fail O8) (fun _=>M.fail) M.fail O8
noncomputable def b6R (cb:Cb) (N:Nat) (call:o8) (v0:Value):M CR:=
 cb.bv CR (X6 1 v0) fun v201=>
 cb.bv CR (K7 v201) fun v202=>
 cb.bv CR (bn .geq 3 (.tmp 183) (.const (.int .i64 (.ofNat 0))) v202 (.int .i64 (.ofNat 0))) fun v203=>
 b8R cb N call v203 v0
noncomputable def b6X (cb:Cb) (N:Nat) (call:o8) (v225:Value) (vs227:List Value) (v0:Value):M CR:=
 cb.bv CR (W9 v225 (j4 vs227 2) (.bool false)) fun v231=>
 cb.bj CR (bcase (Q5 true v231) (cb.bv R2 (X6 3 v0) fun v234=>
 cb.bv R2 (K7 v234) fun v235=>
 cb.bv R2 (bn .lss 23 (.tmp 212) (.const (.int .u64 (.ofNat 4294967296))) v235 (.int .u64 (.ofNat 4294967296))) fun v236=>
 M.pure (.normal, [v234,v235,v236])) (M.pure (.normal, [undef,undef,undef]))) fun x232 vs233=>O4 x232 (cb.bv CR (W9 v231 (j4 vs233 2) (.bool false)) fun v237=>
 M.pure (.ret v237)) (fun _=>M.fail) M.fail O8
noncomputable def b6O (cb:Cb) (N:Nat) (call:o8) (v223:Value) (v0:Value):M CR:=
 cb.bv CR (K7 v223) fun v224=>
 cb.bv CR (bn .eql 3 (.tmp 203) (.const (.int .i64 (.ofNat 0))) v224 (.int .i64 (.ofNat 0))) fun v225=>
 cb.bj CR (bcase (Q5 true v225) (cb.bv R2 (X6 2 v0) fun v228=>
 cb.bv R2 (K7 v228) fun v229=>
 cb.bv R2 (bn .eql 3 (.tmp 207) (.const (.int .i64 (.ofNat 0))) v229 (.int .i64 (.ofNat 0))) fun v230=>
 M.pure (.normal, [v228,v229,v230])) (M.pure (.normal, [undef,undef,undef]))) fun x226 vs227=>O4 x226 (b6X cb N call v225 vs227 v0) (fun _=>M.fail) M.fail O8
noncomputable def b6K (cb:Cb) (N:Nat) (call:o8) (v240:Value) (v0:Value):M CR:=
 cb.bv CR (bn .eql 3 (.tmp 218) (.const (.int .i64 (.ofNat 0))) v240 (.int .i64 (.ofNat 0))) fun v241=>
 cb.bj CR (bcase (Q5 true v241) (cb.bv R2 (X6 2 v0) fun v244=>
 cb.bv R2 (K7 v244) fun v245=>
 cb.bv R2 (bn .eql 3 (.tmp 222) (.const (.int .i64 (.ofNat 0))) v245 (.int .i64 (.ofNat 0))) fun v246=>
 M.pure (.normal, [v244,v245,v246])) (M.pure (.normal, [undef,undef,undef]))) fun x242 vs243=>O4 x242 (cb.bv CR (W9 v241 (j4 vs243 2) (.bool false)) fun v247=>
 M.pure (.ret v247)) (fun _=>M.fail) M.fail O8
noncomputable def b6L (cb:Cb) (N:Nat) (call:o8) (v256:Value) (v0:Value):M CR:=
 cb.bj CR (bcase (Q5 true v256) (cb.bv R2 (X6 2 v0) fun v259=>
 cb.bv R2 (K7 v259) fun v260=>
 cb.bv R2 (bn .eql 3 (.tmp 235) (.const (.int .i64 (.ofNat 0))) v260 (.int .i64 (.ofNat 0))) fun v261=>
 M.pure (.normal, [v259,v260,v261])) (M.pure (.normal, [undef,undef,undef]))) fun x257 vs258=>O4 x257 (cb.bv CR (W9 v256 (j4 vs258 2) (.bool false)) fun v262=>
 cb.bj CR (bcase (Q5 true v262) (cb.bv R2 (X6 3 v0) fun v265=>
 cb.bv R2 (K7 v265) fun v266=>
 cb.bv R2 (bn .eql 23 (.tmp 240) (.const (.int .u64 (.ofNat 0))) v266 (.int .u64 (.ofNat 0))) fun v267=>
 M.pure (.normal, [v265,v266,v267])) (M.pure (.normal, [undef,undef,undef]))) fun x263 vs264=>O4 x263 (cb.bv CR (W9 v262 (j4 vs264 2) (.bool false)) fun v268=>
 M.pure (.ret v268)) (fun _=>M.fail) M.fail O8) (fun _=>M.fail) M.fail O8
noncomputable def b6N (cb:Cb) (N:Nat) (call:o8) (v249:Value) (v0:Value):M CR:=
 cb.bv CR (bn .eql 3 (.tmp 226) (.const (.int .i64 (.ofNat 3))) v249 (.int .i64 (.ofNat 3))) fun v250=>
 cb.bj CR (bcase (Q5 false v250) (cb.bv R2 (X6 1 v0) fun v253=>
 cb.bv R2 (K7 v253) fun v254=>
 cb.bv R2 (bn .eql 3 (.tmp 230) (.const (.int .i64 (.ofNat 4))) v254 (.int .i64 (.ofNat 4))) fun v255=>
 M.pure (.normal, [v253,v254,v255])) (M.pure (.normal, [undef,undef,undef]))) fun x251 vs252=>O4 x251 (cb.bv CR (W9 v250 (.bool true) (j4 vs252 2)) fun v256=>
 b6L cb N call v256 v0) (fun _=>M.fail) M.fail O8
noncomputable def b7e (cb:Cb) (N:Nat) (call:o8) (v3:Value) (v0:Value):M CR:=
 cb.bv CR (bn .eql 3 (.tmp 41) (.const (.int .i64 (.ofNat 19))) v3 (.int .i64 (.ofNat 19))) fun v238=>
 K5 v238 (
 cb.bv CR (X6 1 v0) fun v239=>
 cb.bv CR (K7 v239) fun v240=>
 b6K cb N call v240 v0) (
 cb.bv CR (X6 1 v0) fun v248=>
 cb.bv CR (K7 v248) fun v249=>
 b6N cb N call v249 v0)
noncomputable def b8g (cb:Cb) (N:Nat) (call:o8) (v3:Value) (v0:Value):M CR:=
 cb.bv CR (bn .eql 3 (.tmp 41) (.const (.int .i64 (.ofNat 18))) v3 (.int .i64 (.ofNat 18))) fun v222=>
 K5 v222 (
 cb.bv CR (X6 1 v0) fun v223=>
 b6O cb N call v223 v0) (
 b7e cb N call v3 v0)
noncomputable def b8n (cb:Cb) (N:Nat) (call:o8) (v3:Value) (v0:Value):M CR:=
 cb.bv CR (bn .eql 3 (.tmp 41) (.const (.int .i64 (.ofNat 17))) v3 (.int .i64 (.ofNat 17))) fun v200=>
 K5 v200 (
 b6R cb N call v0) (
 b8g cb N call v3 v0)
noncomputable def b7F (cb:Cb) (N:Nat) (call:o8) (v3:Value) (v0:Value):M CR:=
 cb.bv CR (bn .eql 3 (.tmp 41) (.const (.int .i64 (.ofNat 13))) v3 (.int .i64 (.ofNat 13))) fun v184=>
 K5 v184 (
 b7s cb N call v0) (
 b8n cb N call v3 v0)
noncomputable def b6F (cb:Cb) (N:Nat) (call:o8) (v3:Value) (v0:Value):M CR:=
 cb.bj CR (cb.bv R2 (bn .eql 3 (.tmp 41) (.const (.int .i64 (.ofNat 5))) v3 (.int .i64 (.ofNat 5))) fun v164=>
 K5 v164 (
 M.pure (.normal, [v164,undef,undef,undef,undef,v164])) (
 b7C cb N call v3 v164)) fun x162 vs163=>
 O4 x162 (K5 (j4 vs163 5) (
 cb.bv CR (X6 1 v0) fun v169=>
 cb.bv CR (K7 v169) fun v170=>
 cb.bc CR (call 59 [v170]) (fun v171=>
 b8v cb N call v171 v0) O8) (
 b7F cb N call v3 v0)) (fun _=>M.fail) (M.fail) O8
noncomputable def b7a (cb:Cb) (N:Nat) (call:o8) (v3:Value) (v0:Value):M CR:=
 cb.bj CR (cb.bv R2 (bn .eql 3 (.tmp 41) (.const (.int .i64 (.ofNat 2))) v3 (.int .i64 (.ofNat 2))) fun v140=>
 K5 v140 (
 M.pure (.normal, [v140,undef,undef,undef,undef,undef,undef,v140])) (
 b7G cb N call v3 v140)) fun x138 vs139=>
 O4 x138 (K5 (j4 vs139 7) (
 cb.bv CR (X6 1 v0) fun v147=>
 cb.bv CR (K7 v147) fun v148=>
 cb.bc CR (call 59 [v148]) (fun v149=>
 b7I cb N call v149 v0) O8) (
 b6F cb N call v3 v0)) (fun _=>M.fail) (M.fail) O8
noncomputable def b7m (cb:Cb) (N:Nat) (call:o8) (v3:Value) (v0:Value):M CR:=
 cb.bv CR (bn .eql 3 (.tmp 41) (.const (.int .i64 (.ofNat 6))) v3 (.int .i64 (.ofNat 6))) fun v107=>
 K5 v107 (
 cb.bv CR (X6 1 v0) fun v108=>
 cb.bv CR (K7 v108) fun v109=>
 c2y cb N call v109 v0) (
 b7a cb N call v3 v0)
noncomputable def b8U (cb:Cb) (N:Nat) (call:o8) (v3:Value) (v0:Value):M CR:=
 cb.bv CR (bn .eql 3 (.tmp 41) (.const (.int .i64 (.ofNat 3))) v3 (.int .i64 (.ofNat 3))) fun v85=>
 K5 v85 (
 c3e cb N call v0) (
 b7m cb N call v3 v0)
noncomputable def b7y (cb:Cb) (N:Nat) (call:o8) (v3:Value) (v0:Value):M CR:=
 cb.bv CR (bn .eql 3 (.tmp 41) (.const (.int .i64 (.ofNat 1))) v3 (.int .i64 (.ofNat 1))) fun v63=>
 K5 v63 (
 cb.bv CR (X6 1 v0) fun v64=>
 cb.bv CR (K7 v64) fun v65=>
 c1g cb N call v65 v0) (
 b8U cb N call v3 v0)
noncomputable def b7p (cb:Cb) (N:Nat) (call:o8) (v3:Value) (v0:Value):M CR:=
 cb.bv CR (bn .eql 3 (.tmp 41) (.const (.int .i64 (.ofNat 0))) v3 (.int .i64 (.ofNat 0))) fun v47=>
 K5 v47 (
 c1t cb N call v0) (
 b7y cb N call v3 v0)
noncomputable def b8G (cb:Cb) (N:Nat) (call:o8) (vs35:List Value) (v0:Value) (v33:Value) (v3:Value):M CR:=
 cb.bj CR (bcase (Q5 true (j4 vs35 2)) (cb.bv R2 (X6 7 v0) fun v39=>
 cb.bv R2 (K7 v39) fun v40=>
 cb.bv R2 (a3U v40) fun v41=>
 cb.bv R2 (bn .gtr 3 (.tmp 37) (.const (.int .i64 (.ofNat 0))) v41 (.int .i64 (.ofNat 0))) fun v42=>
 M.pure (.normal, [v39,v40,v41,v42])) (M.pure (.normal, [undef,undef,undef,undef]))) fun x37 vs38=>O4 x37 (cb.bj CR (bcase (Q5 false v33) (cb.bv R2 (W9 (j4 vs35 2) (j4 vs38 3) (.bool false)) fun v45=>
 M.pure (.normal, [v45])) (M.pure (.normal, [undef]))) fun x43 vs44=>O4 x43 (cb.bv CR (W9 v33 (.bool true) (j4 vs44 0)) fun v46=>
 K5 v46 (
 M.pure (.ret (.bool false))) (
 b7p cb N call v3 v0)) (fun _=>M.fail) M.fail O8) (fun _=>M.fail) M.fail O8
noncomputable def b9r (cb:Cb) (N:Nat) (call:o8) (v20:Value) (vs22:List Value) (vs25:List Value) (v3:Value) (v0:Value):M CR:=
 cb.bj CR (bcase (Q5 false v20) (cb.bv R2 (W9 (j4 vs22 2) (j4 vs25 3) (.bool false)) fun v32=>
 M.pure (.normal, [v32])) (M.pure (.normal, [undef]))) fun x30 vs31=>O4 x30 (cb.bv CR (W9 v20 (.bool true) (j4 vs31 0)) fun v33=>
 cb.bj CR (bcase (Q5 false v33) (cb.bv R2 (bn .neq 3 (.tmp 32) (.const (.int .i64 (.ofNat 6))) v3 (.int .i64 (.ofNat 6))) fun v36=>
 M.pure (.normal, [v3,v36,v36])) (M.pure (.normal, [undef,undef,undef]))) fun x34 vs35=>O4 x34 (b8G cb N call vs35 v0 v33 v3) (fun _=>M.fail) M.fail O8) (fun _=>M.fail) M.fail O8
noncomputable def b7D (cb:Cb) (N:Nat) (call:o8) (v20:Value) (v3:Value) (v0:Value):M CR:=
 cb.bj CR (bcase (Q5 false v20) (cb.bv R2 (bn .neq 3 (.tmp 22) (.const (.int .i64 (.ofNat 3))) v3 (.int .i64 (.ofNat 3))) fun v23=>
 M.pure (.normal, [v3,v23,v23])) (M.pure (.normal, [undef,undef,undef]))) fun x21 vs22=>O4 x21 (cb.bj CR (bcase (Q5 true (j4 vs22 2)) (cb.bv R2 (X6 8 v0) fun v26=>
 cb.bv R2 (K7 v26) fun v27=>
 cb.bv R2 (a3U v27) fun v28=>
 cb.bv R2 (bn .gtr 3 (.tmp 27) (.const (.int .i64 (.ofNat 0))) v28 (.int .i64 (.ofNat 0))) fun v29=>
 M.pure (.normal, [v26,v27,v28,v29])) (M.pure (.normal, [undef,undef,undef,undef]))) fun x24 vs25=>O4 x24 (b9r cb N call v20 vs22 vs25 v3 v0) (fun _=>M.fail) M.fail O8) (fun _=>M.fail) M.fail O8
noncomputable def b7q (cb:Cb) (N:Nat) (call:o8) (vs9:List Value) (v0:Value) (v7:Value) (v3:Value):M CR:=
 cb.bj CR (bcase (Q5 true (j4 vs9 2)) (cb.bv R2 (X6 4 v0) fun v13=>
 cb.bv R2 (a2U 3 v13) fun v14=>
 cb.bv R2 (Y1 [] [] [(.int .i64 (.ofNat 0)),(.int .i64 (.ofNat 0)),(.int .i64 (.ofNat 0))]) fun v15=>
 cb.bv R2 (bn .neq 26 (.tmp 16) (.tmp 17) v14 v15) fun v16=>
 M.pure (.normal, [v13,v14,v15,v16])) (M.pure (.normal, [undef,undef,undef,undef]))) fun x11 vs12=>O4 x11 (cb.bj CR (bcase (Q5 false v7) (cb.bv R2 (W9 (j4 vs9 2) (j4 vs12 3) (.bool false)) fun v19=>
 M.pure (.normal, [v19])) (M.pure (.normal, [undef]))) fun x17 vs18=>O4 x17 (cb.bv CR (W9 v7 (.bool true) (j4 vs18 0)) fun v20=>
 b7D cb N call v20 v3 v0) (fun _=>M.fail) M.fail O8) (fun _=>M.fail) M.fail O8
noncomputable def b9v (cb:Cb) (N:Nat) (call:o8) (v0:Value):M CR:=
 cb.bv CR (X6 0 v0) fun v1=>
 cb.bv CR (K7 v1) fun v2=>
 cb.bc CR (call 46 [v2]) (fun v3=>
 cb.bv CR (X6 0 v0) fun v4=>
 cb.bv CR (K7 v4) fun v5=>
 cb.bc CR (call 57 [v5]) (fun v6=>
 cb.bv CR (un .not v6) fun v7=>
 cb.bj CR (bcase (Q5 false v7) (cb.bv R2 (bn .neq 3 (.tmp 12) (.const (.int .i64 (.ofNat 1))) v3 (.int .i64 (.ofNat 1))) fun v10=>
 M.pure (.normal, [v3,v10,v10])) (M.pure (.normal, [undef,undef,undef]))) fun x8 vs9=>O4 x8 (b7q cb N call vs9 v0 v7 v3) (fun _=>M.fail) M.fail O8) O8) O8
noncomputable def b2R (cb:Cb) (N:Nat) (call:o8) (a0:Value):M CR:=
 cb.bv CR (a6Y a0) fun v0=>
 b9v cb N call v0
theorem c9c (cb:Cb) (N:Nat) (call:o8) (a0:Value):Y9 Tryz.prog R4 cb false N call Tryz.f19 c19 e1H [a0]=b2R cb N call a0:=by kernel_rfl
noncomputable def c25:Code:=a0g Tryz.f25
noncomputable def e2G:Pl:=.d
noncomputable def b2d:List Oper:=a6e c25 3
noncomputable def b6o (call:o8) (u0:Value) (u1:Value) (u2:Value) (u3:Value) (u4:Value) (u5:Value) (u6:Value) (u7:Value) (u8:Value) (u9:Value) (u10:Value):M R2:=
 M.bind (M.foot (M.pure u3)) fun y0=>
 M.bind (M.foot (bn .quo 23 (.tmp 9) (.const (.int .u64 (.ofNat 10))) y0.1 (.int .u64 (.ofNat 10)))) fun y1=>
 M.bind (M.foot (a1M call 25 [y1.1])) fun y2=>
 M.bind (M.foot (M.pure u3)) fun y3=>
 M.bind (M.foot (bn .rem 23 (.tmp 12) (.const (.int .u64 (.ofNat 10))) y3.1 (.int .u64 (.ofNat 10)))) fun y4=>
 M.bind (M.foot (M.pure u3)) fun y5=>
 M.bind (M.foot (bn .rem 23 (.tmp 14) (.const (.int .u64 (.ofNat 10))) y5.1 (.int .u64 (.ofNat 10)))) fun y6=>
 M.bind (M.foot (bn .add 23 (.tmp 15) (.const (.int .u64 (.ofNat 1))) y6.1 (.int .u64 (.ofNat 1)))) fun y7=>
 M.bind (M.foot (a8X (.string ⟨⟨[48, 49, 50, 51, 52, 53, 54, 55, 56, 57, 97, 98, 99, 100, 101, 102]⟩⟩) (some y4.1) (some y7.1))) fun y8=>
 M.bind (M.foot (bn .add 9 (.tmp 11) (.tmp 17) y2.1 y8.1)) fun y9=>
 M.bind (M.foot (M.pure y9.1)) fun y10=>
 M.guard (a0A b2d (a1Y b2d [y0.2,y1.2,y2.2,y3.2,y4.2,y5.2,y6.2,y7.2,y8.2,y9.2,y10.2]) [] [] 0) (M.pure (.normal, [y0.1,y1.1,y2.1,y3.1,y4.1,y5.1,y6.1,y7.1,y8.1,y9.1,y10.1]))
theorem b3a (call:o8) (u0:Value) (u1:Value) (u2:Value) (u3:Value) (u4:Value) (u5:Value) (u6:Value) (u7:Value) (u8:Value) (u9:Value) (u10:Value):dr call b2d 19 [9, 10, 12, 0, 14, 15, 13, 16, 11, 17, 18] [u0,u1,u2,u3,u4,u5,u6,u7,u8,u9,u10] [9, 10, 11, 12, 13, 14, 15, 16, 17, 18, 2]=b6o call u0 u1 u2 u3 u4 u5 u6 u7 u8 u9 u10:=(a4l _ _ _ _ _ _ _ _).trans (by kernel_rfl)
theorem c6n {F:List a2X} (hl:L9 F=11) (h:a3R [(0, 3),(1, 3),(2, 3),(0, 4),(1, 4),(2, 4),(0, 5),(1, 5),(2, 5),(3, 5),(4, 5),(0, 6),(1, 6),(2, 6),(3, 6),(4, 6),(0, 7),(1, 7),(2, 7),(3, 7),(4, 7),(0, 8),(1, 8),(2, 8)] F=true):a0A b2d (a1Y b2d F) [] [] 0=true:=a4S (L:=[(0, 3),(1, 3),(2, 3),(0, 4),(1, 4),(2, 4),(0, 5),(1, 5),(2, 5),(3, 5),(4, 5),(0, 6),(1, 6),(2, 6),(3, 6),(4, 6),(0, 7),(1, 7),(2, 7),(3, 7),(4, 7),(0, 8),(1, 8),(2, 8)]) (by kernel_rfl) (by kernel_rfl) hl h
noncomputable def b6t (cb:Cb) (N:Nat) (call:o8) (a0:Value):M CR:=
 cb.bv CR (bn .add 23 (.tmp 6) (.const (.int .u64 (.ofNat 1))) a0 (.int .u64 (.ofNat 1))) fun v1=>
 cb.bv CR (a8X (.string ⟨⟨[48, 49, 50, 51, 52, 53, 54, 55, 56, 57, 97, 98, 99, 100, 101, 102]⟩⟩) (some a0) (some v1)) fun v2=>
 M.pure (.ret v2)
noncomputable def b6b (cb:Cb) (N:Nat) (call:o8) (a0:Value):M CR:=
 cb.bj CR (dr call b2d 19 [9, 10, 12, 0, 14, 15, 13, 16, 11, 17, 18] [undef,undef,undef,a0,undef,undef,undef,undef,undef,undef,undef] [9, 10, 11, 12, 13, 14, 15, 16, 17, 18, 2]) fun _ vs3=>
 M.pure (.ret (j4 vs3 10))
noncomputable def b4y (cb:Cb) (N:Nat) (call:o8) (a0:Value):M CR:=
 cb.bv CR (bn .lss 23 (.tmp 3) (.const (.int .u64 (.ofNat 10))) a0 (.int .u64 (.ofNat 10))) fun v0=>
 K5 v0 (
 b6t cb N call a0) (
 b6b cb N call a0)
theorem c8f (cb:Cb) (N:Nat) (call:o8) (a0:Value):Y9 Tryz.prog R4 cb false N call Tryz.f25 c25 e2G [a0]=b4y cb N call a0:=by kernel_rfl
noncomputable def c34:Code:=a0g Tryz.f34
noncomputable def e1I:Pl:=(.s none .d (.s none .d (.s none .d (.s none .d (.s none .d (.s none .d (.s none (.s none .d (.s none (.l [136, 137, 138, 8, 139, 140, 141, 2, 142, 135] .d) .d)) .d)))))))
noncomputable def c2h (cb:Cb) (N:Nat) (call:o8) (v115:Value) (v0:Value):M CR:=
 cb.bv CR (bn .eql 3 (.tmp 108) (.const (.int .i64 (.ofNat 1))) v115 (.int .i64 (.ofNat 1))) fun v116=>
 cb.bj CR (bcase (Q5 true v116) (cb.bv R2 (X6 7 v0) fun v119=>
 cb.bv R2 (K7 v119) fun v120=>
 cb.bv R2 (a4X 1 v120 (.int .i64 (.ofNat 0))) fun v121=>
 cb.bv R2 (K7 v121) fun v122=>
 cb.bc R2 (call 88 [v122]) (fun v123=>
 M.pure (.normal, [v119,v120,v121,v122,v123])) O8) (M.pure (.normal, [undef,undef,undef,undef,undef]))) fun x117 vs118=>O4 x117 (cb.bv CR (W9 v116 (j4 vs118 4) (.bool false)) fun v124=>
 M.pure (.ret v124)) (fun _=>M.fail) M.fail O8
noncomputable def c2Q (cb:Cb) (N:Nat) (call:o8) (v0:Value):M CR:=
 cb.bv CR (X6 1 v0) fun v126=>
 cb.bv CR (K7 v126) fun v127=>
 cb.bv CR (bn .leq 3 (.tmp 120) (.const (.int .i64 (.ofNat 63))) v127 (.int .i64 (.ofNat 63))) fun v128=>
 M.pure (.ret v128)
noncomputable def c2r (cb:Cb) (N:Nat) (call:o8) (v131:Value) (v0:Value):M CR:=
 cb.bv CR (bn .eql 24 (.tmp 125) (.const (.int .i64 (.ofNat 3))) v131 (.int .i64 (.ofNat 3))) fun v132=>
 cb.bj CR (bcase (Q5 false v132) (cb.bv R2 (X6 1 v0) fun v135=>
 cb.bv R2 (K7 v135) fun v136=>
 cb.bv R2 (bn .eql 24 (.tmp 129) (.const (.int .i64 (.ofNat 4))) v136 (.int .i64 (.ofNat 4))) fun v137=>
 M.pure (.normal, [v135,v136,v137])) (M.pure (.normal, [undef,undef,undef]))) fun x133 vs134=>O4 x133 (cb.bv CR (W9 v132 (.bool true) (j4 vs134 2)) fun v138=>
 M.pure (.ret v138)) (fun _=>M.fail) M.fail O8
noncomputable def b6z (cb:Cb) (N:Nat) (call:o8) (xs142:List Value) (v145:Value) (v146:Value) (v147:Value) (v148:Value) (v149:Value):M R2:=
 cb.bv R2 (bn .add 3 (.tmp 135) (.const (.int .i64 (.ofNat 1))) (j4 xs142 9) (.int .i64 (.ofNat 1))) fun v150=>
 M.pure (.normal, [v145,v146,v147,v147,v147,v148,v149,(j4 xs142 7),v150,v150])
noncomputable def b6v (cb:Cb) (N:Nat) (call:o8) (v140:Value) (xs142:List Value) (v145:Value):M R2:=
 cb.bv R2 (a4X 1 v140 (j4 xs142 9)) fun v146=>
 cb.bv R2 (K7 v146) fun v147=>
 cb.bc R2 (call 86 [v147]) (fun v148=>
 cb.bv R2 (un .not v148) fun v149=>
 K5 v149 (
 M.pure (.ret, [v145,v146,v147,v147,v147,v148,v149,(.bool false),(j4 xs142 8),(j4 xs142 9)])) (
 b6z cb N call xs142 v145 v146 v147 v148 v149)) O8
noncomputable def b6q (cb:Cb) (N:Nat) (call:o8) (v145:Value) (xs142:List Value):M R2:=
 M.pure (.exit 1, [v145,(j4 xs142 1),(j4 xs142 2),(j4 xs142 3),(j4 xs142 4),(j4 xs142 5),(j4 xs142 6),(j4 xs142 7),(j4 xs142 8),(j4 xs142 9)])
noncomputable def b3E (cb:Cb) (N:Nat) (call:o8) (v141:Value) (v140:Value) (xs142:List Value):M R2:=
 cb.bv R2 (bn .lss 3 (.tmp 135) (.tmp 134) (j4 xs142 9) v141) fun v145=>
 K5 v145 (
 b6v cb N call v140 xs142 v145) (
 b6q cb N call v145 xs142)
noncomputable def c1r (cb:Cb) (N:Nat) (call:o8) (v0:Value):M CR:=
 cb.bv CR (X6 8 v0) fun v139=>
 cb.bv CR (K7 v139) fun v140=>
 cb.bv CR (a3U v140) fun v141=>
 cb.bj CR (cb.lp (b3E cb N call v141 v140) N [undef,undef,undef,undef,undef,undef,undef,(.bool false),undef,(.int .i64 (.ofNat 0))]) fun x143 vs144=>
 O4 x143 (M.fail) (fun i151=>bcase (Nat.beq i151 1) (M.pure (.ret (.bool true))) (M.fail)) (M.pure (.ret (j4 vs144 7))) O8
noncomputable def c1y (cb:Cb) (N:Nat) (call:o8) (v3:Value) (v0:Value):M CR:=
 cb.bv CR (bn .eql 76 (.tmp 98) (.const (.int .i64 (.ofNat 20))) v3 (.int .i64 (.ofNat 20))) fun v129=>
 K5 v129 (
 cb.bv CR (X6 1 v0) fun v130=>
 cb.bv CR (K7 v130) fun v131=>
 c2r cb N call v131 v0) (
 c1r cb N call v0)
noncomputable def c2P (cb:Cb) (N:Nat) (call:o8) (v3:Value) (v0:Value):M CR:=
 cb.bv CR (bn .eql 76 (.tmp 98) (.const (.int .i64 (.ofNat 17))) v3 (.int .i64 (.ofNat 17))) fun v125=>
 K5 v125 (
 c2Q cb N call v0) (
 c1y cb N call v3 v0)
noncomputable def b7Y (cb:Cb) (N:Nat) (call:o8) (v3:Value) (v0:Value):M CR:=
 cb.bv CR (bn .eql 76 (.tmp 98) (.const (.int .i64 (.ofNat 6))) v3 (.int .i64 (.ofNat 6))) fun v112=>
 K5 v112 (
 cb.bv CR (X6 7 v0) fun v113=>
 cb.bv CR (K7 v113) fun v114=>
 cb.bv CR (a3U v114) fun v115=>
 c2h cb N call v115 v0) (
 c2P cb N call v3 v0)
noncomputable def b9a (cb:Cb) (N:Nat) (call:o8) (v3:Value) (v0:Value):M CR:=
 cb.bv CR (bn .eql 76 (.tmp 98) (.const (.int .i64 (.ofNat 1))) v3 (.int .i64 (.ofNat 1))) fun v108=>
 K5 v108 (
 cb.bv CR (X6 4 v0) fun v109=>
 cb.bv CR (a2U 3 v109) fun v110=>
 cb.bc CR (call 87 [v110]) (fun v111=>
 M.pure (.ret v111)) O8) (
 b7Y cb N call v3 v0)
noncomputable def b7K (cb:Cb) (N:Nat) (call:o8) (vs96:List Value) (v0:Value) (v94:Value) (v3:Value):M CR:=
 cb.bj CR (bcase (Q5 true (j4 vs96 2)) (cb.bv R2 (X6 8 v0) fun v100=>
 cb.bv R2 (K7 v100) fun v101=>
 cb.bv R2 (a3U v101) fun v102=>
 cb.bv R2 (bn .gtr 3 (.tmp 94) (.const (.int .i64 (.ofNat 0))) v102 (.int .i64 (.ofNat 0))) fun v103=>
 M.pure (.normal, [v100,v101,v102,v103])) (M.pure (.normal, [undef,undef,undef,undef]))) fun x98 vs99=>O4 x98 (cb.bj CR (bcase (Q5 false v94) (cb.bv R2 (W9 (j4 vs96 2) (j4 vs99 3) (.bool false)) fun v106=>
 M.pure (.normal, [v106])) (M.pure (.normal, [undef]))) fun x104 vs105=>O4 x104 (cb.bv CR (W9 v94 (.bool true) (j4 vs105 0)) fun v107=>
 K5 v107 (
 M.pure (.ret (.bool false))) (
 b9a cb N call v3 v0)) (fun _=>M.fail) M.fail O8) (fun _=>M.fail) M.fail O8
noncomputable def b8W (cb:Cb) (N:Nat) (call:o8) (v81:Value) (vs83:List Value) (vs86:List Value) (v3:Value) (v0:Value):M CR:=
 cb.bj CR (bcase (Q5 false v81) (cb.bv R2 (W9 (j4 vs83 2) (j4 vs86 3) (.bool false)) fun v93=>
 M.pure (.normal, [v93])) (M.pure (.normal, [undef]))) fun x91 vs92=>O4 x91 (cb.bv CR (W9 v81 (.bool true) (j4 vs92 0)) fun v94=>
 cb.bj CR (bcase (Q5 false v94) (cb.bv R2 (bn .neq 76 (.tmp 89) (.const (.int .i64 (.ofNat 3))) v3 (.int .i64 (.ofNat 3))) fun v97=>
 M.pure (.normal, [v3,v97,v97])) (M.pure (.normal, [undef,undef,undef]))) fun x95 vs96=>O4 x95 (b7K cb N call vs96 v0 v94 v3) (fun _=>M.fail) M.fail O8) (fun _=>M.fail) M.fail O8
noncomputable def b8Z (cb:Cb) (N:Nat) (call:o8) (v81:Value) (v3:Value) (v0:Value):M CR:=
 cb.bj CR (bcase (Q5 false v81) (cb.bv R2 (bn .neq 76 (.tmp 79) (.const (.int .i64 (.ofNat 6))) v3 (.int .i64 (.ofNat 6))) fun v84=>
 M.pure (.normal, [v3,v84,v84])) (M.pure (.normal, [undef,undef,undef]))) fun x82 vs83=>O4 x82 (cb.bj CR (bcase (Q5 true (j4 vs83 2)) (cb.bv R2 (X6 7 v0) fun v87=>
 cb.bv R2 (K7 v87) fun v88=>
 cb.bv R2 (a3U v88) fun v89=>
 cb.bv R2 (bn .gtr 3 (.tmp 84) (.const (.int .i64 (.ofNat 0))) v89 (.int .i64 (.ofNat 0))) fun v90=>
 M.pure (.normal, [v87,v88,v89,v90])) (M.pure (.normal, [undef,undef,undef,undef]))) fun x85 vs86=>O4 x85 (b8W cb N call v81 vs83 vs86 v3 v0) (fun _=>M.fail) M.fail O8) (fun _=>M.fail) M.fail O8
noncomputable def b9q (cb:Cb) (N:Nat) (call:o8) (vs70:List Value) (v0:Value) (v68:Value) (v3:Value):M CR:=
 cb.bj CR (bcase (Q5 true (j4 vs70 2)) (cb.bv R2 (X6 4 v0) fun v74=>
 cb.bv R2 (a2U 3 v74) fun v75=>
 cb.bv R2 (Y1 [] [] [(.int .i64 (.ofNat 0)),(.int .i64 (.ofNat 0)),(.int .i64 (.ofNat 0))]) fun v76=>
 cb.bv R2 (bn .neq 26 (.tmp 73) (.tmp 74) v75 v76) fun v77=>
 M.pure (.normal, [v74,v75,v76,v77])) (M.pure (.normal, [undef,undef,undef,undef]))) fun x72 vs73=>O4 x72 (cb.bj CR (bcase (Q5 false v68) (cb.bv R2 (W9 (j4 vs70 2) (j4 vs73 3) (.bool false)) fun v80=>
 M.pure (.normal, [v80])) (M.pure (.normal, [undef]))) fun x78 vs79=>O4 x78 (cb.bv CR (W9 v68 (.bool true) (j4 vs79 0)) fun v81=>
 b8Z cb N call v81 v3 v0) (fun _=>M.fail) M.fail O8) (fun _=>M.fail) M.fail O8
noncomputable def b8c (cb:Cb) (N:Nat) (call:o8) (v62:Value) (v0:Value) (v3:Value):M CR:=
 cb.bj CR (bcase (Q5 true v62) (cb.bv R2 (X6 3 v0) fun v65=>
 cb.bv R2 (K7 v65) fun v66=>
 cb.bv R2 (bn .geq 23 (.tmp 65) (.const (.int .u64 (.ofNat 4294967296))) v66 (.int .u64 (.ofNat 4294967296))) fun v67=>
 M.pure (.normal, [v65,v66,v67])) (M.pure (.normal, [undef,undef,undef]))) fun x63 vs64=>O4 x63 (cb.bv CR (W9 v62 (j4 vs64 2) (.bool false)) fun v68=>
 cb.bj CR (bcase (Q5 false v68) (cb.bv R2 (bn .neq 76 (.tmp 69) (.const (.int .i64 (.ofNat 1))) v3 (.int .i64 (.ofNat 1))) fun v71=>
 M.pure (.normal, [v3,v71,v71])) (M.pure (.normal, [undef,undef,undef]))) fun x69 vs70=>O4 x69 (b9q cb N call vs70 v0 v68 v3) (fun _=>M.fail) M.fail O8) (fun _=>M.fail) M.fail O8
noncomputable def b6B (cb:Cb) (N:Nat) (call:o8) (v54:Value) (v0:Value) (v3:Value):M CR:=
 cb.bj CR (bcase (Q5 false v54) (cb.bv R2 (X6 2 v0) fun v57=>
 cb.bv R2 (K7 v57) fun v58=>
 cb.bc R2 (call 86 [v58]) (fun v59=>
 cb.bv R2 (un .not v59) fun v60=>
 M.pure (.normal, [v57,v58,v59,v60])) O8) (M.pure (.normal, [undef,undef,undef,undef]))) fun x55 vs56=>O4 x55 (cb.bv CR (W9 v54 (.bool true) (j4 vs56 3)) fun v61=>
 K5 v61 (
 M.pure (.ret (.bool false))) (
 cb.bv CR (bn .neq 76 (.tmp 61) (.const (.int .i64 (.ofNat 19))) v3 (.int .i64 (.ofNat 19))) fun v62=>
 b8c cb N call v62 v0 v3)) (fun _=>M.fail) M.fail O8
noncomputable def b9k (cb:Cb) (N:Nat) (call:o8) (v35:Value) (vs37:List Value) (vs40:List Value) (v0:Value) (v3:Value):M CR:=
 cb.bj CR (bcase (Q5 false v35) (cb.bv R2 (W9 (j4 vs37 2) (j4 vs40 2) (.bool false)) fun v46=>
 M.pure (.normal, [v46])) (M.pure (.normal, [undef]))) fun x44 vs45=>O4 x44 (cb.bv CR (W9 v35 (.bool true) (j4 vs45 0)) fun v47=>
 cb.bj CR (bcase (Q5 false v47) (cb.bv R2 (X6 1 v0) fun v50=>
 cb.bv R2 (K7 v50) fun v51=>
 cb.bc R2 (call 86 [v51]) (fun v52=>
 cb.bv R2 (un .not v52) fun v53=>
 M.pure (.normal, [v50,v51,v52,v53])) O8) (M.pure (.normal, [undef,undef,undef,undef]))) fun x48 vs49=>O4 x48 (cb.bv CR (W9 v47 (.bool true) (j4 vs49 3)) fun v54=>
 b6B cb N call v54 v0 v3) (fun _=>M.fail) M.fail O8) (fun _=>M.fail) M.fail O8
noncomputable def b8l (cb:Cb) (N:Nat) (call:o8) (v35:Value) (v7:Value) (v0:Value) (v3:Value):M CR:=
 cb.bj CR (bcase (Q5 false v35) (cb.bv R2 (un .not v7) fun v38=>
 M.pure (.normal, [v7,v38,v38])) (M.pure (.normal, [undef,undef,undef]))) fun x36 vs37=>O4 x36 (cb.bj CR (bcase (Q5 true (j4 vs37 2)) (cb.bv R2 (X6 3 v0) fun v41=>
 cb.bv R2 (K7 v41) fun v42=>
 cb.bv R2 (bn .neq 23 (.tmp 45) (.const (.int .u64 (.ofNat 0))) v42 (.int .u64 (.ofNat 0))) fun v43=>
 M.pure (.normal, [v41,v42,v43])) (M.pure (.normal, [undef,undef,undef]))) fun x39 vs40=>O4 x39 (b9k cb N call v35 vs37 vs40 v0 v3) (fun _=>M.fail) M.fail O8) (fun _=>M.fail) M.fail O8
noncomputable def b7j (cb:Cb) (N:Nat) (call:o8) (vs25:List Value) (v0:Value) (v23:Value) (v7:Value) (v3:Value):M CR:=
 cb.bj CR (bcase (Q5 true (j4 vs25 2)) (cb.bv R2 (X6 2 v0) fun v29=>
 cb.bv R2 (K7 v29) fun v30=>
 cb.bv R2 (bn .neq 3 (.tmp 36) (.const (.int .i64 (.ofNat 0))) v30 (.int .i64 (.ofNat 0))) fun v31=>
 M.pure (.normal, [v29,v30,v31])) (M.pure (.normal, [undef,undef,undef]))) fun x27 vs28=>O4 x27 (cb.bj CR (bcase (Q5 false v23) (cb.bv R2 (W9 (j4 vs25 2) (j4 vs28 2) (.bool false)) fun v34=>
 M.pure (.normal, [v34])) (M.pure (.normal, [undef]))) fun x32 vs33=>O4 x32 (cb.bv CR (W9 v23 (.bool true) (j4 vs33 0)) fun v35=>
 b8l cb N call v35 v7 v0 v3) (fun _=>M.fail) M.fail O8) (fun _=>M.fail) M.fail O8
noncomputable def b6W (cb:Cb) (N:Nat) (call:o8) (v11:Value) (vs13:List Value) (vs16:List Value) (v6:Value) (v0:Value) (v7:Value) (v3:Value):M CR:=
 cb.bj CR (bcase (Q5 false v11) (cb.bv R2 (W9 (j4 vs13 2) (j4 vs16 2) (.bool false)) fun v22=>
 M.pure (.normal, [v22])) (M.pure (.normal, [undef]))) fun x20 vs21=>O4 x20 (cb.bv CR (W9 v11 (.bool true) (j4 vs21 0)) fun v23=>
 cb.bj CR (bcase (Q5 false v23) (cb.bv R2 (un .not v6) fun v26=>
 M.pure (.normal, [v6,v26,v26])) (M.pure (.normal, [undef,undef,undef]))) fun x24 vs25=>O4 x24 (b7j cb N call vs25 v0 v23 v7 v3) (fun _=>M.fail) M.fail O8) (fun _=>M.fail) M.fail O8
noncomputable def b8B (cb:Cb) (N:Nat) (call:o8) (v11:Value) (v5:Value) (v0:Value) (v6:Value) (v7:Value) (v3:Value):M CR:=
 cb.bj CR (bcase (Q5 false v11) (cb.bv R2 (un .not v5) fun v14=>
 M.pure (.normal, [v5,v14,v14])) (M.pure (.normal, [undef,undef,undef]))) fun x12 vs13=>O4 x12 (cb.bj CR (bcase (Q5 true (j4 vs13 2)) (cb.bv R2 (X6 1 v0) fun v17=>
 cb.bv R2 (K7 v17) fun v18=>
 cb.bv R2 (bn .neq 3 (.tmp 27) (.const (.int .i64 (.ofNat 0))) v18 (.int .i64 (.ofNat 0))) fun v19=>
 M.pure (.normal, [v17,v18,v19])) (M.pure (.normal, [undef,undef,undef]))) fun x15 vs16=>O4 x15 (b6W cb N call v11 vs13 vs16 v6 v0 v7 v3) (fun _=>M.fail) M.fail O8) (fun _=>M.fail) M.fail O8
noncomputable def b2W (cb:Cb) (N:Nat) (call:o8) (a0:Value):M CR:=
 cb.bv CR (a6Y a0) fun v0=>
 cb.bv CR (X6 0 v0) fun v1=>
 cb.bv CR (K7 v1) fun v2=>
 cb.bc CR (call 39 [v2]) (fun v3=>
 cb.bc CR (call 84 [v3]) (fun v4=>
 cb.bv CR (a9O 0 v4) fun v5=>
 cb.bv CR (a9O 1 v4) fun v6=>
 cb.bv CR (a9O 2 v4) fun v7=>
 cb.bv CR (X6 0 v0) fun v8=>
 cb.bv CR (K7 v8) fun v9=>
 cb.bc CR (call 85 [v9]) (fun v10=>
 cb.bv CR (un .not v10) fun v11=>
 b8B cb N call v11 v5 v0 v6 v7 v3) O8) O8) O8
theorem c8C (cb:Cb) (N:Nat) (call:o8) (a0:Value):Y9 Tryz.prog R4 cb false N call Tryz.f34 c34 e1I [a0]=b2W cb N call a0:=by kernel_rfl
noncomputable def c36:Code:=a0g Tryz.f36
noncomputable def e3Z:Pl:=.d
noncomputable def a9s:List Oper:=a6e c36 0
noncomputable def a4b (call:o8) (u0:Value) (u1:Value) (u2:Value) (u3:Value) (u4:Value) (u5:Value) (u6:Value):M R2:=
 M.bind (M.foot (K7 u5)) fun y0=>
 M.bind (M.foot (M.pure u0)) fun y1=>
 M.bind (M.foot (a1M call 37 [y1.1])) fun y2=>
 M.bind (M.foot (a1W 1 1 [(0, 1)] [y2.1] [(.string ⟨⟨[]⟩⟩)])) fun y3=>
 M.bind (M.foot (a3S ti9 y0.1 y3.1)) fun y4=>
 M.bind (M.foot (a4B 1 u5 y4.1)) fun y5=>
 M.guard (a0A a9s (a1Y a9s [y0.2,y1.2,y2.2,y3.2,y4.2,y5.2]) [] [] 0) (M.pure (.normal, [y0.1,y1.1,y2.1,y3.1,y4.1]))
theorem a2u (call:o8) (u0:Value) (u1:Value) (u2:Value) (u3:Value) (u4:Value) (u5:Value) (u6:Value):dr call a9s 8 [0, 4, 5, 3, 6, 1, 7] [u0,u1,u2,u3,u4,u5,u6] [3, 4, 5, 6, 7]=a4b call u0 u1 u2 u3 u4 u5 u6:=(a4l _ _ _ _ _ _ _ _).trans (by kernel_rfl)
theorem a2v {F:List a2X} (hl:L9 F=6) (h:a3R [(0, 1),(0, 2),(0, 3)] F=true):a0A a9s (a1Y a9s F) [] [] 0=true:=a4S (L:=[(0, 1),(0, 2),(0, 3)]) (by kernel_rfl) (by kernel_rfl) hl h
noncomputable def a3V (cb:Cb) (N:Nat) (call:o8) (a0:Value) (a1:Value):M CR:=
 cb.bj CR (dr call a9s 8 [0, 4, 5, 3, 6, 1, 7] [a0,undef,undef,undef,undef,a1,undef] [3, 4, 5, 6, 7]) fun _ vs0=>
 M.pure (.ret (.tuple ⟨[]⟩))
theorem c8j (cb:Cb) (N:Nat) (call:o8) (a0:Value) (a1:Value):Y9 Tryz.prog R4 cb false N call Tryz.f36 c36 e3Z [a0,a1]=a3V cb N call a0 a1:=by kernel_rfl
noncomputable def c38:Code:=a0g Tryz.f38
noncomputable def e3m:Pl:=.d
noncomputable def a2J (cb:Cb) (N:Nat) (call:o8) (a0:Value) (a1:Value):M CR:=
 cb.bv CR (bn .neq 3 (.tmp 3) (.const (.int .i64 (.ofNat 0))) a0 (.int .i64 (.ofNat 0))) fun v0=>
 K5 v0 (
 cb.bv CR (K7 a1) fun v1=>
 M.obind (a4Q v1 [a0]) fun g2=>cb.bc CR (call g2.1 g2.2) (fun v3=>
 M.pure (.ret (.tuple ⟨[]⟩))) O8) (
 M.pure (.ret (.tuple ⟨[]⟩)))
theorem c9r (cb:Cb) (N:Nat) (call:o8) (a0:Value) (a1:Value):Y9 Tryz.prog R4 cb false N call Tryz.f38 c38 e3m [a0,a1]=a2J cb N call a0 a1:=by kernel_rfl
noncomputable def c39:Code:=a0g Tryz.f39
noncomputable def e4m:Pl:=(.s none .d (.s none (.s none .d (.s none (.s (some [5, 6, 7, 4]) .d (.s none .d (.s (some [9, 10, 8]) .d (.s none .d (.s none .d (.s none .d (.s (some [14, 15, 13]) .d (.s none .d (.s none .d (.s none .d (.s none .d (.s none .d (.s (some [21, 22, 23, 20]) .d (.s none .d (.s (some [25, 26, 24]) .d .d))))))))))))))) .d)) .d))
noncomputable def c7E (cb:Cb) (N:Nat) (call:o8) (a0:Value) (v2:Value):M R2:=
 cb.bv R2 (bn .eql 22 (.tmp 3) (.const (.int .i64 (.ofNat 3))) a0 (.int .i64 (.ofNat 3))) fun v3=>
 K5 v3 (
 M.pure (.normal, [v2,v3,undef,v3])) (
 cb.bv R2 (bn .eql 22 (.tmp 3) (.const (.int .i64 (.ofNat 4))) a0 (.int .i64 (.ofNat 4))) fun v4=>
 M.pure (.normal, [v2,v3,v4,v4]))
noncomputable def c6w (cb:Cb) (N:Nat) (call:o8) (a0:Value) (v18:Value):M R2:=
 cb.bv R2 (bn .eql 22 (.tmp 3) (.const (.int .i64 (.ofNat 33))) a0 (.int .i64 (.ofNat 33))) fun v19=>
 K5 v19 (
 M.pure (.normal, [v18,v19,undef,v19])) (
 cb.bv R2 (bn .eql 22 (.tmp 3) (.const (.int .i64 (.ofNat 34))) a0 (.int .i64 (.ofNat 34))) fun v20=>
 M.pure (.normal, [v18,v19,v20,v20]))
noncomputable def c7J (cb:Cb) (N:Nat) (call:o8) (a0:Value):M CR:=
 cb.bc CR (call 91 [a0]) (fun v28=>
 cb.bv CR (bn .gtr 3 (.tmp 34) (.const (.int .i64 (.ofNat 0))) v28 (.int .i64 (.ofNat 0))) fun v29=>
 K5 v29 (
 M.pure (.ret (.int .i64 (.ofNat 17)))) (
 cb.bc CR (call 92 [a0]) (fun v30=>
 M.pure (.ret v30)) O8)) O8
noncomputable def c6z (cb:Cb) (N:Nat) (call:o8) (a0:Value):M CR:=
 cb.bv CR (bn .eql 22 (.tmp 3) (.const (.int .i64 (.ofNat 208))) a0 (.int .i64 (.ofNat 208))) fun v27=>
 K5 v27 (
 M.pure (.ret (.int .i64 (.ofNat 20)))) (
 c7J cb N call a0)
noncomputable def c7H (cb:Cb) (N:Nat) (call:o8) (a0:Value):M CR:=
 cb.bv CR (bn .eql 22 (.tmp 3) (.const (.int .i64 (.ofNat 66))) a0 (.int .i64 (.ofNat 66))) fun v26=>
 K5 v26 (
 M.pure (.ret (.int .i64 (.ofNat 19)))) (
 c6z cb N call a0)
noncomputable def c6x (cb:Cb) (N:Nat) (call:o8) (a0:Value):M CR:=
 cb.bv CR (bn .eql 22 (.tmp 3) (.const (.int .i64 (.ofNat 65))) a0 (.int .i64 (.ofNat 65))) fun v25=>
 K5 v25 (
 M.pure (.ret (.int .i64 (.ofNat 18)))) (
 c7H cb N call a0)
noncomputable def c6I (cb:Cb) (N:Nat) (call:o8) (a0:Value):M CR:=
 cb.bj CR (cb.bv R2 (bn .eql 22 (.tmp 3) (.const (.int .i64 (.ofNat 35))) a0 (.int .i64 (.ofNat 35))) fun v23=>
 K5 v23 (
 M.pure (.normal, [v23,undef,v23])) (
 cb.bv R2 (bn .eql 22 (.tmp 3) (.const (.int .i64 (.ofNat 36))) a0 (.int .i64 (.ofNat 36))) fun v24=>
 M.pure (.normal, [v23,v24,v24]))) fun x21 vs22=>
 O4 x21 (K5 (j4 vs22 2) (
 M.pure (.ret (.int .i64 (.ofNat 8)))) (
 c6x cb N call a0)) (fun _=>M.fail) (M.fail) O8
noncomputable def c7C (cb:Cb) (N:Nat) (call:o8) (a0:Value):M CR:=
 cb.bj CR (cb.bv R2 (bn .eql 22 (.tmp 3) (.const (.int .i64 (.ofNat 32))) a0 (.int .i64 (.ofNat 32))) fun v18=>
 K5 v18 (
 M.pure (.normal, [v18,undef,undef,v18])) (
 c6w cb N call a0 v18)) fun x16 vs17=>
 O4 x16 (K5 (j4 vs17 3) (
 M.pure (.ret (.int .i64 (.ofNat 7)))) (
 c6I cb N call a0)) (fun _=>M.fail) (M.fail) O8
noncomputable def c6K (cb:Cb) (N:Nat) (call:o8) (a0:Value):M CR:=
 cb.bv CR (bn .eql 22 (.tmp 3) (.const (.int .i64 (.ofNat 28))) a0 (.int .i64 (.ofNat 28))) fun v15=>
 K5 v15 (
 M.pure (.ret (.int .i64 (.ofNat 6)))) (
 c7C cb N call a0)
noncomputable def c6D (cb:Cb) (N:Nat) (call:o8) (a0:Value):M CR:=
 cb.bv CR (bn .eql 22 (.tmp 3) (.const (.int .i64 (.ofNat 17))) a0 (.int .i64 (.ofNat 17))) fun v14=>
 K5 v14 (
 M.pure (.ret (.int .i64 (.ofNat 5)))) (
 c6K cb N call a0)
noncomputable def c3Z (cb:Cb) (N:Nat) (call:o8) (a0:Value):M CR:=
 cb.bj CR (cb.bv R2 (bn .eql 22 (.tmp 3) (.const (.int .i64 (.ofNat 16))) a0 (.int .i64 (.ofNat 16))) fun v12=>
 K5 v12 (
 M.pure (.normal, [v12,undef,v12])) (
 cb.bv R2 (bn .eql 22 (.tmp 3) (.const (.int .i64 (.ofNat 210))) a0 (.int .i64 (.ofNat 210))) fun v13=>
 M.pure (.normal, [v12,v13,v13]))) fun x10 vs11=>
 O4 x10 (K5 (j4 vs11 2) (
 M.pure (.ret (.int .i64 (.ofNat 4)))) (
 c6D cb N call a0)) (fun _=>M.fail) (M.fail) O8
noncomputable def c4C (cb:Cb) (N:Nat) (call:o8) (a0:Value):M CR:=
 cb.bv CR (bn .eql 22 (.tmp 3) (.const (.int .i64 (.ofNat 14))) a0 (.int .i64 (.ofNat 14))) fun v9=>
 K5 v9 (
 M.pure (.ret (.int .i64 (.ofNat 3)))) (
 c3Z cb N call a0)
noncomputable def c3l (cb:Cb) (N:Nat) (call:o8) (a0:Value):M CR:=
 cb.bj CR (cb.bv R2 (bn .eql 22 (.tmp 3) (.const (.int .i64 (.ofNat 12))) a0 (.int .i64 (.ofNat 12))) fun v7=>
 K5 v7 (
 M.pure (.normal, [v7,undef,v7])) (
 cb.bv R2 (bn .eql 22 (.tmp 3) (.const (.int .i64 (.ofNat 13))) a0 (.int .i64 (.ofNat 13))) fun v8=>
 M.pure (.normal, [v7,v8,v8]))) fun x5 vs6=>
 O4 x5 (K5 (j4 vs6 2) (
 M.pure (.ret (.int .i64 (.ofNat 2)))) (
 c4C cb N call a0)) (fun _=>M.fail) (M.fail) O8
noncomputable def b8p (cb:Cb) (N:Nat) (call:o8) (a0:Value):M CR:=
 cb.bj CR (cb.bv R2 (bn .eql 22 (.tmp 3) (.const (.int .i64 (.ofNat 2))) a0 (.int .i64 (.ofNat 2))) fun v2=>
 K5 v2 (
 M.pure (.normal, [v2,undef,undef,v2])) (
 c7E cb N call a0 v2)) fun x0 vs1=>
 O4 x0 (K5 (j4 vs1 3) (
 M.pure (.ret (.int .i64 (.ofNat 1)))) (
 c3l cb N call a0)) (fun _=>M.fail) (M.fail) O8
theorem c8A (cb:Cb) (N:Nat) (call:o8) (a0:Value):Y9 Tryz.prog R4 cb false N call Tryz.f39 c39 e4m [a0]=b8p cb N call a0:=by kernel_rfl
noncomputable def c40:Code:=a0g Tryz.f40
noncomputable def e3l:Pl:=.d
noncomputable def c7m (cb:Cb) (N:Nat) (call:o8) (a0:Value):M CR:=
 cb.bv CR (bn .eql 24 (.tmp 3) (.const (.int .i64 (.ofNat 4))) a0 (.int .i64 (.ofNat 4))) fun v3=>
 K5 v3 (
 M.pure (.ret (.string ⟨⟨[101, 120, 116, 101, 114, 110, 114, 101, 102]⟩⟩))) (
 M.pure (.ret (.string ⟨⟨[]⟩⟩)))
noncomputable def c7h (cb:Cb) (N:Nat) (call:o8) (a0:Value):M CR:=
 cb.bv CR (bn .eql 24 (.tmp 3) (.const (.int .i64 (.ofNat 3))) a0 (.int .i64 (.ofNat 3))) fun v2=>
 K5 v2 (
 M.pure (.ret (.string ⟨⟨[102, 117, 110, 99, 114, 101, 102]⟩⟩))) (
 c7m cb N call a0)
noncomputable def c7L (cb:Cb) (N:Nat) (call:o8) (a0:Value):M CR:=
 cb.bv CR (bn .eql 24 (.tmp 3) (.const (.int .i64 (.ofNat 2))) a0 (.int .i64 (.ofNat 2))) fun v1=>
 K5 v1 (
 M.pure (.ret (.string ⟨⟨[105, 54, 52]⟩⟩))) (
 c7h cb N call a0)
noncomputable def b7i (cb:Cb) (N:Nat) (call:o8) (a0:Value):M CR:=
 cb.bv CR (bn .eql 24 (.tmp 3) (.const (.int .i64 (.ofNat 1))) a0 (.int .i64 (.ofNat 1))) fun v0=>
 K5 v0 (
 M.pure (.ret (.string ⟨⟨[105, 51, 50]⟩⟩))) (
 c7L cb N call a0)
theorem c9n (cb:Cb) (N:Nat) (call:o8) (a0:Value):Y9 Tryz.prog R4 cb false N call Tryz.f40 c40 e3l [a0]=b7i cb N call a0:=by kernel_rfl
noncomputable def c41:Code:=a0g Tryz.f41
noncomputable def e2t:Pl:=(.s none .d (.s none .d (.s (some [4, 5, 6, 7, 8, 9, 10, 11, 12, 13, 3]) .d .d)))
noncomputable def b2g:List Oper:=a6e c41 4
noncomputable def b3s (call:o8) (u0:Value) (u1:Value) (u2:Value) (u3:Value) (u4:Value) (u5:Value):M R2:=
 M.bind (M.foot (X6 1 u1)) fun y0=>
 M.bind (M.foot (K7 y0.1)) fun y1=>
 M.bind (M.foot (X6 0 u1)) fun y2=>
 M.bind (M.foot (K7 y2.1)) fun y3=>
 M.bind (M.foot (a1M call 94 [y3.1])) fun y4=>
 M.bind (M.foot (bn .neq 3 (.tmp 15) (.tmp 18) y1.1 y4.1)) fun y5=>
 M.guard (a0A b2g (a1Y b2g [y0.2,y1.2,y2.2,y3.2,y4.2,y5.2]) [] [] 0) (M.pure (.normal, [y0.1,y1.1,y2.1,y3.1,y4.1,y5.1]))
theorem b0F (call:o8) (u0:Value) (u1:Value) (u2:Value) (u3:Value) (u4:Value) (u5:Value):dr call b2g 29 [14, 1, 16, 17, 15, 18] [u0,u1,u2,u3,u4,u5] [14, 15, 16, 17, 18, 19]=b3s call u0 u1 u2 u3 u4 u5:=(a4l _ _ _ _ _ _ _ _).trans (by kernel_rfl)
theorem b1h {F:List a2X} (hl:L9 F=6) (h:a3R [(0, 2),(1, 2),(0, 3),(1, 3),(0, 4),(1, 4)] F=true):a0A b2g (a1Y b2g F) [] [] 0=true:=a4S (L:=[(0, 2),(1, 2),(0, 3),(1, 3),(0, 4),(1, 4)]) (by kernel_rfl) (by kernel_rfl) hl h
noncomputable def b4q (cb:Cb) (N:Nat) (call:o8) (v0:Value) (v3:Value) (v4:Value) (v5:Value):M R2:=
 cb.bv R2 (X6 3 v0) fun v6=>
 cb.bv R2 (K7 v6) fun v7=>
 cb.bc R2 (call 93 [v7,(.int .i64 (.ofNat 10))]) (fun v8=>
 cb.bv R2 (bn .add 9 (.const (.string ⟨⟨[111, 102, 102, 115, 101, 116, 61]⟩⟩)) (.tmp 10) (.string ⟨⟨[111, 102, 102, 115, 101, 116, 61]⟩⟩) v8) fun v9=>
 cb.bv R2 (a1W 1 1 [(0, 1)] [v9] [(.string ⟨⟨[]⟩⟩)]) fun v10=>
 cb.bv R2 (a3S ti9 (.slice none 0 0) v10) fun v11=>
 M.pure (.normal, [v3,v4,v5,(.slice none 0 0),v6,v7,v8,v9,v10,v11,v11])) O8
noncomputable def b3D (cb:Cb) (N:Nat) (call:o8) (v0:Value) (vs2:List Value):M CR:=
 cb.bv CR (X6 1 v0) fun v13=>
 cb.bv CR (K7 v13) fun v14=>
 cb.bv CR (bn .shl 23 (.const (.int .u64 (.ofNat 1))) (.tmp 22) (.int .u64 (.ofNat 1)) v14) fun v15=>
 cb.bc CR (call 93 [v15,(.int .i64 (.ofNat 10))]) (fun v16=>
 cb.bv CR (bn .add 9 (.const (.string ⟨⟨[97, 108, 105, 103, 110, 61]⟩⟩)) (.tmp 24) (.string ⟨⟨[97, 108, 105, 103, 110, 61]⟩⟩) v16) fun v17=>
 cb.bv CR (a1W 1 1 [(0, 1)] [v17] [(.string ⟨⟨[]⟩⟩)]) fun v18=>
 cb.bv CR (a3S ti9 (j4 vs2 10) v18) fun v19=>
 M.pure (.ret v19)) O8
noncomputable def b4h (cb:Cb) (N:Nat) (call:o8) (v0:Value):M CR:=
 cb.bj CR (cb.bv R2 (X6 3 v0) fun v3=>
 cb.bv R2 (K7 v3) fun v4=>
 cb.bv R2 (bn .neq 23 (.tmp 5) (.const (.int .u64 (.ofNat 0))) v4 (.int .u64 (.ofNat 0))) fun v5=>
 K5 v5 (
 b4q cb N call v0 v3 v4 v5) (
 M.pure (.normal, [v3,v4,v5,undef,undef,undef,undef,undef,undef,undef,(.slice none 0 0)]))) fun x1 vs2=>
 O4 x1 (cb.bj CR (dr call b2g 29 [14, 1, 16, 17, 15, 18] [undef,v0,undef,undef,undef,undef] [14, 15, 16, 17, 18, 19]) fun _ vs12=>
 K5 (j4 vs12 5) (
 b3D cb N call v0 vs2) (
 M.pure (.ret (j4 vs2 10)))) (fun _=>M.fail) (M.fail) O8
noncomputable def b2a (cb:Cb) (N:Nat) (call:o8) (a0:Value):M CR:=
 cb.bv CR (a6Y a0) fun v0=>
 b4h cb N call v0
theorem c8U (cb:Cb) (N:Nat) (call:o8) (a0:Value):Y9 Tryz.prog R4 cb false N call Tryz.f41 c41 e2t [a0]=b2a cb N call a0:=by kernel_rfl
noncomputable def c42:Code:=a0g Tryz.f42
noncomputable def e2M:Pl:=.d
noncomputable def c2A (cb:Cb) (N:Nat) (call:o8) (a1:Value) (a0:Value):M CR:=
 cb.bv CR (bn .sub 3 (.const (.int .i64 (.ofNat 64))) (.tmp 13) (.int .i64 (.ofNat 64)) a1) fun v5=>
 cb.bv CR (bn .shl 23 (.tmp 12) (.tmp 14) a0 v5) fun v6=>
 cb.bv CR (b0T .i64 v6) fun v7=>
 cb.bv CR (bn .sub 3 (.const (.int .i64 (.ofNat 64))) (.tmp 17) (.int .i64 (.ofNat 64)) a1) fun v8=>
 cb.bv CR (bn .shr 2 (.tmp 16) (.tmp 18) v7 v8) fun v9=>
 cb.bc CR (call 95 [v9,(.int .i64 (.ofNat 10))]) (fun v10=>
 M.pure (.ret v10)) O8
noncomputable def b1T (cb:Cb) (N:Nat) (call:o8) (a0:Value) (a1:Value):M CR:=
 cb.bv CR (bn .lss 3 (.tmp 6) (.const (.int .i64 (.ofNat 1))) a1 (.int .i64 (.ofNat 1))) fun v0=>
 cb.bj CR (bcase (Q5 false v0) (cb.bv R2 (bn .gtr 3 (.tmp 9) (.const (.int .i64 (.ofNat 64))) a1 (.int .i64 (.ofNat 64))) fun v3=>
 M.pure (.normal, [a1,v3])) (M.pure (.normal, [undef,undef]))) fun x1 vs2=>O4 x1 (cb.bv CR (W9 v0 (.bool true) (j4 vs2 1)) fun v4=>
 K5 v4 (
 M.pure (.ret (.string ⟨⟨[]⟩⟩))) (
 c2A cb N call a1 a0)) (fun _=>M.fail) M.fail O8
theorem c9x (cb:Cb) (N:Nat) (call:o8) (a0:Value) (a1:Value):Y9 Tryz.prog R4 cb false N call Tryz.f42 c42 e2M [a0,a1]=b1T cb N call a0 a1:=by kernel_rfl
noncomputable def c43:Code:=a0g Tryz.f43
noncomputable def e2E:Pl:=.d
noncomputable def b6D (cb:Cb) (N:Nat) (call:o8) (a0:Value):M CR:=
 cb.bv CR (bn .eql 24 (.tmp 3) (.const (.int .i64 (.ofNat 3))) a0 (.int .i64 (.ofNat 3))) fun v0=>
 K5 v0 (
 M.pure (.ret (.string ⟨⟨[102, 117, 110, 99]⟩⟩))) (
 M.pure (.ret (.string ⟨⟨[101, 120, 116, 101, 114, 110]⟩⟩)))
theorem c8w (cb:Cb) (N:Nat) (call:o8) (a0:Value):Y9 Tryz.prog R4 cb false N call Tryz.f43 c43 e2E [a0]=b6D cb N call a0:=by kernel_rfl
noncomputable def c44:Code:=a0g Tryz.f44
noncomputable def e2d:Pl:=.d
noncomputable def a2F (cb:Cb) (N:Nat) (call:o8) (a0:Value):M CR:=
 cb.bc CR (call 96 [a0,(.string ⟨⟨[32]⟩⟩)]) (fun v0=>
 M.pure (.ret v0)) O8
theorem c7Q (cb:Cb) (N:Nat) (call:o8) (a0:Value):Y9 Tryz.prog R4 cb false N call Tryz.f44 c44 e2d [a0]=a2F cb N call a0:=by kernel_rfl
noncomputable def c45:Code:=a0g Tryz.f45
noncomputable def e1R:Pl:=.d
noncomputable def b4I (cb:Cb) (N:Nat) (call:o8) (a0:Value):M CR:=
 cb.bc CR (call 97 [a0]) (fun v0=>
 cb.bv CR (a9O 0 v0) fun v1=>
 cb.bv CR (a9O 1 v0) fun v2=>
 cb.bv CR (b0P [(.int .i64 (.ofNat 0)),(.string ⟨⟨[]⟩⟩),(.int .i64 (.ofNat 0))]) fun v3=>
 cb.bv CR (a4B 3 v3 v1) fun v4=>
 cb.bv CR (X6 1 v3) fun v5=>
 cb.bv CR (K7 v5) fun v6=>
 M.pure (.ret v6)) O8
theorem c8p (cb:Cb) (N:Nat) (call:o8) (a0:Value):Y9 Tryz.prog R4 cb false N call Tryz.f45 c45 e1R [a0]=b4I cb N call a0:=by kernel_rfl
noncomputable def c46:Code:=a0g Tryz.f46
noncomputable def e3o:Pl:=.d
noncomputable def b4F (cb:Cb) (N:Nat) (call:o8) (a0:Value):M CR:=
 cb.bc CR (call 97 [a0]) (fun v0=>
 cb.bv CR (a9O 0 v0) fun v1=>
 cb.bv CR (a9O 1 v0) fun v2=>
 cb.bv CR (b0P [(.int .i64 (.ofNat 0)),(.string ⟨⟨[]⟩⟩),(.int .i64 (.ofNat 0))]) fun v3=>
 cb.bv CR (a4B 3 v3 v1) fun v4=>
 cb.bv CR (X6 2 v3) fun v5=>
 cb.bv CR (K7 v5) fun v6=>
 M.pure (.ret v6)) O8
theorem c8T (cb:Cb) (N:Nat) (call:o8) (a0:Value):Y9 Tryz.prog R4 cb false N call Tryz.f46 c46 e3o [a0]=b4F cb N call a0:=by kernel_rfl
noncomputable def c47:Code:=a0g Tryz.f47
noncomputable def e3a:Pl:=.d
noncomputable def b6Z (cb:Cb) (N:Nat) (call:o8) (a0:Value):M CR:=
 cb.bv CR (b0T .u64 a0) fun v0=>
 cb.bc CR (call 25 [v0]) (fun v1=>
 cb.bv CR (bn .add 9 (.const (.string ⟨⟨[32]⟩⟩)) (.tmp 5) (.string ⟨⟨[32]⟩⟩) v1) fun v2=>
 M.pure (.ret v2)) O8
theorem c8Z (cb:Cb) (N:Nat) (call:o8) (a0:Value):Y9 Tryz.prog R4 cb false N call Tryz.f47 c47 e3a [a0]=b6Z cb N call a0:=by kernel_rfl
noncomputable def c48:Code:=a0g Tryz.f48
noncomputable def e2r:Pl:=(.s none .d (.s none .d (.s none (.s none .d (.s none (.l [5, 6, 7, 8, 9, 12, 13, 14, 15, 16, 17, 18, 19, 3, 10, 11, 4] .d) .d)) .d)))
noncomputable def c2s (cb:Cb) (N:Nat) (call:o8) (v0:Value) (xs1:List Value) (v4:Value) (v5:Value) (v6:Value) (v7:Value):M R2:=
 cb.bv R2 (X6 8 v0) fun v8=>
 cb.bv R2 (K7 v8) fun v9=>
 cb.bv R2 (a4X 1 v9 (j4 xs1 16)) fun v10=>
 cb.bv R2 (K7 v10) fun v11=>
 cb.bc R2 (call 47 [v11]) (fun v12=>
 cb.bv R2 (bn .add 9 (.tmp 12) (.tmp 18) (j4 xs1 13) v12) fun v13=>
 cb.bv R2 (bn .add 3 (.tmp 10) (.const (.int .i64 (.ofNat 1))) (j4 xs1 16) (.int .i64 (.ofNat 1))) fun v14=>
 M.pure (.normal, [(j4 xs1 16),v4,v5,v6,v7,(j4 xs1 13),v8,v9,(j4 xs1 16),v10,v11,v12,v13,v13,(j4 xs1 16),v14,v14])) O8
noncomputable def c2C (cb:Cb) (N:Nat) (call:o8) (xs1:List Value) (v4:Value) (v5:Value) (v6:Value) (v7:Value):M R2:=
 M.pure (.exit 0, [(j4 xs1 16),v4,v5,v6,v7,(j4 xs1 5),(j4 xs1 6),(j4 xs1 7),(j4 xs1 8),(j4 xs1 9),(j4 xs1 10),(j4 xs1 11),(j4 xs1 12),(j4 xs1 13),(j4 xs1 14),(j4 xs1 15),(j4 xs1 16)])
noncomputable def b5W (cb:Cb) (N:Nat) (call:o8) (v0:Value) (xs1:List Value):M R2:=
 cb.bv R2 (X6 8 v0) fun v4=>
 cb.bv R2 (K7 v4) fun v5=>
 cb.bv R2 (a3U v5) fun v6=>
 cb.bv R2 (bn .lss 3 (.tmp 5) (.tmp 8) (j4 xs1 16) v6) fun v7=>
 K5 v7 (
 c2s cb N call v0 xs1 v4 v5 v6 v7) (
 c2C cb N call xs1 v4 v5 v6 v7)
noncomputable def b8z (cb:Cb) (N:Nat) (call:o8) (a0:Value):M CR:=
 cb.bv CR (a6Y a0) fun v0=>
 cb.bj CR (cb.lp (b5W cb N call v0) N [undef,undef,undef,undef,undef,undef,undef,undef,undef,undef,undef,undef,undef,(.string ⟨⟨[]⟩⟩),undef,undef,(.int .i64 (.ofNat 0))]) fun x2 vs3=>
 O4 x2 (M.fail) (fun i15=>bcase (Nat.beq i15 0) (cb.bv CR (X6 1 v0) fun v16=>
 cb.bv CR (K7 v16) fun v17=>
 cb.bc CR (call 47 [v17]) (fun v18=>
 cb.bv CR (bn .add 9 (.tmp 20) (.tmp 23) (j4 vs3 13) v18) fun v19=>
 M.pure (.ret v19)) O8) (M.fail)) (M.fail) O8
theorem c7N (cb:Cb) (N:Nat) (call:o8) (a0:Value):Y9 Tryz.prog R4 cb false N call Tryz.f48 c48 e2r [a0]=b8z cb N call a0:=by kernel_rfl
noncomputable def c49:Code:=a0g Tryz.f49
noncomputable def e3x:Pl:=.d
noncomputable def b7Z (cb:Cb) (N:Nat) (call:o8) (a0:Value):M CR:=
 cb.bv CR (bn .eql 3 (.tmp 3) (.const (.int .i64 (.ofNat 0))) a0 (.int .i64 (.ofNat 0))) fun v0=>
 K5 v0 (
 M.pure (.ret (.string ⟨⟨[]⟩⟩))) (
 cb.bc CR (call 47 [a0]) (fun v1=>
 M.pure (.ret v1)) O8)
theorem c8I (cb:Cb) (N:Nat) (call:o8) (a0:Value):Y9 Tryz.prog R4 cb false N call Tryz.f49 c49 e3x [a0]=b7Z cb N call a0:=by kernel_rfl
noncomputable def c50:Code:=a0g Tryz.f50
noncomputable def e3p:Pl:=.d
noncomputable def c6V (cb:Cb) (N:Nat) (call:o8) (a0:Value):M CR:=
 cb.bv CR (a1W 1 5 [(0, 1),(1, 1),(2, 1),(3, 1),(4, 1)] [(.string ⟨⟨[]⟩⟩),(.string ⟨⟨[105, 51, 50]⟩⟩),(.string ⟨⟨[105, 54, 52]⟩⟩),(.string ⟨⟨[102, 117, 110, 99, 114, 101, 102]⟩⟩),(.string ⟨⟨[101, 120, 116, 101, 114, 110, 114, 101, 102]⟩⟩)] [(.string ⟨⟨[]⟩⟩),(.string ⟨⟨[]⟩⟩),(.string ⟨⟨[]⟩⟩),(.string ⟨⟨[]⟩⟩),(.string ⟨⟨[]⟩⟩)]) fun v2=>
 cb.bv CR (a4X 1 v2 a0) fun v3=>
 cb.bv CR (K7 v3) fun v4=>
 M.pure (.ret v4)
noncomputable def b8A (cb:Cb) (N:Nat) (call:o8) (a0:Value):M CR:=
 cb.bc CR (call 54 [a0]) (fun v0=>
 cb.bv CR (un .not v0) fun v1=>
 K5 v1 (
 M.pure (.ret (.string ⟨⟨[]⟩⟩))) (
 c6V cb N call a0)) O8
theorem c8D (cb:Cb) (N:Nat) (call:o8) (a0:Value):Y9 Tryz.prog R4 cb false N call Tryz.f50 c50 e3p [a0]=b8A cb N call a0:=by kernel_rfl
noncomputable def c51:Code:=a0g Tryz.f51
noncomputable def e1G:Pl:=.d
noncomputable def c6S (cb:Cb) (N:Nat) (call:o8) (a0:Value) (a1:Value):M CR:=
 cb.bc CR (call 47 [a0]) (fun v5=>
 cb.bc CR (call 47 [a1]) (fun v6=>
 cb.bv CR (bn .add 9 (.tmp 12) (.tmp 14) v5 v6) fun v7=>
 M.pure (.ret v7)) O8) O8
noncomputable def b7B (cb:Cb) (N:Nat) (call:o8) (a0:Value) (a1:Value):M CR:=
 cb.bv CR (bn .eql 3 (.tmp 5) (.const (.int .i64 (.ofNat 0))) a0 (.int .i64 (.ofNat 0))) fun v0=>
 cb.bj CR (bcase (Q5 true v0) (cb.bv R2 (bn .eql 3 (.tmp 8) (.const (.int .i64 (.ofNat 0))) a1 (.int .i64 (.ofNat 0))) fun v3=>
 M.pure (.normal, [a1,v3])) (M.pure (.normal, [undef,undef]))) fun x1 vs2=>O4 x1 (cb.bv CR (W9 v0 (j4 vs2 1) (.bool false)) fun v4=>
 K5 v4 (
 M.pure (.ret (.string ⟨⟨[]⟩⟩))) (
 c6S cb N call a0 a1)) (fun _=>M.fail) M.fail O8
theorem c8e (cb:Cb) (N:Nat) (call:o8) (a0:Value) (a1:Value):Y9 Tryz.prog R4 cb false N call Tryz.f51 c51 e1G [a0,a1]=b7B cb N call a0 a1:=by kernel_rfl
noncomputable def c52:Code:=a0g Tryz.f52
noncomputable def e1X:Pl:=(.s none .d (.s none .d (.s (some [7, 8, 9, 10, 11, 12, 13, 14, 15, 3]) .d .d)))
noncomputable def b2r:List Oper:=a6e c52 4
noncomputable def b3I (call:o8) (u0:Value) (u1:Value) (u2:Value) (u3:Value) (u4:Value) (u5:Value):M R2:=
 M.bind (M.foot (X6 1 u1)) fun y0=>
 M.bind (M.foot (K7 y0.1)) fun y1=>
 M.bind (M.foot (X6 0 u1)) fun y2=>
 M.bind (M.foot (K7 y2.1)) fun y3=>
 M.bind (M.foot (a1M call 98 [y3.1])) fun y4=>
 M.bind (M.foot (bn .neq 3 (.tmp 17) (.tmp 20) y1.1 y4.1)) fun y5=>
 M.guard (a0A b2r (a1Y b2r [y0.2,y1.2,y2.2,y3.2,y4.2,y5.2]) [] [] 0) (M.pure (.normal, [y0.1,y1.1,y2.1,y3.1,y4.1,y5.1]))
theorem b0Y (call:o8) (u0:Value) (u1:Value) (u2:Value) (u3:Value) (u4:Value) (u5:Value):dr call b2r 30 [16, 1, 18, 19, 17, 20] [u0,u1,u2,u3,u4,u5] [16, 17, 18, 19, 20, 21]=b3I call u0 u1 u2 u3 u4 u5:=(a4l _ _ _ _ _ _ _ _).trans (by kernel_rfl)
theorem b1g {F:List a2X} (hl:L9 F=6) (h:a3R [(0, 2),(1, 2),(0, 3),(1, 3),(0, 4),(1, 4)] F=true):a0A b2r (a1Y b2r F) [] [] 0=true:=a4S (L:=[(0, 2),(1, 2),(0, 3),(1, 3),(0, 4),(1, 4)]) (by kernel_rfl) (by kernel_rfl) hl h
noncomputable def b3K (cb:Cb) (N:Nat) (call:o8) (v3:Value) (v0:Value) (v6:Value) (v7:Value) (v8:Value):M R2:=
 cb.bv R2 (bn .add 9 (.tmp 10) (.const (.string ⟨⟨[32, 111, 102, 102, 115, 101, 116, 61]⟩⟩)) v3 (.string ⟨⟨[32, 111, 102, 102, 115, 101, 116, 61]⟩⟩)) fun v9=>
 cb.bv R2 (X6 3 v0) fun v10=>
 cb.bv R2 (K7 v10) fun v11=>
 cb.bc R2 (call 25 [v11]) (fun v12=>
 cb.bv R2 (bn .add 9 (.tmp 11) (.tmp 14) v9 v12) fun v13=>
 M.pure (.normal, [v6,v7,v8,v3,v9,v10,v11,v12,v13,v13])) O8
noncomputable def b4n (cb:Cb) (N:Nat) (call:o8) (vs5:List Value) (v0:Value):M CR:=
 cb.bv CR (bn .add 9 (.tmp 22) (.const (.string ⟨⟨[32, 97, 108, 105, 103, 110, 61]⟩⟩)) (j4 vs5 9) (.string ⟨⟨[32, 97, 108, 105, 103, 110, 61]⟩⟩)) fun v15=>
 cb.bv CR (X6 1 v0) fun v16=>
 cb.bv CR (K7 v16) fun v17=>
 cb.bv CR (bn .shl 23 (.const (.int .u64 (.ofNat 1))) (.tmp 25) (.int .u64 (.ofNat 1)) v17) fun v18=>
 cb.bc CR (call 25 [v18]) (fun v19=>
 cb.bv CR (bn .add 9 (.tmp 23) (.tmp 27) v15 v19) fun v20=>
 M.pure (.ret v20)) O8
noncomputable def b4d (cb:Cb) (N:Nat) (call:o8) (v0:Value) (v3:Value):M CR:=
 cb.bj CR (cb.bv R2 (X6 3 v0) fun v6=>
 cb.bv R2 (K7 v6) fun v7=>
 cb.bv R2 (bn .neq 23 (.tmp 8) (.const (.int .u64 (.ofNat 0))) v7 (.int .u64 (.ofNat 0))) fun v8=>
 K5 v8 (
 b3K cb N call v3 v0 v6 v7 v8) (
 M.pure (.normal, [v6,v7,v8,undef,undef,undef,undef,undef,undef,v3]))) fun x4 vs5=>
 O4 x4 (cb.bj CR (dr call b2r 30 [16, 1, 18, 19, 17, 20] [undef,v0,undef,undef,undef,undef] [16, 17, 18, 19, 20, 21]) fun _ vs14=>
 K5 (j4 vs14 5) (
 b4n cb N call vs5 v0) (
 M.pure (.ret (j4 vs5 9)))) (fun _=>M.fail) (M.fail) O8
noncomputable def b1S (cb:Cb) (N:Nat) (call:o8) (a0:Value):M CR:=
 cb.bv CR (a6Y a0) fun v0=>
 cb.bv CR (X6 2 v0) fun v1=>
 cb.bv CR (K7 v1) fun v2=>
 cb.bc CR (call 49 [v2]) (fun v3=>
 b4d cb N call v0 v3) O8
theorem c9e (cb:Cb) (N:Nat) (call:o8) (a0:Value):Y9 Tryz.prog R4 cb false N call Tryz.f52 c52 e1X [a0]=b1S cb N call a0:=by kernel_rfl
noncomputable def c53:Code:=a0g Tryz.f53
noncomputable def e3c:Pl:=.d
noncomputable def b3X (cb:Cb) (N:Nat) (call:o8) (v9:Value) (v6:Value):M CR:=
 cb.bv CR (bn .sub 23 (.tmp 27) (.tmp 28) v9 v6) fun v12=>
 cb.bv CR (bn .sub 23 (.tmp 26) (.tmp 29) v6 v12) fun v13=>
 cb.bc CR (call 25 [v13]) (fun v14=>
 cb.bv CR (bn .add 9 (.const (.string ⟨⟨[45]⟩⟩)) (.tmp 31) (.string ⟨⟨[45]⟩⟩) v14) fun v15=>
 M.pure (.ret v15)) O8
noncomputable def b3i (cb:Cb) (N:Nat) (call:o8) (a1:Value) (a0:Value):M CR:=
 cb.bv CR (bn .sub 3 (.tmp 12) (.const (.int .i64 (.ofNat 1))) a1 (.int .i64 (.ofNat 1))) fun v5=>
 cb.bv CR (bn .shl 23 (.const (.int .u64 (.ofNat 1))) (.tmp 13) (.int .u64 (.ofNat 1)) v5) fun v6=>
 cb.bv CR (bn .sub 23 (.tmp 16) (.const (.int .u64 (.ofNat 1))) v6 (.int .u64 (.ofNat 1))) fun v7=>
 cb.bv CR (bn .add 23 (.tmp 17) (.tmp 18) v7 v6) fun v8=>
 cb.bv CR (bn .and 23 (.tmp 15) (.tmp 19) a0 v8) fun v9=>
 cb.bv CR (bn .lss 23 (.tmp 21) (.tmp 22) v9 v6) fun v10=>
 K5 v10 (
 cb.bc CR (call 25 [v9]) (fun v11=>
 M.pure (.ret v11)) O8) (
 b3X cb N call v9 v6)
noncomputable def a9P (cb:Cb) (N:Nat) (call:o8) (a0:Value) (a1:Value):M CR:=
 cb.bv CR (bn .lss 3 (.tmp 6) (.const (.int .i64 (.ofNat 1))) a1 (.int .i64 (.ofNat 1))) fun v0=>
 cb.bj CR (bcase (Q5 false v0) (cb.bv R2 (bn .gtr 3 (.tmp 9) (.const (.int .i64 (.ofNat 64))) a1 (.int .i64 (.ofNat 64))) fun v3=>
 M.pure (.normal, [a1,v3])) (M.pure (.normal, [undef,undef]))) fun x1 vs2=>O4 x1 (cb.bv CR (W9 v0 (.bool true) (j4 vs2 1)) fun v4=>
 K5 v4 (
 M.pure (.ret (.string ⟨⟨[]⟩⟩))) (
 b3i cb N call a1 a0)) (fun _=>M.fail) M.fail O8
theorem c8G (cb:Cb) (N:Nat) (call:o8) (a0:Value) (a1:Value):Y9 Tryz.prog R4 cb false N call Tryz.f53 c53 e3c [a0,a1]=a9P cb N call a0 a1:=by kernel_rfl
noncomputable def c54:Code:=a0g Tryz.f54
noncomputable def e4q:Pl:=.d
noncomputable def b7N (cb:Cb) (N:Nat) (call:o8) (a0:Value):M CR:=
 cb.bv CR (bn .geq 24 (.tmp 3) (.const (.int .i64 (.ofNat 1))) a0 (.int .i64 (.ofNat 1))) fun v0=>
 cb.bj CR (bcase (Q5 true v0) (cb.bv R2 (bn .leq 24 (.tmp 6) (.const (.int .i64 (.ofNat 4))) a0 (.int .i64 (.ofNat 4))) fun v3=>
 M.pure (.normal, [a0,v3])) (M.pure (.normal, [undef,undef]))) fun x1 vs2=>O4 x1 (cb.bv CR (W9 v0 (j4 vs2 1) (.bool false)) fun v4=>
 M.pure (.ret v4)) (fun _=>M.fail) M.fail O8
theorem c8l (cb:Cb) (N:Nat) (call:o8) (a0:Value):Y9 Tryz.prog R4 cb false N call Tryz.f54 c54 e4q [a0]=b7N cb N call a0:=by kernel_rfl
noncomputable def c55:Code:=a0g Tryz.f55
noncomputable def e1U:Pl:=.d
noncomputable def b9o (cb:Cb) (N:Nat) (call:o8) (a0:Value):M CR:=
 cb.bv CR (b0T .u64 a0) fun v0=>
 cb.bc CR (call 53 [v0,(.int .i64 (.ofNat 64))]) (fun v1=>
 M.pure (.ret v1)) O8
theorem c8x (cb:Cb) (N:Nat) (call:o8) (a0:Value):Y9 Tryz.prog R4 cb false N call Tryz.f55 c55 e1U [a0]=b9o cb N call a0:=by kernel_rfl
noncomputable def c57:Code:=a0g Tryz.f57
noncomputable def e3g:Pl:=.d
noncomputable def b4Q (cb:Cb) (N:Nat) (call:o8) (a0:Value):M CR:=
 cb.bc CR (call 97 [a0]) (fun v0=>
 cb.bv CR (a9O 0 v0) fun v1=>
 cb.bv CR (a9O 1 v0) fun v2=>
 cb.bv CR (b0P [(.int .i64 (.ofNat 0)),(.string ⟨⟨[]⟩⟩),(.int .i64 (.ofNat 0))]) fun v3=>
 cb.bv CR (a4B 3 v3 v1) fun v4=>
 M.pure (.ret v2)) O8
theorem c7P (cb:Cb) (N:Nat) (call:o8) (a0:Value):Y9 Tryz.prog R4 cb false N call Tryz.f57 c57 e3g [a0]=b4Q cb N call a0:=by kernel_rfl
noncomputable def c58:Code:=a0g Tryz.f58
noncomputable def e2T:Pl:=.d
noncomputable def c7j (cb:Cb) (N:Nat) (call:o8) (v5:Value) (v0:Value):M CR:=
 cb.bv CR (bn .eql 24 (.tmp 8) (.const (.int .i64 (.ofNat 0))) v5 (.int .i64 (.ofNat 0))) fun v6=>
 cb.bj CR (bcase (Q5 true v6) (cb.bv R2 (X6 2 v0) fun v9=>
 cb.bv R2 (K7 v9) fun v10=>
 cb.bv R2 (bn .eql 3 (.tmp 12) (.const (.int .i64 (.ofNat 0))) v10 (.int .i64 (.ofNat 0))) fun v11=>
 M.pure (.normal, [v9,v10,v11])) (M.pure (.normal, [undef,undef,undef]))) fun x7 vs8=>O4 x7 (cb.bv CR (W9 v6 (j4 vs8 2) (.bool false)) fun v12=>
 M.pure (.ret v12)) (fun _=>M.fail) M.fail O8
noncomputable def c6N (cb:Cb) (N:Nat) (call:o8) (v0:Value):M CR:=
 cb.bv CR (X6 1 v0) fun v14=>
 cb.bv CR (K7 v14) fun v15=>
 cb.bc CR (call 61 [v15]) (fun v16=>
 cb.bj CR (bcase (Q5 true v16) (cb.bv R2 (X6 2 v0) fun v19=>
 cb.bv R2 (K7 v19) fun v20=>
 cb.bv R2 (bn .eql 3 (.tmp 22) (.const (.int .i64 (.ofNat 0))) v20 (.int .i64 (.ofNat 0))) fun v21=>
 M.pure (.normal, [v19,v20,v21])) (M.pure (.normal, [undef,undef,undef]))) fun x17 vs18=>O4 x17 (cb.bv CR (W9 v16 (j4 vs18 2) (.bool false)) fun v22=>
 M.pure (.ret v22)) (fun _=>M.fail) M.fail O8) O8
noncomputable def c7g (cb:Cb) (N:Nat) (call:o8) (v25:Value) (v0:Value):M CR:=
 cb.bj CR (bcase (Q5 true v25) (cb.bv R2 (X6 1 v0) fun v28=>
 cb.bv R2 (K7 v28) fun v29=>
 cb.bv R2 (bn .eql 24 (.tmp 30) (.const (.int .i64 (.ofNat 0))) v29 (.int .i64 (.ofNat 0))) fun v30=>
 M.pure (.normal, [v28,v29,v30])) (M.pure (.normal, [undef,undef,undef]))) fun x26 vs27=>O4 x26 (cb.bv CR (W9 v25 (j4 vs27 2) (.bool false)) fun v31=>
 cb.bj CR (bcase (Q5 true v31) (cb.bv R2 (X6 2 v0) fun v34=>
 cb.bv R2 (K7 v34) fun v35=>
 cb.bc R2 (call 59 [v35]) (fun v36=>
 M.pure (.normal, [v34,v35,v36])) O8) (M.pure (.normal, [undef,undef,undef]))) fun x32 vs33=>O4 x32 (cb.bv CR (W9 v31 (j4 vs33 2) (.bool false)) fun v37=>
 M.pure (.ret v37)) (fun _=>M.fail) M.fail O8) (fun _=>M.fail) M.fail O8
noncomputable def c7f (cb:Cb) (N:Nat) (call:o8) (v0:Value):M CR:=
 cb.bv CR (X6 0 v0) fun v23=>
 cb.bv CR (K7 v23) fun v24=>
 cb.bv CR (bn .eql 3 (.tmp 26) (.const (.int .i64 (.ofNat 2))) v24 (.int .i64 (.ofNat 2))) fun v25=>
 c7g cb N call v25 v0
noncomputable def c7K (cb:Cb) (N:Nat) (call:o8) (v2:Value) (v0:Value):M CR:=
 cb.bv CR (bn .eql 3 (.tmp 4) (.const (.int .i64 (.ofNat 1))) v2 (.int .i64 (.ofNat 1))) fun v13=>
 K5 v13 (
 c6N cb N call v0) (
 c7f cb N call v0)
noncomputable def b8b (cb:Cb) (N:Nat) (call:o8) (a0:Value):M CR:=
 cb.bv CR (a6Y a0) fun v0=>
 cb.bv CR (X6 0 v0) fun v1=>
 cb.bv CR (K7 v1) fun v2=>
 cb.bv CR (bn .eql 3 (.tmp 4) (.const (.int .i64 (.ofNat 0))) v2 (.int .i64 (.ofNat 0))) fun v3=>
 K5 v3 (
 cb.bv CR (X6 1 v0) fun v4=>
 cb.bv CR (K7 v4) fun v5=>
 c7j cb N call v5 v0) (
 c7K cb N call v2 v0)
theorem c8k (cb:Cb) (N:Nat) (call:o8) (a0:Value):Y9 Tryz.prog R4 cb false N call Tryz.f58 c58 e2T [a0]=b8b cb N call a0:=by kernel_rfl
noncomputable def c59:Code:=a0g Tryz.f59
noncomputable def e2c:Pl:=.d
noncomputable def b8H (cb:Cb) (N:Nat) (call:o8) (a0:Value):M CR:=
 cb.bv CR (bn .geq 3 (.tmp 3) (.const (.int .i64 (.ofNat 0))) a0 (.int .i64 (.ofNat 0))) fun v0=>
 cb.bj CR (bcase (Q5 true v0) (cb.bv R2 (bn .lss 3 (.tmp 6) (.const (.int .i64 (.ofNat 4294967296))) a0 (.int .i64 (.ofNat 4294967296))) fun v3=>
 M.pure (.normal, [a0,v3])) (M.pure (.normal, [undef,undef]))) fun x1 vs2=>O4 x1 (cb.bv CR (W9 v0 (j4 vs2 1) (.bool false)) fun v4=>
 M.pure (.ret v4)) (fun _=>M.fail) M.fail O8
theorem c8F (cb:Cb) (N:Nat) (call:o8) (a0:Value):Y9 Tryz.prog R4 cb false N call Tryz.f59 c59 e2c [a0]=b8H cb N call a0:=by kernel_rfl
noncomputable def c60:Code:=a0g Tryz.f60
noncomputable def e2u:Pl:=(.s none .d (.s none (.s none .d (.s none (.l [4, 5, 6, 7, 10, 11, 12, 13, 14, 15, 2, 8, 9, 3] .d) .d)) .d))
noncomputable def b6h (cb:Cb) (N:Nat) (call:o8) (xs0:List Value) (a0:Value) (v3:Value) (v4:Value) (v5:Value) (v6:Value) (v7:Value) (v8:Value):M R2:=
 cb.bv R2 (bn .add 3 (.tmp 8) (.const (.int .i64 (.ofNat 1))) (j4 xs0 13) (.int .i64 (.ofNat 1))) fun v9=>
 M.pure (.normal, [(j4 xs0 13),a0,v3,v4,a0,(j4 xs0 13),v5,v6,v7,v8,(j4 xs0 10),(j4 xs0 13),v9,v9])
noncomputable def b5Z (cb:Cb) (N:Nat) (call:o8) (a0:Value) (xs0:List Value) (v3:Value) (v4:Value):M R2:=
 cb.bv R2 (a4X 1 a0 (j4 xs0 13)) fun v5=>
 cb.bv R2 (K7 v5) fun v6=>
 cb.bc R2 (call 59 [v6]) (fun v7=>
 cb.bv R2 (un .not v7) fun v8=>
 K5 v8 (
 M.pure (.ret, [(j4 xs0 13),a0,v3,v4,a0,(j4 xs0 13),v5,v6,v7,v8,(.bool false),(j4 xs0 11),(j4 xs0 12),(j4 xs0 13)])) (
 b6h cb N call xs0 a0 v3 v4 v5 v6 v7 v8)) O8
noncomputable def b6k (cb:Cb) (N:Nat) (call:o8) (xs0:List Value) (a0:Value) (v3:Value) (v4:Value):M R2:=
 M.pure (.exit 0, [(j4 xs0 13),a0,v3,v4,(j4 xs0 4),(j4 xs0 5),(j4 xs0 6),(j4 xs0 7),(j4 xs0 8),(j4 xs0 9),(j4 xs0 10),(j4 xs0 11),(j4 xs0 12),(j4 xs0 13)])
noncomputable def b3j (cb:Cb) (N:Nat) (call:o8) (a0:Value) (xs0:List Value):M R2:=
 cb.bv R2 (a3U a0) fun v3=>
 cb.bv R2 (bn .lss 3 (.tmp 4) (.tmp 6) (j4 xs0 13) v3) fun v4=>
 K5 v4 (
 b5Z cb N call a0 xs0 v3 v4) (
 b6k cb N call xs0 a0 v3 v4)
noncomputable def b8T (cb:Cb) (N:Nat) (call:o8) (a0:Value):M CR:=
 cb.bj CR (cb.lp (b3j cb N call a0) N [undef,undef,undef,undef,undef,undef,undef,undef,undef,undef,(.bool false),undef,undef,(.int .i64 (.ofNat 0))]) fun x1 vs2=>
 O4 x1 (M.fail) (fun i10=>bcase (Nat.beq i10 0) (M.pure (.ret (.bool true))) (M.fail)) (M.pure (.ret (j4 vs2 10))) O8
theorem c8s (cb:Cb) (N:Nat) (call:o8) (a0:Value):Y9 Tryz.prog R4 cb false N call Tryz.f60 c60 e2u [a0]=b8T cb N call a0:=by kernel_rfl
noncomputable def c61:Code:=a0g Tryz.f61
noncomputable def e1y:Pl:=.d
noncomputable def b9g (cb:Cb) (N:Nat) (call:o8) (a0:Value):M CR:=
 cb.bv CR (bn .geq 24 (.tmp 3) (.const (.int .i64 (.ofNat 1))) a0 (.int .i64 (.ofNat 1))) fun v0=>
 cb.bj CR (bcase (Q5 true v0) (cb.bv R2 (bn .leq 24 (.tmp 6) (.const (.int .i64 (.ofNat 4))) a0 (.int .i64 (.ofNat 4))) fun v3=>
 M.pure (.normal, [a0,v3])) (M.pure (.normal, [undef,undef]))) fun x1 vs2=>O4 x1 (cb.bv CR (W9 v0 (j4 vs2 1) (.bool false)) fun v4=>
 M.pure (.ret v4)) (fun _=>M.fail) M.fail O8
theorem c8B (cb:Cb) (N:Nat) (call:o8) (a0:Value):Y9 Tryz.prog R4 cb false N call Tryz.f61 c61 e1y [a0]=b9g cb N call a0:=by kernel_rfl
noncomputable def c63:Code:=a0g Tryz.f63
noncomputable def e2Y:Pl:=.d
noncomputable def d8X (cb:Cb) (N:Nat) (call:o8) (v16:Value) (a0:Value):M CR:=
 cb.bj CR (bcase (Q5 true v16) (cb.bv R2 (bn .neq 5 (.tmp 22) (.const (.int .u8 (.ofNat 59))) a0 (.int .u8 (.ofNat 59))) fun v19=>
 M.pure (.normal, [a0,v19])) (M.pure (.normal, [undef,undef]))) fun x17 vs18=>O4 x17 (cb.bv CR (W9 v16 (j4 vs18 1) (.bool false)) fun v20=>
 cb.bj CR (bcase (Q5 true v20) (cb.bv R2 (bn .neq 5 (.tmp 26) (.const (.int .u8 (.ofNat 44))) a0 (.int .u8 (.ofNat 44))) fun v23=>
 M.pure (.normal, [a0,v23])) (M.pure (.normal, [undef,undef]))) fun x21 vs22=>O4 x21 (cb.bv CR (W9 v20 (j4 vs22 1) (.bool false)) fun v24=>
 M.pure (.ret v24)) (fun _=>M.fail) M.fail O8) (fun _=>M.fail) M.fail O8
noncomputable def d4Q (cb:Cb) (N:Nat) (call:o8) (v8:Value) (a0:Value):M CR:=
 cb.bj CR (bcase (Q5 true v8) (cb.bv R2 (bn .neq 5 (.tmp 14) (.const (.int .u8 (.ofNat 41))) a0 (.int .u8 (.ofNat 41))) fun v11=>
 M.pure (.normal, [a0,v11])) (M.pure (.normal, [undef,undef]))) fun x9 vs10=>O4 x9 (cb.bv CR (W9 v8 (j4 vs10 1) (.bool false)) fun v12=>
 cb.bj CR (bcase (Q5 true v12) (cb.bv R2 (bn .neq 5 (.tmp 18) (.const (.int .u8 (.ofNat 34))) a0 (.int .u8 (.ofNat 34))) fun v15=>
 M.pure (.normal, [a0,v15])) (M.pure (.normal, [undef,undef]))) fun x13 vs14=>O4 x13 (cb.bv CR (W9 v12 (j4 vs14 1) (.bool false)) fun v16=>
 d8X cb N call v16 a0) (fun _=>M.fail) M.fail O8) (fun _=>M.fail) M.fail O8
noncomputable def d3V (cb:Cb) (N:Nat) (call:o8) (v0:Value) (a0:Value):M CR:=
 cb.bj CR (bcase (Q5 true v0) (cb.bv R2 (bn .leq 5 (.tmp 6) (.const (.int .u8 (.ofNat 126))) a0 (.int .u8 (.ofNat 126))) fun v3=>
 M.pure (.normal, [a0,v3])) (M.pure (.normal, [undef,undef]))) fun x1 vs2=>O4 x1 (cb.bv CR (W9 v0 (j4 vs2 1) (.bool false)) fun v4=>
 cb.bj CR (bcase (Q5 true v4) (cb.bv R2 (bn .neq 5 (.tmp 10) (.const (.int .u8 (.ofNat 40))) a0 (.int .u8 (.ofNat 40))) fun v7=>
 M.pure (.normal, [a0,v7])) (M.pure (.normal, [undef,undef]))) fun x5 vs6=>O4 x5 (cb.bv CR (W9 v4 (j4 vs6 1) (.bool false)) fun v8=>
 d4Q cb N call v8 a0) (fun _=>M.fail) M.fail O8) (fun _=>M.fail) M.fail O8
noncomputable def d1e (cb:Cb) (N:Nat) (call:o8) (a0:Value):M CR:=
 cb.bv CR (bn .geq 5 (.tmp 3) (.const (.int .u8 (.ofNat 33))) a0 (.int .u8 (.ofNat 33))) fun v0=>
 d3V cb N call v0 a0
theorem c8K (cb:Cb) (N:Nat) (call:o8) (a0:Value):Y9 Tryz.prog R4 cb false N call Tryz.f63 c63 e2Y [a0]=d1e cb N call a0:=by kernel_rfl
noncomputable def c84:Code:=a0g Tryz.f84
noncomputable def e3Q:Pl:=(.s none .d (.s none (.s none .d (.s none (.s (some [7, 8, 9, 10, 11, 12, 13, 14, 15, 6]) .d (.s none .d (.s (some [17, 18, 19, 20, 21, 16]) .d (.s none .d (.s none .d (.s none .d (.s none .d (.s none .d (.s (some [27, 28, 26]) .d .d))))))))) .d)) .d))
noncomputable def d5f (cb:Cb) (N:Nat) (call:o8) (a0:Value) (v2:Value) (v3:Value) (v4:Value) (v5:Value) (v6:Value) (v7:Value) (v8:Value) (v9:Value):M R2:=
 cb.bv R2 (bn .eql 76 (.tmp 5) (.const (.int .i64 (.ofNat 20))) a0 (.int .i64 (.ofNat 20))) fun v10=>
 M.pure (.normal, [v2,v3,v4,v5,v6,v7,v8,v9,v10,v10])
noncomputable def e0K (cb:Cb) (N:Nat) (call:o8) (a0:Value) (v2:Value) (v3:Value) (v4:Value) (v5:Value) (v6:Value) (v7:Value) (v8:Value):M R2:=
 cb.bv R2 (bn .eql 76 (.tmp 5) (.const (.int .i64 (.ofNat 16))) a0 (.int .i64 (.ofNat 16))) fun v9=>
 K5 v9 (
 M.pure (.normal, [v2,v3,v4,v5,v6,v7,v8,v9,undef,v9])) (
 d5f cb N call a0 v2 v3 v4 v5 v6 v7 v8 v9)
noncomputable def d6u (cb:Cb) (N:Nat) (call:o8) (a0:Value) (v2:Value) (v3:Value) (v4:Value) (v5:Value) (v6:Value) (v7:Value):M R2:=
 cb.bv R2 (bn .eql 76 (.tmp 5) (.const (.int .i64 (.ofNat 12))) a0 (.int .i64 (.ofNat 12))) fun v8=>
 K5 v8 (
 M.pure (.normal, [v2,v3,v4,v5,v6,v7,v8,undef,undef,v8])) (
 e0K cb N call a0 v2 v3 v4 v5 v6 v7 v8)
noncomputable def d8T (cb:Cb) (N:Nat) (call:o8) (a0:Value) (v2:Value) (v3:Value) (v4:Value) (v5:Value) (v6:Value):M R2:=
 cb.bv R2 (bn .eql 76 (.tmp 5) (.const (.int .i64 (.ofNat 9))) a0 (.int .i64 (.ofNat 9))) fun v7=>
 K5 v7 (
 M.pure (.normal, [v2,v3,v4,v5,v6,v7,undef,undef,undef,v7])) (
 d6u cb N call a0 v2 v3 v4 v5 v6 v7)
noncomputable def d3s (cb:Cb) (N:Nat) (call:o8) (a0:Value) (v2:Value) (v3:Value) (v4:Value) (v5:Value):M R2:=
 cb.bv R2 (bn .eql 76 (.tmp 5) (.const (.int .i64 (.ofNat 8))) a0 (.int .i64 (.ofNat 8))) fun v6=>
 K5 v6 (
 M.pure (.normal, [v2,v3,v4,v5,v6,undef,undef,undef,undef,v6])) (
 d8T cb N call a0 v2 v3 v4 v5 v6)
noncomputable def d5N (cb:Cb) (N:Nat) (call:o8) (a0:Value) (v2:Value) (v3:Value) (v4:Value):M R2:=
 cb.bv R2 (bn .eql 76 (.tmp 5) (.const (.int .i64 (.ofNat 7))) a0 (.int .i64 (.ofNat 7))) fun v5=>
 K5 v5 (
 M.pure (.normal, [v2,v3,v4,v5,undef,undef,undef,undef,undef,v5])) (
 d3s cb N call a0 v2 v3 v4 v5)
noncomputable def d6p (cb:Cb) (N:Nat) (call:o8) (a0:Value) (v2:Value) (v3:Value):M R2:=
 cb.bv R2 (bn .eql 76 (.tmp 5) (.const (.int .i64 (.ofNat 4))) a0 (.int .i64 (.ofNat 4))) fun v4=>
 K5 v4 (
 M.pure (.normal, [v2,v3,v4,undef,undef,undef,undef,undef,undef,v4])) (
 d5N cb N call a0 v2 v3 v4)
noncomputable def d7s (cb:Cb) (N:Nat) (call:o8) (a0:Value) (v2:Value):M R2:=
 cb.bv R2 (bn .eql 76 (.tmp 5) (.const (.int .i64 (.ofNat 3))) a0 (.int .i64 (.ofNat 3))) fun v3=>
 K5 v3 (
 M.pure (.normal, [v2,v3,undef,undef,undef,undef,undef,undef,undef,v3])) (
 d6p cb N call a0 v2 v3)
noncomputable def e0F (cb:Cb) (N:Nat) (call:o8) (a0:Value) (v13:Value) (v14:Value) (v15:Value):M R2:=
 cb.bv R2 (bn .eql 76 (.tmp 5) (.const (.int .i64 (.ofNat 14))) a0 (.int .i64 (.ofNat 14))) fun v16=>
 K5 v16 (
 M.pure (.normal, [v13,v14,v15,v16,undef,v16])) (
 cb.bv R2 (bn .eql 76 (.tmp 5) (.const (.int .i64 (.ofNat 15))) a0 (.int .i64 (.ofNat 15))) fun v17=>
 M.pure (.normal, [v13,v14,v15,v16,v17,v17]))
noncomputable def d6o (cb:Cb) (N:Nat) (call:o8) (a0:Value) (v13:Value) (v14:Value):M R2:=
 cb.bv R2 (bn .eql 76 (.tmp 5) (.const (.int .i64 (.ofNat 11))) a0 (.int .i64 (.ofNat 11))) fun v15=>
 K5 v15 (
 M.pure (.normal, [v13,v14,v15,undef,undef,v15])) (
 e0F cb N call a0 v13 v14 v15)
noncomputable def d2o (cb:Cb) (N:Nat) (call:o8) (a0:Value) (v13:Value):M R2:=
 cb.bv R2 (bn .eql 76 (.tmp 5) (.const (.int .i64 (.ofNat 10))) a0 (.int .i64 (.ofNat 10))) fun v14=>
 K5 v14 (
 M.pure (.normal, [v13,v14,undef,undef,undef,v14])) (
 d6o cb N call a0 v13 v14)
noncomputable def d0a (cb:Cb) (N:Nat) (call:o8) (a0:Value):M CR:=
 cb.bj CR (cb.bv R2 (bn .eql 76 (.tmp 5) (.const (.int .i64 (.ofNat 18))) a0 (.int .i64 (.ofNat 18))) fun v22=>
 K5 v22 (
 M.pure (.normal, [v22,undef,v22])) (
 cb.bv R2 (bn .eql 76 (.tmp 5) (.const (.int .i64 (.ofNat 19))) a0 (.int .i64 (.ofNat 19))) fun v23=>
 M.pure (.normal, [v22,v23,v23]))) fun x20 vs21=>
 O4 x20 (K5 (j4 vs21 2) (
 M.pure (.ret (.tuple ⟨[(.bool false),(.bool false),(.bool true)]⟩))) (
 M.pure (.ret (.tuple ⟨[(.bool false),(.bool false),(.bool false)]⟩)))) (fun _=>M.fail) (M.fail) O8
noncomputable def d1o (cb:Cb) (N:Nat) (call:o8) (a0:Value):M CR:=
 cb.bv CR (bn .eql 76 (.tmp 5) (.const (.int .i64 (.ofNat 17))) a0 (.int .i64 (.ofNat 17))) fun v19=>
 K5 v19 (
 M.pure (.ret (.tuple ⟨[(.bool true),(.bool true),(.bool true)]⟩))) (
 d0a cb N call a0)
noncomputable def d2I (cb:Cb) (N:Nat) (call:o8) (a0:Value):M CR:=
 cb.bv CR (bn .eql 76 (.tmp 5) (.const (.int .i64 (.ofNat 13))) a0 (.int .i64 (.ofNat 13))) fun v18=>
 K5 v18 (
 M.pure (.ret (.tuple ⟨[(.bool false),(.bool true),(.bool false)]⟩))) (
 d1o cb N call a0)
noncomputable def d2W (cb:Cb) (N:Nat) (call:o8) (a0:Value):M CR:=
 cb.bj CR (cb.bv R2 (bn .eql 76 (.tmp 5) (.const (.int .i64 (.ofNat 5))) a0 (.int .i64 (.ofNat 5))) fun v13=>
 K5 v13 (
 M.pure (.normal, [v13,undef,undef,undef,undef,v13])) (
 d2o cb N call a0 v13)) fun x11 vs12=>
 O4 x11 (K5 (j4 vs12 5) (
 M.pure (.ret (.tuple ⟨[(.bool true),(.bool true),(.bool false)]⟩))) (
 d2I cb N call a0)) (fun _=>M.fail) (M.fail) O8
noncomputable def a4Y (cb:Cb) (N:Nat) (call:o8) (a0:Value):M CR:=
 cb.bj CR (cb.bv R2 (bn .eql 76 (.tmp 5) (.const (.int .i64 (.ofNat 2))) a0 (.int .i64 (.ofNat 2))) fun v2=>
 K5 v2 (
 M.pure (.normal, [v2,undef,undef,undef,undef,undef,undef,undef,undef,v2])) (
 d7s cb N call a0 v2)) fun x0 vs1=>
 O4 x0 (K5 (j4 vs1 9) (
 M.pure (.ret (.tuple ⟨[(.bool true),(.bool false),(.bool false)]⟩))) (
 d2W cb N call a0)) (fun _=>M.fail) (M.fail) O8
theorem c9s (cb:Cb) (N:Nat) (call:o8) (a0:Value):Y9 Tryz.prog R4 cb false N call Tryz.f84 c84 e3Q [a0]=a4Y cb N call a0:=by kernel_rfl
noncomputable def c85:Code:=a0g Tryz.f85
noncomputable def e2j:Pl:=.d
noncomputable def b7V (cb:Cb) (N:Nat) (call:o8) (a0:Value):M CR:=
 cb.bc CR (call 35 [a0]) (fun v0=>
 cb.bv CR (bn .neq 9 (.tmp 4) (.const (.string ⟨⟨[]⟩⟩)) v0 (.string ⟨⟨[]⟩⟩)) fun v1=>
 M.pure (.ret v1)) O8
theorem c8h (cb:Cb) (N:Nat) (call:o8) (a0:Value):Y9 Tryz.prog R4 cb false N call Tryz.f85 c85 e2j [a0]=b7V cb N call a0:=by kernel_rfl
noncomputable def c86:Code:=a0g Tryz.f86
noncomputable def e2L:Pl:=.d
noncomputable def b8y (cb:Cb) (N:Nat) (call:o8) (a0:Value):M CR:=
 cb.bv CR (bn .geq 3 (.tmp 3) (.const (.int .i64 (.ofNat 0))) a0 (.int .i64 (.ofNat 0))) fun v0=>
 cb.bj CR (bcase (Q5 true v0) (cb.bv R2 (bn .lss 3 (.tmp 6) (.const (.int .i64 (.ofNat 4294967296))) a0 (.int .i64 (.ofNat 4294967296))) fun v3=>
 M.pure (.normal, [a0,v3])) (M.pure (.normal, [undef,undef]))) fun x1 vs2=>O4 x1 (cb.bv CR (W9 v0 (j4 vs2 1) (.bool false)) fun v4=>
 M.pure (.ret v4)) (fun _=>M.fail) M.fail O8
theorem c9v (cb:Cb) (N:Nat) (call:o8) (a0:Value):Y9 Tryz.prog R4 cb false N call Tryz.f86 c86 e2L [a0]=b8y cb N call a0:=by kernel_rfl
noncomputable def c87:Code:=a0g Tryz.f87
noncomputable def e2w:Pl:=.d
noncomputable def c7M (cb:Cb) (N:Nat) (call:o8) (v0:Value):M CR:=
 cb.bv CR (a2U 3 v0) fun v4=>
 cb.bv CR (Y1 [] [] [(.int .i64 (.ofNat 0)),(.int .i64 (.ofNat 0)),(.int .i64 (.ofNat 0))]) fun v5=>
 cb.bv CR (bn .eql 26 (.tmp 7) (.tmp 8) v4 v5) fun v6=>
 M.pure (.ret v6)
noncomputable def c7z (cb:Cb) (N:Nat) (call:o8) (v0:Value):M CR:=
 cb.bv CR (X6 1 v0) fun v8=>
 cb.bv CR (K7 v8) fun v9=>
 cb.bc CR (call 88 [v9]) (fun v10=>
 cb.bj CR (bcase (Q5 true v10) (cb.bv R2 (X6 2 v0) fun v13=>
 cb.bv R2 (K7 v13) fun v14=>
 cb.bv R2 (bn .eql 3 (.tmp 17) (.const (.int .i64 (.ofNat 0))) v14 (.int .i64 (.ofNat 0))) fun v15=>
 M.pure (.normal, [v13,v14,v15])) (M.pure (.normal, [undef,undef,undef]))) fun x11 vs12=>O4 x11 (cb.bv CR (W9 v10 (j4 vs12 2) (.bool false)) fun v16=>
 M.pure (.ret v16)) (fun _=>M.fail) M.fail O8) O8
noncomputable def c7B (cb:Cb) (N:Nat) (call:o8) (v0:Value):M CR:=
 cb.bv CR (X6 1 v0) fun v18=>
 cb.bv CR (K7 v18) fun v19=>
 cb.bv CR (bn .eql 24 (.tmp 23) (.const (.int .i64 (.ofNat 0))) v19 (.int .i64 (.ofNat 0))) fun v20=>
 cb.bj CR (bcase (Q5 true v20) (cb.bv R2 (X6 2 v0) fun v23=>
 cb.bv R2 (K7 v23) fun v24=>
 cb.bc R2 (call 86 [v24]) (fun v25=>
 M.pure (.normal, [v23,v24,v25])) O8) (M.pure (.normal, [undef,undef,undef]))) fun x21 vs22=>O4 x21 (cb.bv CR (W9 v20 (j4 vs22 2) (.bool false)) fun v26=>
 M.pure (.ret v26)) (fun _=>M.fail) M.fail O8
noncomputable def c7n (cb:Cb) (N:Nat) (call:o8) (v2:Value) (v0:Value):M CR:=
 cb.bv CR (bn .eql 3 (.tmp 4) (.const (.int .i64 (.ofNat 2))) v2 (.int .i64 (.ofNat 2))) fun v17=>
 K5 v17 (
 c7B cb N call v0) (
 M.pure (.ret (.bool false)))
noncomputable def c6F (cb:Cb) (N:Nat) (call:o8) (v2:Value) (v0:Value):M CR:=
 cb.bv CR (bn .eql 3 (.tmp 4) (.const (.int .i64 (.ofNat 1))) v2 (.int .i64 (.ofNat 1))) fun v7=>
 K5 v7 (
 c7z cb N call v0) (
 c7n cb N call v2 v0)
noncomputable def b6S (cb:Cb) (N:Nat) (call:o8) (a0:Value):M CR:=
 cb.bv CR (a6Y a0) fun v0=>
 cb.bv CR (X6 0 v0) fun v1=>
 cb.bv CR (K7 v1) fun v2=>
 cb.bv CR (bn .eql 3 (.tmp 4) (.const (.int .i64 (.ofNat 0))) v2 (.int .i64 (.ofNat 0))) fun v3=>
 K5 v3 (
 c7M cb N call v0) (
 c6F cb N call v2 v0)
theorem c8o (cb:Cb) (N:Nat) (call:o8) (a0:Value):Y9 Tryz.prog R4 cb false N call Tryz.f87 c87 e2w [a0]=b6S cb N call a0:=by kernel_rfl
noncomputable def c88:Code:=a0g Tryz.f88
noncomputable def e3W:Pl:=.d
noncomputable def b7X (cb:Cb) (N:Nat) (call:o8) (a0:Value):M CR:=
 cb.bv CR (bn .geq 24 (.tmp 3) (.const (.int .i64 (.ofNat 1))) a0 (.int .i64 (.ofNat 1))) fun v0=>
 cb.bj CR (bcase (Q5 true v0) (cb.bv R2 (bn .leq 24 (.tmp 6) (.const (.int .i64 (.ofNat 4))) a0 (.int .i64 (.ofNat 4))) fun v3=>
 M.pure (.normal, [a0,v3])) (M.pure (.normal, [undef,undef]))) fun x1 vs2=>O4 x1 (cb.bv CR (W9 v0 (j4 vs2 1) (.bool false)) fun v4=>
 M.pure (.ret v4)) (fun _=>M.fail) M.fail O8
theorem c9j (cb:Cb) (N:Nat) (call:o8) (a0:Value):Y9 Tryz.prog R4 cb false N call Tryz.f88 c88 e3W [a0]=b7X cb N call a0:=by kernel_rfl
noncomputable def c91:Code:=a0g Tryz.f91
noncomputable def e2o:Pl:=(.s none .d (.s none .d (.s none .d (.s none (.s none .d (.s none (.l [14, 15, 16, 5, 17, 18, 19, 20, 21, 22, 23, 24, 25, 26, 2, 27, 13] .d) .d)) .d))))
noncomputable def d9v:List Oper:=a6e c91 7
noncomputable def d9o (cb:Cb) (N:Nat) (call:o8) (v10:Value) (v8:Value) (v9:Value) (vs11:List Value) (xs5:List Value):M R2:=
 cb.bv R2 (bn .quo 3 (.tmp 25) (.const (.int .i64 (.ofNat 8))) v10 (.int .i64 (.ofNat 8))) fun v12=>
 M.pure (.ret, [v8,v9,v10,v10,(j4 vs11 0),(j4 vs11 1),(j4 vs11 2),(j4 vs11 3),(j4 vs11 4),(j4 vs11 5),(j4 vs11 6),(j4 vs11 7),v10,v12,v12,(j4 xs5 15),(j4 xs5 16)])
noncomputable def d9h (cb:Cb) (N:Nat) (call:o8) (xs5:List Value) (v8:Value) (v9:Value) (v10:Value) (vs11:List Value):M R2:=
 cb.bv R2 (bn .add 3 (.tmp 13) (.const (.int .i64 (.ofNat 1))) (j4 xs5 16) (.int .i64 (.ofNat 1))) fun v13=>
 M.pure (.normal, [v8,v9,v10,v10,(j4 vs11 0),(j4 vs11 1),(j4 vs11 2),(j4 vs11 3),(j4 vs11 4),(j4 vs11 5),(j4 vs11 6),(j4 vs11 7),(j4 xs5 12),(j4 xs5 13),(j4 xs5 14),v13,v13])
noncomputable def d9w (cb:Cb) (N:Nat) (call:o8) (v3:Value) (xs5:List Value) (v2:Value) (v8:Value):M R2:=
 cb.bv R2 (a4X 1 v3 (j4 xs5 16)) fun v9=>
 cb.bv R2 (K7 v9) fun v10=>
 cb.bj R2 (dr call d9v 31 [3, 17, 5, 20, 19, 21, 22, 18, 23] [v2,(j4 xs5 4),v10,(j4 xs5 7),(j4 xs5 6),(j4 xs5 8),(j4 xs5 9),(j4 xs5 5),(j4 xs5 10)] [17, 18, 19, 20, 21, 22, 23, 24]) fun _ vs11=>
 K5 (j4 vs11 7) (
 d9o cb N call v10 v8 v9 vs11 xs5) (
 d9h cb N call xs5 v8 v9 v10 vs11)
noncomputable def d9e (cb:Cb) (N:Nat) (call:o8) (v8:Value) (xs5:List Value):M R2:=
 M.pure (.exit 0, [v8,(j4 xs5 1),(j4 xs5 2),(j4 xs5 3),(j4 xs5 4),(j4 xs5 5),(j4 xs5 6),(j4 xs5 7),(j4 xs5 8),(j4 xs5 9),(j4 xs5 10),(j4 xs5 11),(j4 xs5 12),(j4 xs5 13),(j4 xs5 14),(j4 xs5 15),(j4 xs5 16)])
noncomputable def d4u (cb:Cb) (N:Nat) (call:o8) (v4:Value) (v3:Value) (v2:Value) (xs5:List Value):M R2:=
 cb.bv R2 (bn .lss 3 (.tmp 13) (.tmp 12) (j4 xs5 16) v4) fun v8=>
 K5 v8 (
 d9w cb N call v3 xs5 v2 v8) (
 d9e cb N call v8 xs5)
noncomputable def c6T (cb:Cb) (N:Nat) (call:o8) (v4:Value) (v3:Value) (v2:Value):M CR:=
 cb.bj CR (cb.lp (d4u cb N call v4 v3 v2) N [undef,undef,undef,undef,undef,undef,undef,undef,undef,undef,undef,undef,undef,undef,(.int .i64 (.ofNat 0)),undef,(.int .i64 (.ofNat 0))]) fun x6 vs7=>
 O4 x6 (M.fail) (fun i14=>bcase (Nat.beq i14 0) (cb.bv CR (a8X v2 none (some (.int .i64 (.ofNat 3)))) fun v15=>
 cb.bv CR (bn .eql 9 (.tmp 29) (.const (.string ⟨⟨[105, 51, 50]⟩⟩)) v15 (.string ⟨⟨[105, 51, 50]⟩⟩)) fun v16=>
 K5 v16 (
 M.pure (.ret (.int .i64 (.ofNat 4)))) (
 M.pure (.ret (.int .i64 (.ofNat 8))))) (M.fail)) (M.pure (.ret (j4 vs7 14))) O8
noncomputable def c7v (cb:Cb) (N:Nat) (call:o8) (a0:Value):M CR:=
 cb.bc CR (call 35 [a0]) (fun v2=>
 cb.bv CR (a1W 1 3 [(0, 1),(1, 1),(2, 1)] [(.int .i64 (.ofNat 8)),(.int .i64 (.ofNat 16)),(.int .i64 (.ofNat 32))] [(.int .i64 (.ofNat 0)),(.int .i64 (.ofNat 0)),(.int .i64 (.ofNat 0))]) fun v3=>
 cb.bv CR (a3U v3) fun v4=>
 c6T cb N call v4 v3 v2) O8
noncomputable def b9e (cb:Cb) (N:Nat) (call:o8) (a0:Value):M CR:=
 cb.bc CR (call 124 [a0]) (fun v0=>
 cb.bv CR (un .not v0) fun v1=>
 K5 v1 (
 M.pure (.ret (.int .i64 (.ofNat 0)))) (
 c7v cb N call a0)) O8
theorem c9m (cb:Cb) (N:Nat) (call:o8) (a0:Value):Y9 Tryz.prog R4 cb false N call Tryz.f91 c91 e2o [a0]=b9e cb N call a0:=by kernel_rfl
noncomputable def c92:Code:=a0g Tryz.f92
noncomputable def e2s:Pl:=(.s none .d (.s none (.s none .d (.s none (.s (some [5, 6, 7, 8, 9, 4]) .d (.s none .d (.s none .d (.s none .d (.s none .d (.s none .d (.s none .d (.s none .d (.s (some [17, 18, 19, 16]) .d .d))))))))) .d)) .d))
noncomputable def c6R (cb:Cb) (N:Nat) (call:o8) (a0:Value) (v2:Value) (v3:Value) (v4:Value):M R2:=
 cb.bv R2 (bn .eql 22 (.tmp 3) (.const (.int .i64 (.ofNat 64527))) a0 (.int .i64 (.ofNat 64527))) fun v5=>
 K5 v5 (
 M.pure (.normal, [v2,v3,v4,v5,undef,v5])) (
 cb.bv R2 (bn .eql 22 (.tmp 3) (.const (.int .i64 (.ofNat 64529))) a0 (.int .i64 (.ofNat 64529))) fun v6=>
 M.pure (.normal, [v2,v3,v4,v5,v6,v6]))
noncomputable def c6A (cb:Cb) (N:Nat) (call:o8) (a0:Value) (v2:Value) (v3:Value):M R2:=
 cb.bv R2 (bn .eql 22 (.tmp 3) (.const (.int .i64 (.ofNat 64528))) a0 (.int .i64 (.ofNat 64528))) fun v4=>
 K5 v4 (
 M.pure (.normal, [v2,v3,v4,undef,undef,v4])) (
 c6R cb N call a0 v2 v3 v4)
noncomputable def c6B (cb:Cb) (N:Nat) (call:o8) (a0:Value) (v2:Value):M R2:=
 cb.bv R2 (bn .eql 22 (.tmp 3) (.const (.int .i64 (.ofNat 38))) a0 (.int .i64 (.ofNat 38))) fun v3=>
 K5 v3 (
 M.pure (.normal, [v2,v3,undef,undef,undef,v3])) (
 c6A cb N call a0 v2 v3)
noncomputable def c7t (cb:Cb) (N:Nat) (call:o8) (a0:Value) (v12:Value):M R2:=
 cb.bv R2 (bn .eql 22 (.tmp 3) (.const (.int .i64 (.ofNat 64))) a0 (.int .i64 (.ofNat 64))) fun v13=>
 K5 v13 (
 M.pure (.normal, [v12,v13,undef,v13])) (
 cb.bv R2 (bn .eql 22 (.tmp 3) (.const (.int .i64 (.ofNat 64523))) a0 (.int .i64 (.ofNat 64523))) fun v14=>
 M.pure (.normal, [v12,v13,v14,v14]))
noncomputable def c7I (cb:Cb) (N:Nat) (call:o8) (a0:Value):M CR:=
 cb.bv CR (bn .eql 22 (.tmp 3) (.const (.int .i64 (.ofNat 64521))) a0 (.int .i64 (.ofNat 64521))) fun v17=>
 K5 v17 (
 M.pure (.ret (.int .i64 (.ofNat 16)))) (
 M.pure (.ret (.int .i64 (.ofNat 0))))
noncomputable def c7y (cb:Cb) (N:Nat) (call:o8) (a0:Value):M CR:=
 cb.bv CR (bn .eql 22 (.tmp 3) (.const (.int .i64 (.ofNat 64520))) a0 (.int .i64 (.ofNat 64520))) fun v16=>
 K5 v16 (
 M.pure (.ret (.int .i64 (.ofNat 15)))) (
 c7I cb N call a0)
noncomputable def c6L (cb:Cb) (N:Nat) (call:o8) (a0:Value):M CR:=
 cb.bv CR (bn .eql 22 (.tmp 3) (.const (.int .i64 (.ofNat 64522))) a0 (.int .i64 (.ofNat 64522))) fun v15=>
 K5 v15 (
 M.pure (.ret (.int .i64 (.ofNat 14)))) (
 c7y cb N call a0)
noncomputable def c6O (cb:Cb) (N:Nat) (call:o8) (a0:Value):M CR:=
 cb.bj CR (cb.bv R2 (bn .eql 22 (.tmp 3) (.const (.int .i64 (.ofNat 63))) a0 (.int .i64 (.ofNat 63))) fun v12=>
 K5 v12 (
 M.pure (.normal, [v12,undef,undef,v12])) (
 c7t cb N call a0 v12)) fun x10 vs11=>
 O4 x10 (K5 (j4 vs11 3) (
 M.pure (.ret (.int .i64 (.ofNat 13)))) (
 c6L cb N call a0)) (fun _=>M.fail) (M.fail) O8
noncomputable def c7p (cb:Cb) (N:Nat) (call:o8) (a0:Value):M CR:=
 cb.bv CR (bn .eql 22 (.tmp 3) (.const (.int .i64 (.ofNat 64525))) a0 (.int .i64 (.ofNat 64525))) fun v9=>
 K5 v9 (
 M.pure (.ret (.int .i64 (.ofNat 12)))) (
 c6O cb N call a0)
noncomputable def c7u (cb:Cb) (N:Nat) (call:o8) (a0:Value):M CR:=
 cb.bv CR (bn .eql 22 (.tmp 3) (.const (.int .i64 (.ofNat 64524))) a0 (.int .i64 (.ofNat 64524))) fun v8=>
 K5 v8 (
 M.pure (.ret (.int .i64 (.ofNat 11)))) (
 c7p cb N call a0)
noncomputable def c4x (cb:Cb) (N:Nat) (call:o8) (a0:Value):M CR:=
 cb.bv CR (bn .eql 22 (.tmp 3) (.const (.int .i64 (.ofNat 64526))) a0 (.int .i64 (.ofNat 64526))) fun v7=>
 K5 v7 (
 M.pure (.ret (.int .i64 (.ofNat 10)))) (
 c7u cb N call a0)
noncomputable def b8a (cb:Cb) (N:Nat) (call:o8) (a0:Value):M CR:=
 cb.bj CR (cb.bv R2 (bn .eql 22 (.tmp 3) (.const (.int .i64 (.ofNat 37))) a0 (.int .i64 (.ofNat 37))) fun v2=>
 K5 v2 (
 M.pure (.normal, [v2,undef,undef,undef,undef,v2])) (
 c6B cb N call a0 v2)) fun x0 vs1=>
 O4 x0 (K5 (j4 vs1 5) (
 M.pure (.ret (.int .i64 (.ofNat 9)))) (
 c4x cb N call a0)) (fun _=>M.fail) (M.fail) O8
theorem c8S (cb:Cb) (N:Nat) (call:o8) (a0:Value):Y9 Tryz.prog R4 cb false N call Tryz.f92 c92 e2s [a0]=b8a cb N call a0:=by kernel_rfl
end Go.Proofs.YtmomonnlmbljoaaGreatDoor
end
