import Derived.Test.YtmomonnlmbljoaaGreatDoorKah
set_option maxRecDepth 1000000
set_option maxHeartbeats 4000000
set_option linter.unusedVariables false
set_option linter.unusedSimpArgs false
namespace Go.Proofs.YtmomonnlmbljoaaGreatDoor
open Go.V Go.RowKit Go.Shelf Go.Proofs
variable {mL:Int}
section
variable (cb:Cb)(N:Nat)(call:J4)(a0 a1 a2 a3 a4 a5:Value)(xs:List Value)
noncomputable abbrev e1Y:Pl:=z_ (z_ (z_ (z_ (z_ (.s (some [18,19,20,22,21,23,24,25,6,26,27,28,29,30,31,33,34,35,36,37,38,32,39,40,41,42,44,43,45,46,47,49,50,51,8,52,53,54,55,48,56,57,58,59,61,60,62,63,64,65,66,67,68,69,70,71,72,73,75,74,76,77,78,79,80,81,82,83,84,85,87,86,88,89,90,91,93,94,92,95,96,97,98,99,100,101,102,103,104,105,106,107,108,109,110,112,113,111,114,115,116,117,118,119,120,121,123,122,124,125,126,127,129,128,130,131,132,133,134,135,136,137,139,138,140,141,142,143,144,145,147,146,148,149,150,151,152,153,155,154,156,157,158,159,160,161]) (z_ (y_ (z_ (z_ (.s (some [33,34,35,36,37,38,32]) .d (z_ (z_ (y_ (y_ (z_ (y_ (.l [49,50,51,8,52,53,54,55,48] .d) .d)) .d) (z_ (z_ (z_ (z_ (z_ (z_ (.s (some [93,94,92]) .d (z_ (.s (some [112,113,111]) .d .d))))))))))))))) .d)) .d)))))
noncomputable def c8Q:=lp Tryz.f12 e1Y 0 [47,46,4] cb N call [a0,a1,a2] xs
abbrev b8c:=(lx:c8Q cb N call a0 a1 a2 xs=_)
noncomputable def Z7:=fq Tryz.f12 e1Y cb N call [a0]
abbrev a0T:=wi (b8c cb N call) λh=>(nx:Z7 cb N call a0=_)
noncomputable def b2A:=fq Tryz.f106 .d cb N call [a0,a1]
abbrev d6h:=(nx:b2A cb N call a0 a1=_)
noncomputable def c0N:=fq Tryz.f111 .d cb N call [a0,a1]
abbrev e6f:=(nx:c0N cb N call a0 a1=_)
noncomputable def c0k:=fq Tryz.f112 .d cb N call [a0]
abbrev e6h:=(nx:c0k cb N call a0=_)
noncomputable def c0I:=fq Tryz.f113 .d cb N call [a0,a1]
abbrev e7U:=(nx:c0I cb N call a0 a1=_)
noncomputable def e5I:=fq Tryz.f130 .d cb N call [a0,a1]
noncomputable abbrev d4y:Pl:=z_ (z_ (y_ (y_ (.l [7,8,9,10,11,12,13,14,15,16,6,17,18,19,20,21,22,23,24,25,26,5,27,28,29,30,1,31,32,33,4] (z_ (y_ (z_ (.s (some [17,18,19,20,21,22,23,24,25,26,5,27,28,29,30,1]) .d .d)) .d))) .d) .d))
noncomputable def c8V:=lp Tryz.f134 d4y 0 [0] cb N call [a0] xs
abbrev c5g:=(lx:c8V cb N call a0 xs=_)
noncomputable def c0E:=fq Tryz.f134 d4y cb N call [a0,a1]
abbrev e4c:=wi (c5g cb N call) λh=>(nx:c0E cb N call a0 a1=_)
noncomputable def c0l:=fq Tryz.f139 .d cb N call [a0]
abbrev e6A:=(nx:c0l cb N call a0=_)
noncomputable abbrev e6V:Pl:=z_ (z_ (z_ (.s (some [29,30,28,31,32,3,4,33,34,35,36,37,38,39,40,41,42,43,45,46,47,48,44,49,50,5,6,51,52,53,54,55,56,57,58,59,60,2,61,62,63,64,65,66,67,68,69,70,71,72,73]) .d .d)))
noncomputable def b9P:=fq Tryz.f147 e6V cb N call [a0]
abbrev e6r:=(nx:b9P cb N call a0=_)
noncomputable def c0p:=fq Tryz.f183 .d cb N call [a0,a1,a2]
abbrev e4T:=(nx:c0p cb N call a0 a1 a2=_)
noncomputable def e6k:=fq Tryz.f188 .d cb N call [a0]
end
end Go.Proofs.YtmomonnlmbljoaaGreatDoor
