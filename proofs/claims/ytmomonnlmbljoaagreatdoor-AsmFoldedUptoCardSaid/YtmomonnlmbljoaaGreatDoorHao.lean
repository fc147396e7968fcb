import Derived.Test.YtmomonnlmbljoaaGreatDoorHal
set_option maxRecDepth 1000000
set_option maxHeartbeats 4000000
set_option linter.unusedVariables false
set_option linter.unusedSimpArgs false
section
namespace Go.Proofs.YtmomonnlmbljoaaGreatDoor
open Go.V Go.RowKit Go.Shelf Go.Proofs
variable {mL:Int}
variable (cb:Cb)(N:Nat)(call:A8)(a0 a1 a2 a3 a4 a5:Value)(xs:List Value)
noncomputable abbrev d7k:Pl:=z_ (z_ (z_ (z_ (z_ (.s (some [18,19,20,22,21,23,24,25,6,26,27,28,29,30,31,33,34,35,36,37,38,32,39,40,41,42,44,43,45,46,47,49,50,51,8,52,53,54,55,48,56,57,58,59,61,60,62,63,64,65,66,67,68,69,70,71,72,73,75,74,76,77,78,79,80,81,82,83,84,85,87,86,88,89,90,91,93,94,92,95,96,97,98,99,100,101,102,103,104,105,106,107,108,109,110,112,113,111,114,115,116,117,118,119,120,121,123,122,124,125,126,127,129,128,130,131,132,133,134,135,136,137,139,138,140,141,142,143,144,145,147,146,148,149,150,151,152,153,155,154,156,157,158,159,160,161]) (z_ (y_ (z_ (z_ (.s (some [33,34,35,36,37,38,32]) .d (z_ (z_ (y_ (y_ (z_ (y_ (.l [49,50,51,8,52,53,54,55,48] .d) .d)) .d) (z_ (z_ (z_ (z_ (z_ (z_ (.s (some [93,94,92]) .d (z_ (.s (some [112,113,111]) .d .d))))))))))))))) .d)) .d)))))
noncomputable def c5i:=lp Tryz.f12 d7k 0 [47,46,4] cb N call [a0,a1,a2] xs
abbrev b4R:=(lx:c5i cb N call a0 a1 a2 xs=_)
noncomputable def N1:=fq Tryz.f12 d7k cb N call [a0]
abbrev T3:=wi (b4R cb N call) λh=>(nx:N1 cb N call a0=_)
noncomputable def b7b:=fq Tryz.f106 .d cb N call [a0,a1]
abbrev d9R:=(nx:b7b cb N call a0 a1=_)
noncomputable def b7p:=fq Tryz.f111 .d cb N call [a0,a1]
abbrev e0l:=(nx:b7p cb N call a0 a1=_)
noncomputable def b7t:=fq Tryz.f112 .d cb N call [a0]
abbrev e0b:=(nx:b7t cb N call a0=_)
noncomputable def b7H:=fq Tryz.f113 .d cb N call [a0,a1]
abbrev e2P:=(nx:b7H cb N call a0 a1=_)
noncomputable def e2x:=fq Tryz.f130 .d cb N call [a0,a1]
noncomputable abbrev d1j:Pl:=z_ (z_ (y_ (y_ (.l [7,8,9,10,11,12,13,14,15,16,6,17,18,19,20,21,22,23,24,25,26,5,27,28,29,30,1,31,32,33,4] (z_ (y_ (z_ (.s (some [17,18,19,20,21,22,23,24,25,26,5,27,28,29,30,1]) .d .d)) .d))) .d) .d))
noncomputable def c7d:=lp Tryz.f134 d1j 0 [0] cb N call [a0] xs
abbrev c2c:=(lx:c7d cb N call a0 xs=_)
noncomputable def b7x:=fq Tryz.f134 d1j cb N call [a0,a1]
abbrev e1N:=wi (c2c cb N call) λh=>(nx:b7x cb N call a0 a1=_)
noncomputable def b7c:=fq Tryz.f139 .d cb N call [a0]
abbrev d9S:=(nx:b7c cb N call a0=_)
noncomputable abbrev d9E:Pl:=z_ (z_ (z_ (.s (some [29,30,28,31,32,3,4,33,34,35,36,37,38,39,40,41,42,43,45,46,47,48,44,49,50,5,6,51,52,53,54,55,56,57,58,59,60,2,61,62,63,64,65,66,67,68,69,70,71,72,73]) .d .d)))
noncomputable def b6X:=fq Tryz.f147 d9E cb N call [a0]
abbrev e1k:=(nx:b6X cb N call a0=_)
noncomputable def b6Q:=fq Tryz.f183 .d cb N call [a0,a1,a2]
abbrev e0I:=(nx:b6Q cb N call a0 a1 a2=_)
noncomputable def d9Z:=fq Tryz.f188 .d cb N call [a0]
end Go.Proofs.YtmomonnlmbljoaaGreatDoor
end
