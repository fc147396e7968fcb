import Derived.Test.YtmomonnlmbljoaaGreatDoorGai
set_option maxRecDepth 1000000
set_option maxHeartbeats 4000000
set_option linter.unusedVariables false
set_option linter.unusedSimpArgs false
namespace Go.Proofs.YtmomonnlmbljoaaGreatDoor
open Go.V Go.RowKit Go.Shelf Go.Proofs
variable {mL:Int}
section
variable (cb:Cb)(N:Nat)(call:I5)(a0 a1 a2 a3 a4 a5:Value)(xs:List Value)
noncomputable def c7Y:=fq Tryz.f82 .d cb N call [a0,a1]
abbrev e7K:=(nx:c7Y cb N call a0 a1=_)
noncomputable def e3x:=fq Tryz.f164 .d cb N call [a0]
noncomputable abbrev e4f:Pl:=z_ (z_ (z_ (.s (some [25,26,27,28,29,30,31,32,33,34,35,36,37,0]) .d (z_ (z_ (y_ (y_ (z_ (z_ (.s (some [56,57,58,59,60,61,62,63,64,65,66,67,55]) .d .d))) .d) .d))))))
noncomputable def c0x:=fq Tryz.f210 e4f cb N call [a0,a1]
abbrev e5V:=(nx:c0x cb N call a0 a1=_)
noncomputable def c0T:=fq Tryz.f208 .d cb N call [a0,a1,a2]
abbrev e5K:=(nx:c0T cb N call a0 a1 a2=_)
noncomputable def c7a:=fq Tryz.f33 .d cb N call [a0,a1]
abbrev e8J:=(nx:c7a cb N call a0 a1=_)
noncomputable def c0S:=fq Tryz.f115 .d cb N call [a0]
abbrev e5v:=(nx:c0S cb N call a0=_)
noncomputable abbrev d3T:Pl:=z_ (y_ (z_ (y_ (.l [5,6,9,10,11,12,13,2,3,7,8,4] .d) .d)) .d)
noncomputable def e2x:=lp Tryz.f194 d3T 0 [0] cb N call [a0] xs
abbrev a9O:=(lx:e2x cb N call a0 xs=_)
noncomputable def b9H:=fq Tryz.f194 d3T cb N call [a0]
abbrev b6e:=wi (a9O cb N call) λh=>(nx:b9H cb N call a0=_)
noncomputable abbrev d4y:Pl:=z_ (z_ (y_ (z_ (y_ (.l [7,8,9,10,13,14,15,16,17,18,19,20,21,22,23,24,2,3,11,12,5] .d) .d)) .d))
noncomputable def c9g:=lp Tryz.f152 d4y 0 [0,4] cb N call [a1,a0] xs
abbrev b4J:=(lx:c9g cb N call a0 a1 xs=_)
noncomputable def b9C:=fq Tryz.f152 d4y cb N call [a0]
abbrev e4E:=wi (b4J cb N call) λh=>(nx:b9C cb N call a0=_)
noncomputable def f0b:=fq Tryz.f98 .d cb N call [a0]
noncomputable def c7S:=fq Tryz.f54 .d cb N call [a0]
abbrev e9P:=(nx:c7S cb N call a0=_)
noncomputable def c8c:=fq Tryz.f50 .d cb N call [a0]
abbrev e8v:=(nx:c8c cb N call a0=_)
end
end Go.Proofs.YtmomonnlmbljoaaGreatDoor
