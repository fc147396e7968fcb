import Derived.Test.YtmomonnlmbljoaaGreatDoorGai
set_option maxRecDepth 1000000
set_option maxHeartbeats 4000000
set_option linter.unusedVariables false
set_option linter.unusedSimpArgs false
namespace Go.Proofs.YtmomonnlmbljoaaGreatDoor
open Go.V Go.RowKit Go.Shelf Go.Proofs
variable {mL:Int}
section
variable (cb:Cb)(N:Nat)(call:I5)(a0 a1 a2 a3 a4 a5:Value)(xs:List Value)
noncomputable def b1B:=fq Tryz.f106 .d cb N call [a0,a1]
abbrev d4g:=(nx:b1B cb N call a0 a1=_)
noncomputable def b9w:=fq Tryz.f111 .d cb N call [a0,a1]
abbrev e3g:=(nx:b9w cb N call a0 a1=_)
noncomputable def c0W:=fq Tryz.f112 .d cb N call [a0]
abbrev e5c:=(nx:c0W cb N call a0=_)
noncomputable def c0O:=fq Tryz.f113 .d cb N call [a0,a1]
abbrev e5g:=(nx:c0O cb N call a0 a1=_)
noncomputable def e3F:=fq Tryz.f130 .d cb N call [a0,a1]
noncomputable abbrev d3V:Pl:=z_ (z_ (y_ (y_ (.l [7,8,9,10,11,12,13,14,15,16,6,17,18,19,20,21,22,23,24,25,26,5,27,28,29,30,1,31,32,33,4] (z_ (y_ (z_ (.s (some [17,18,19,20,21,22,23,24,25,26,5,27,28,29,30,1]) .d .d)) .d))) .d) .d))
noncomputable def d0f:=lp Tryz.f134 d3V 0 [0] cb N call [a0] xs
abbrev c5p:=(lx:d0f cb N call a0 xs=_)
noncomputable def b9K:=fq Tryz.f134 d3V cb N call [a0,a1]
abbrev e5Z:=wi (c5p cb N call) λh=>(nx:b9K cb N call a0 a1=_)
noncomputable def c0z:=fq Tryz.f139 .d cb N call [a0]
abbrev e6F:=(nx:c0z cb N call a0=_)
noncomputable abbrev e4Y:Pl:=z_ (z_ (z_ (.s (some [29,30,28,31,32,3,4,33,34,35,36,37,38,39,40,41,42,43,45,46,47,48,44,49,50,5,6,51,52,53,54,55,56,57,58,59,60,2,61,62,63,64,65,66,67,68,69,70,71,72,73]) .d .d)))
noncomputable def b9E:=fq Tryz.f147 e4Y cb N call [a0]
abbrev e6b:=(nx:b9E cb N call a0=_)
noncomputable def c0M:=fq Tryz.f183 .d cb N call [a0,a1,a2]
abbrev e3J:=(nx:c0M cb N call a0 a1 a2=_)
noncomputable def e4l:=fq Tryz.f188 .d cb N call [a0]
end
end Go.Proofs.YtmomonnlmbljoaaGreatDoor
