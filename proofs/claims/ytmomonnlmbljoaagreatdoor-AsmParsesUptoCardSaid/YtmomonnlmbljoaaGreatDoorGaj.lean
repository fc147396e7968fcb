import Derived.Test.YtmomonnlmbljoaaGreatDoorGai
set_option maxRecDepth 1000000
set_option maxHeartbeats 4000000
set_option linter.unusedVariables false
set_option linter.unusedSimpArgs false
namespace Go.Proofs.YtmomonnlmbljoaaGreatDoor
open Go.V Go.RowKit Go.Shelf Go.Proofs
variable {mL:Int}
section
variable (cb:Cb)(N:Nat)(call:I5)(a0 a1 a2 a3 a4 a5:Value)(xs:List Value)
noncomputable def c2X:=fq Tryz.f69 .d cb N call [a0,a1]
abbrev f0c:=(nx:c2X cb N call a0 a1=_)
noncomputable abbrev e1Z:Pl:=z_ (z_ (z_ (z_ (z_ (z_ (z_ (y_ (z_ (y_ (.s (some [67,68,66]) .d .d) .d)) (y_ (z_ (y_ (.l [85,86,87,11,88,89,90,91,92,93,94,95,96,97,98,99,100,101,3,102,84] .d) .d)) .d))))))))
noncomputable def d5y:=lp Tryz.f71 e1Z 0 [83,82,1] cb N call [a0,a1,a2] xs
abbrev d0T:=(lx:d5y cb N call a0 a1 a2 xs=_)
noncomputable def c6y:=fq Tryz.f71 e1Z cb N call [a0,a1]
abbrev e7z:=wi (d0T cb N call) λh=>(nx:c6y cb N call a0 a1=_)
noncomputable def b1E:=fq Tryz.f79 .d cb N call [a0]
abbrev e0F:=(nx:b1E cb N call a0=_)
noncomputable def d3e:=fq Tryz.f80 .d cb N call [a0,a1]
abbrev e9X:=(nx:d3e cb N call a0 a1=_)
noncomputable def c7A:=fq Tryz.f81 .d cb N call [a0,a1]
abbrev c6j:=(nx:c7A cb N call a0 a1=_)
noncomputable def e9m:=fq Tryz.f85 .d cb N call [a0]
noncomputable abbrev e7X:Pl:=z_ (y_ (z_ (y_ (.s (some [5,6,7,8,9,4]) .d (z_ (z_ (z_ (z_ (z_ (z_ (z_ (.s (some [17,18,19,16]) .d .d))))))))) .d)) .d)
noncomputable def f0t:=fq Tryz.f92 e7X cb N call [a0]
noncomputable def b9B:=fq Tryz.f104 .d cb N call [a0,a1]
abbrev e6G:=(nx:b9B cb N call a0 a1=_)
noncomputable def c0u:=fq Tryz.f117 .d cb N call [a0,a1]
abbrev d3K:=(nx:c0u cb N call a0 a1=_)
noncomputable def e6d:=fq Tryz.f124 .d cb N call [a0]
noncomputable def e4R:=fq Tryz.f127 .d cb N call []
noncomputable abbrev d5q:Pl:=z_ (z_ (y_ (y_ (.l [10,11,12,13,14,15,16,7,17,18,19,20,21,22,23,24,25,26,27,4,5,28,29,30,31,32,33,34,35,36,37,38,39,40,41,42,43,44,45,46,47,48,49,50,51,52,53,54,6] (z_ (y_ (z_ (z_ (z_ (.s (some [28,29,30,31,32,33,34,35,36,37,38,39,40,41,42,43,44,45,46,47,48,49,50,51,52,6]) .d .d)))) .d))) .d) .d))
noncomputable def b7E:=lp Tryz.f135 d5q 0 [0] cb N call [a0] xs
abbrev c0Y:=(lx:b7E cb N call a0 xs=_)
noncomputable def c0q:=fq Tryz.f135 d5q cb N call [a0,a1]
abbrev e6N:=wi (c0Y cb N call) λh=>(nx:c0q cb N call a0 a1=_)
noncomputable def b9Y:=fq Tryz.f144 .d cb N call [a0,a1]
abbrev e6o:=(nx:b9Y cb N call a0 a1=_)
noncomputable def e3G:=fq Tryz.f162 .d cb N call [a0]
noncomputable abbrev e3a:Pl:=z_ (z_ (y_ (z_ (y_ (.l [9,10,11,12,15,16,17,18,19,20,21,22,23,24,25,26,27,28,7,13,14,8] .d) .d)) .d))
noncomputable def e3q:=fq Tryz.f174 e3a cb N call [a0,a1,a2]
noncomputable def e4P:=fq Tryz.f176 .d cb N call []
noncomputable abbrev d3Z:Pl:=z_ (y_ (z_ (y_ (.l [5,6,9,10,11,12,13,2,3,7,8,4] .d) .d)) .d)
noncomputable def d7P:=lp Tryz.f182 d3Z 0 [0] cb N call [a0] xs
abbrev c4N:=(lx:d7P cb N call a0 xs=_)
noncomputable def b9J:=fq Tryz.f182 d3Z cb N call [a0]
abbrev e3Y:=wi (c4N cb N call) λh=>(nx:b9J cb N call a0=_)
noncomputable def b9q:=fq Tryz.f184 .d cb N call [a0]
abbrev e2V:=(nx:b9q cb N call a0=_)
noncomputable def c0o:=fq Tryz.f207 .d cb N call [a0,a1,a2]
abbrev e6q:=(nx:c0o cb N call a0 a1 a2=_)
end
end Go.Proofs.YtmomonnlmbljoaaGreatDoor
