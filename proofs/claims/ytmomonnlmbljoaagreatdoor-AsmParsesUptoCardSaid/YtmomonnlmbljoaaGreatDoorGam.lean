import Derived.Test.YtmomonnlmbljoaaGreatDoorGai
set_option maxRecDepth 1000000
set_option maxHeartbeats 4000000
set_option linter.unusedVariables false
set_option linter.unusedSimpArgs false
namespace Go.Proofs.YtmomonnlmbljoaaGreatDoor
open Go.V Go.RowKit Go.Shelf Go.Proofs
variable {mL:Int}
section
variable (cb:Cb)(N:Nat)(call:I5)(a0 a1 a2 a3 a4 a5:Value)(xs:List Value)
noncomputable abbrev e1F:Pl:=z_ (z_ (y_ (z_ (y_ (.l [11,12,13,14,17,18,19,20,21,22,23,24,25,26,4,15,16,5] .d) .d)) .d))
noncomputable def d4X:=lp Tryz.f22 e1F 0 [0,1] cb N call [a0,a1] xs
abbrev d1i:=(lx:d4X cb N call a0 a1 xs=_)
noncomputable def c6M:=fq Tryz.f22 e1F cb N call [a0,a1]
abbrev e8W:=wi (d1i cb N call) λh=>(nx:c6M cb N call a0 a1=_)
noncomputable abbrev d8I:Pl:=z_ (z_ (z_ (y_ (z_ (y_ (.l [23,24,6,25,26,27,28,29,30,31,32,33,34,35,36,37,38,39,40,41,4,5,42,22] .d) .d)) .d)))
noncomputable def d3W:=lp Tryz.f32 d8I 0 [21,0,1] cb N call [a0,a1,a2] xs
abbrev c8y:=(lx:d3W cb N call a0 a1 a2 xs=_)
noncomputable def c7d:=fq Tryz.f32 d8I cb N call [a0,a1]
abbrev e9H:=wi (c8y cb N call) λh=>(nx:c7d cb N call a0 a1=_)
noncomputable def e7B:=fq Tryz.f36 .d cb N call [a0,a1]
noncomputable abbrev e9a:Pl:=z_ (y_ (z_ (y_ (.s (some [5,6,7,4]) .d (z_ (.s (some [9,10,8]) .d (z_ (z_ (z_ (.s (some [14,15,13]) .d (z_ (z_ (z_ (z_ (z_ (.s (some [21,22,23,20]) .d (z_ (.s (some [25,26,24]) .d .d))))))))))))))) .d)) .d)
noncomputable def e7L:=fq Tryz.f39 e9a cb N call [a0]
noncomputable abbrev d7Y:Pl:=z_ (z_ (y_ (y_ (.l [12,13,14,15,16,17,18,19,20,21,22,23,24,25,26,27,10,28,29,43,42,44,45,46,47,48,49,50,51,52,54,53,55,56,57,58,59,60,61,62,63,64,65,66,67,11,68,69,70,71,72,73,74,75,76,77,78,79,80,81,30,31,32,33,34,35,36,37,38,39,9,40,41,1] .d) .d) .d))
noncomputable def c8t:=lp Tryz.f65 d7Y 0 [0,2,8] cb N call [a0,a1,a2] xs
abbrev c4D:=(lx:c8t cb N call a0 a1 a2 xs=_)
noncomputable def c6T:=fq Tryz.f65 d7Y cb N call [a0,a1,a2,a3]
abbrev e9A:=wi (c4D cb N call) λh=>(nx:c6T cb N call a0 a1 a2 a3=_)
noncomputable abbrev f0y:Pl:=z_ (z_ (z_ (y_ (z_ (y_ (.l [14,15,16,5,17,18,19,20,21,22,23,24,25,26,2,27,13] .d) .d)) .d)))
noncomputable def e9d:=fq Tryz.f91 f0y cb N call [a0]
noncomputable abbrev d5A:Pl:=z_ (z_ (z_ (z_ (z_ (z_ (y_ (y_ (.l [49,50,51,52,53,54,55,56,57,58,59,60,10] .d) .d) .d))))))
noncomputable def c8H:=lp Tryz.f105 d5A 0 [0] cb N call [a0] xs
abbrev c4L:=(lx:c8H cb N call a0 xs=_)
noncomputable def c0F:=fq Tryz.f105 d5A cb N call [a0,a1]
abbrev e4H:=wi (c4L cb N call) λh=>(nx:c0F cb N call a0 a1=_)
noncomputable abbrev d4K:Pl:=z_ (y_ (y_ (.l [5,6,7,8,9,10,11,12,13,14,15,16,1] .d) .d) .d)
noncomputable def c8B:=lp Tryz.f133 d4K 0 [0] cb N call [a0] xs
abbrev c5m:=(lx:c8B cb N call a0 xs=_)
noncomputable def b9F:=fq Tryz.f133 d4K cb N call [a0,a1]
abbrev e4k:=wi (c5m cb N call) λh=>(nx:b9F cb N call a0 a1=_)
noncomputable def e6z:=fq Tryz.f136 .d cb N call [a0]
noncomputable def c0E:=fq Tryz.f138 .d cb N call [a0]
abbrev e3H:=(nx:c0E cb N call a0=_)
noncomputable abbrev d4i:Pl:=z_ (z_ (y_ (y_ (.l [4,7,8,9,2,10,11,12,13,3,15,16,14,17,18,5,6,19,20,21,22,23,24,25] .d) .d) .d))
noncomputable def c9P:=lp Tryz.f142 d4i 0 [0] cb N call [a0] xs
abbrev c5z:=(lx:c9P cb N call a0 xs=_)
noncomputable def c0n:=fq Tryz.f142 d4i cb N call [a0]
abbrev e4K:=wi (c5z cb N call) λh=>(nx:c0n cb N call a0=_)
noncomputable abbrev e4F:Pl:=z_ (z_ (z_ (.s (some [27,28,37,36,38,39,40,41,43,42,44,45,46,47,29,30,31,32,33,34,35,2]) .d .d)))
noncomputable def c0m:=fq Tryz.f149 e4F cb N call [a0]
abbrev e4A:=(nx:c0m cb N call a0=_)
noncomputable def e4U:=fq Tryz.f175 .d cb N call []
noncomputable def e3Z:=fq Tryz.f177 .d cb N call []
noncomputable def c0B:=fq Tryz.f187 .d cb N call [a0]
abbrev e5R:=(nx:c0B cb N call a0=_)
end
end Go.Proofs.YtmomonnlmbljoaaGreatDoor
