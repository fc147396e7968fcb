import Derived.Test.YtmomonnlmbljoaaGreatDoorKah
set_option maxRecDepth 1000000
set_option maxHeartbeats 4000000
set_option linter.unusedVariables false
set_option linter.unusedSimpArgs false
namespace Go.Proofs.YtmomonnlmbljoaaGreatDoor
open Go.V Go.RowKit Go.Shelf Go.Proofs
variable {mL:Int}
section
variable (cb:Cb)(N:Nat)(call:J4)(a0 a1 a2 a3 a4 a5:Value)(xs:List Value)
noncomputable def c7s:=fq Tryz.f14 .d cb N call [a0]
abbrev f1q:=(nx:c7s cb N call a0=_)
noncomputable abbrev e1c:Pl:=z_ (z_ (y_ (z_ (y_ (.l [11,12,13,14,17,18,19,20,21,22,23,24,25,26,4,15,16,5] .d) .d)) .d))
noncomputable def d6d:=lp Tryz.f22 e1c 0 [0,1] cb N call [a0,a1] xs
abbrev c9A:=(lx:d6d cb N call a0 a1 xs=_)
noncomputable def c7i:=fq Tryz.f22 e1c cb N call [a0,a1]
abbrev e9u:=wi (c9A cb N call) λh=>(nx:c7i cb N call a0 a1=_)
noncomputable abbrev e0D:Pl:=z_ (z_ (z_ (y_ (z_ (y_ (.l [23,24,6,25,26,27,28,29,30,31,32,33,34,35,36,37,38,39,40,41,4,5,42,22] .d) .d)) .d)))
noncomputable def d5K:=lp Tryz.f32 e0D 0 [21,0,1] cb N call [a0,a1,a2] xs
abbrev d0Q:=(lx:d5K cb N call a0 a1 a2 xs=_)
noncomputable def c7t:=fq Tryz.f32 e0D cb N call [a0,a1]
abbrev f0C:=wi (d0Q cb N call) λh=>(nx:c7t cb N call a0 a1=_)
noncomputable def b3G:=fq Tryz.f36 .d cb N call [a0,a1]
abbrev a4d:=(nx:b3G cb N call a0 a1=_)
noncomputable abbrev f0W:Pl:=z_ (y_ (z_ (y_ (.s (some [5,6,7,4]) .d (z_ (.s (some [9,10,8]) .d (z_ (z_ (z_ (.s (some [14,15,13]) .d (z_ (z_ (z_ (z_ (z_ (.s (some [21,22,23,20]) .d (z_ (.s (some [25,26,24]) .d .d))))))))))))))) .d)) .d)
noncomputable def c5J:=fq Tryz.f39 f0W cb N call [a0]
abbrev f0w:=(nx:c5J cb N call a0=_)
noncomputable abbrev e1E:Pl:=z_ (y_ (z_ (y_ (.l [4,5,6,7,10,11,12,13,14,15,2,8,9,3] .d) .d)) .d)
noncomputable def d5N:=lp Tryz.f60 e1E 0 [0] cb N call [a0] xs
abbrev b6y:=(lx:d5N cb N call a0 xs=_)
noncomputable def c8f:=fq Tryz.f60 e1E cb N call [a0]
abbrev f0q:=wi (b6y cb N call) λh=>(nx:c8f cb N call a0=_)
noncomputable abbrev d8E:Pl:=z_ (z_ (y_ (y_ (.l [12,13,14,15,16,17,18,19,20,21,22,23,24,25,26,27,10,28,29,43,42,44,45,46,47,48,49,50,51,52,54,53,55,56,57,58,59,60,61,62,63,64,65,66,67,11,68,69,70,71,72,73,74,75,76,77,78,79,80,81,30,31,32,33,34,35,36,37,38,39,9,40,41,1] .d) .d) .d))
noncomputable def d0G:=lp Tryz.f65 d8E 0 [0,2,8] cb N call [a0,a1,a2] xs
abbrev c4r:=(lx:d0G cb N call a0 a1 a2 xs=_)
noncomputable def c5W:=fq Tryz.f65 d8E cb N call [a0,a1,a2,a3]
abbrev f0d:=wi (c4r cb N call) λh=>(nx:c5W cb N call a0 a1 a2 a3=_)
noncomputable abbrev d9D:Pl:=z_ (z_ (z_ (y_ (z_ (y_ (.l [14,15,16,5,17,18,19,20,21,22,23,24,25,26,2,27,13] .d) .d)) .d)))
noncomputable def e6x:=lp Tryz.f91 d9D 0 [12,11,3] cb N call [a0,a1,a2] xs
abbrev e1d:=(lx:e6x cb N call a0 a1 a2 xs=_)
noncomputable def c7N:=fq Tryz.f91 d9D cb N call [a0]
abbrev e9Z:=wi (e1d cb N call) λh=>(nx:c7N cb N call a0=_)
noncomputable abbrev d5j:Pl:=z_ (z_ (z_ (z_ (z_ (z_ (y_ (y_ (.l [49,50,51,52,53,54,55,56,57,58,59,60,10] .d) .d) .d))))))
noncomputable def c9Y:=lp Tryz.f105 d5j 0 [0] cb N call [a0] xs
abbrev c4y:=(lx:c9Y cb N call a0 xs=_)
noncomputable def c0q:=fq Tryz.f105 d5j cb N call [a0,a1]
abbrev e4W:=wi (c4y cb N call) λh=>(nx:c0q cb N call a0 a1=_)
noncomputable abbrev d4L:Pl:=z_ (y_ (y_ (.l [5,6,7,8,9,10,11,12,13,14,15,16,1] .d) .d) .d)
noncomputable def d0m:=lp Tryz.f133 d4L 0 [0] cb N call [a0] xs
abbrev c4J:=(lx:d0m cb N call a0 xs=_)
noncomputable def c0h:=fq Tryz.f133 d4L cb N call [a0,a1]
abbrev e6I:=wi (c4J cb N call) λh=>(nx:c0h cb N call a0 a1=_)
noncomputable def e7z:=fq Tryz.f136 .d cb N call [a0]
noncomputable def c0u:=fq Tryz.f138 .d cb N call [a0]
abbrev e6y:=(nx:c0u cb N call a0=_)
noncomputable abbrev d5e:Pl:=z_ (z_ (y_ (y_ (.l [4,7,8,9,2,10,11,12,13,3,15,16,14,17,18,5,6,19,20,21,22,23,24,25] .d) .d) .d))
noncomputable def d1w:=lp Tryz.f142 d5e 0 [0] cb N call [a0] xs
abbrev c5s:=(lx:d1w cb N call a0 xs=_)
noncomputable def c0d:=fq Tryz.f142 d5e cb N call [a0]
abbrev e7g:=wi (c5s cb N call) λh=>(nx:c0d cb N call a0=_)
noncomputable abbrev e4B:Pl:=z_ (z_ (z_ (.s (some [27,28,37,36,38,39,40,41,43,42,44,45,46,47,29,30,31,32,33,34,35,2]) .d .d)))
noncomputable def c0P:=fq Tryz.f149 e4B cb N call [a0]
abbrev e5p:=(nx:c0P cb N call a0=_)
noncomputable def e7n:=fq Tryz.f175 .d cb N call []
noncomputable def e7p:=fq Tryz.f177 .d cb N call []
noncomputable def c0z:=fq Tryz.f187 .d cb N call [a0]
abbrev e4s:=(nx:c0z cb N call a0=_)
end
end Go.Proofs.YtmomonnlmbljoaaGreatDoor
