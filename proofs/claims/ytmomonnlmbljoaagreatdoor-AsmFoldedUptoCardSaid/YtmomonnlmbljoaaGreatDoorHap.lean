import Derived.Test.YtmomonnlmbljoaaGreatDoorHal
set_option maxRecDepth 1000000
set_option maxHeartbeats 4000000
set_option linter.unusedVariables false
set_option linter.unusedSimpArgs false
section
namespace Go.Proofs.YtmomonnlmbljoaaGreatDoor
open Go.V Go.RowKit Go.Shelf Go.Proofs
variable {mL:Int}
variable (cb:Cb)(N:Nat)(call:A8)(a0 a1 a2 a3 a4 a5:Value)(xs:List Value)
noncomputable def c2W:=fq Tryz.f14 .d cb N call [a0]
abbrev e4G:=(nx:c2W cb N call a0=_)
noncomputable abbrev d6z:Pl:=z_ (z_ (y_ (z_ (y_ (.l [11,12,13,14,17,18,19,20,21,22,23,24,25,26,4,15,16,5] .d) .d)) .d))
noncomputable def d1z:=lp Tryz.f22 d6z 0 [0,1] cb N call [a0,a1] xs
abbrev c7j:=(lx:d1z cb N call a0 a1 xs=_)
noncomputable def c4O:=fq Tryz.f22 d6z cb N call [a0,a1]
abbrev e3Y:=wi (c7j cb N call) λh=>(nx:c4O cb N call a0 a1=_)
noncomputable abbrev d6o:Pl:=z_ (z_ (z_ (y_ (z_ (y_ (.l [23,24,6,25,26,27,28,29,30,31,32,33,34,35,36,37,38,39,40,41,4,5,42,22] .d) .d)) .d)))
noncomputable def d1A:=lp Tryz.f32 d6o 0 [21,0,1] cb N call [a0,a1,a2] xs
abbrev c6i:=(lx:d1A cb N call a0 a1 a2 xs=_)
noncomputable def c2u:=fq Tryz.f32 d6o cb N call [a0,a1]
abbrev e4d:=wi (c6i cb N call) λh=>(nx:c2u cb N call a0 a1=_)
noncomputable def b1g:=fq Tryz.f36 .d cb N call [a0,a1]
abbrev a1N:=(nx:b1g cb N call a0 a1=_)
noncomputable abbrev e4e:Pl:=z_ (y_ (z_ (y_ (.s (some [5,6,7,4]) .d (z_ (.s (some [9,10,8]) .d (z_ (z_ (z_ (.s (some [14,15,13]) .d (z_ (z_ (z_ (z_ (z_ (.s (some [21,22,23,20]) .d (z_ (.s (some [25,26,24]) .d .d))))))))))))))) .d)) .d)
noncomputable def c2M:=fq Tryz.f39 e4e cb N call [a0]
abbrev e5X:=(nx:c2M cb N call a0=_)
noncomputable abbrev d4r:Pl:=z_ (y_ (z_ (y_ (.l [4,5,6,7,10,11,12,13,14,15,2,8,9,3] .d) .d)) .d)
noncomputable def d1T:=lp Tryz.f60 d4r 0 [0] cb N call [a0] xs
abbrev b3n:=(lx:d1T cb N call a0 xs=_)
noncomputable def c3c:=fq Tryz.f60 d4r cb N call [a0]
abbrev e6h:=wi (b3n cb N call) λh=>(nx:c3c cb N call a0=_)
noncomputable abbrev d4D:Pl:=z_ (z_ (y_ (y_ (.l [12,13,14,15,16,17,18,19,20,21,22,23,24,25,26,27,10,28,29,43,42,44,45,46,47,48,49,50,51,52,54,53,55,56,57,58,59,60,61,62,63,64,65,66,67,11,68,69,70,71,72,73,74,75,76,77,78,79,80,81,30,31,32,33,34,35,36,37,38,39,9,40,41,1] .d) .d) .d))
noncomputable def c6Z:=lp Tryz.f65 d4D 0 [0,2,8] cb N call [a0,a1,a2] xs
abbrev c1s:=(lx:c6Z cb N call a0 a1 a2 xs=_)
noncomputable def c2A:=fq Tryz.f65 d4D cb N call [a0,a1,a2,a3]
abbrev e6k:=wi (c1s cb N call) λh=>(nx:c2A cb N call a0 a1 a2 a3=_)
noncomputable abbrev d5c:Pl:=z_ (z_ (z_ (y_ (z_ (y_ (.l [14,15,16,5,17,18,19,20,21,22,23,24,25,26,2,27,13] .d) .d)) .d)))
noncomputable def e1X:=lp Tryz.f91 d5c 0 [12,11,3] cb N call [a0,a1,a2] xs
abbrev d4Z:=(lx:e1X cb N call a0 a1 a2 xs=_)
noncomputable def c4G:=fq Tryz.f91 d5c cb N call [a0]
abbrev e4L:=wi (d4Z cb N call) λh=>(nx:c4G cb N call a0=_)
noncomputable abbrev d1O:Pl:=z_ (z_ (z_ (z_ (z_ (z_ (y_ (y_ (.l [49,50,51,52,53,54,55,56,57,58,59,60,10] .d) .d) .d))))))
noncomputable def c5Q:=lp Tryz.f105 d1O 0 [0] cb N call [a0] xs
abbrev c2o:=(lx:c5Q cb N call a0 xs=_)
noncomputable def b6H:=fq Tryz.f105 d1O cb N call [a0,a1]
abbrev d9O:=wi (c2o cb N call) λh=>(nx:b6H cb N call a0 a1=_)
noncomputable abbrev d1q:Pl:=z_ (y_ (y_ (.l [5,6,7,8,9,10,11,12,13,14,15,16,1] .d) .d) .d)
noncomputable def c6I:=lp Tryz.f133 d1q 0 [0] cb N call [a0] xs
abbrev c1L:=(lx:c6I cb N call a0 xs=_)
noncomputable def b7l:=fq Tryz.f133 d1q cb N call [a0,a1]
abbrev e3f:=wi (c1L cb N call) λh=>(nx:b7l cb N call a0 a1=_)
noncomputable def d9A:=fq Tryz.f136 .d cb N call [a0]
noncomputable def b7i:=fq Tryz.f138 .d cb N call [a0]
abbrev e1K:=(nx:b7i cb N call a0=_)
noncomputable abbrev d1x:Pl:=z_ (z_ (y_ (y_ (.l [4,7,8,9,2,10,11,12,13,3,15,16,14,17,18,5,6,19,20,21,22,23,24,25] .d) .d) .d))
noncomputable def c6z:=lp Tryz.f142 d1x 0 [0] cb N call [a0] xs
abbrev c1X:=(lx:c6z cb N call a0 xs=_)
noncomputable def b6R:=fq Tryz.f142 d1x cb N call [a0]
abbrev e3g:=wi (c1X cb N call) λh=>(nx:b6R cb N call a0=_)
noncomputable abbrev d9J:Pl:=z_ (z_ (z_ (.s (some [27,28,37,36,38,39,40,41,43,42,44,45,46,47,29,30,31,32,33,34,35,2]) .d .d)))
noncomputable def b7D:=fq Tryz.f149 d9J cb N call [a0]
abbrev e1A:=(nx:b7D cb N call a0=_)
noncomputable def e0P:=fq Tryz.f175 .d cb N call []
noncomputable def e2z:=fq Tryz.f177 .d cb N call []
noncomputable def b6J:=fq Tryz.f187 .d cb N call [a0]
abbrev e2y:=(nx:b6J cb N call a0=_)
end Go.Proofs.YtmomonnlmbljoaaGreatDoor
end
