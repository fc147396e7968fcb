import Derived.Test.YtmomonnlmbljoaaGreatDoorBal
set_option maxRecDepth 1000000
set_option maxHeartbeats 4000000
set_option linter.unusedVariables false
set_option linter.unusedSimpArgs false
section
namespace Go.Proofs.YtmomonnlmbljoaaGreatDoor
open Go.V Go.RowKit Go.Shelf Go.Proofs
variable {mL:Int}
variable (cb:Cb)(N:Nat)(call:J7)(a0 a1 a2 a3 a4 a5:Value)(xs:List Value)
noncomputable def c6n:=fq Tryz.f14 .d cb N call [a0]
abbrev e9l:=(nx:c6n cb N call a0=_)
noncomputable abbrev d9Y:Pl:=z_ (z_ (y_ (z_ (y_ (.l [11,12,13,14,17,18,19,20,21,22,23,24,25,26,4,15,16,5] .d) .d)) .d))
noncomputable def d4S:=lp Tryz.f22 d9Y 0 [0,1] cb N call [a0,a1] xs
abbrev c8Q:=(lx:d4S cb N call a0 a1 xs=_)
noncomputable def c6W:=fq Tryz.f22 d9Y cb N call [a0,a1]
abbrev e8W:=wi (c8Q cb N call) λh=>(nx:c6W cb N call a0 a1=_)
noncomputable abbrev e2u:Pl:=z_ (z_ (z_ (y_ (z_ (y_ (.l [23,24,6,25,26,27,28,29,30,31,32,33,34,35,36,37,38,39,40,41,4,5,42,22] .d) .d)) .d)))
noncomputable def d4a:=lp Tryz.f32 e2u 0 [21,0,1] cb N call [a0,a1,a2] xs
abbrev d0u:=(lx:d4a cb N call a0 a1 a2 xs=_)
noncomputable def c6M:=fq Tryz.f32 e2u cb N call [a0,a1]
abbrev e9h:=wi (d0u cb N call) λh=>(nx:c6M cb N call a0 a1=_)
noncomputable def b3J:=fq Tryz.f36 .d cb N call [a0,a1]
abbrev a3P:=(nx:b3J cb N call a0 a1=_)
noncomputable abbrev e8y:Pl:=z_ (y_ (z_ (y_ (.s (some [5,6,7,4]) .d (z_ (.s (some [9,10,8]) .d (z_ (z_ (z_ (.s (some [14,15,13]) .d (z_ (z_ (z_ (z_ (z_ (.s (some [21,22,23,20]) .d (z_ (.s (some [25,26,24]) .d .d))))))))))))))) .d)) .d)
noncomputable def c5Y:=fq Tryz.f39 e8y cb N call [a0]
abbrev e9Z:=(nx:c5Y cb N call a0=_)
noncomputable abbrev d8m:Pl:=z_ (y_ (z_ (y_ (.l [4,5,6,7,10,11,12,13,14,15,2,8,9,3] .d) .d)) .d)
noncomputable def d5o:=lp Tryz.f60 d8m 0 [0] cb N call [a0] xs
abbrev b5X:=(lx:d5o cb N call a0 xs=_)
noncomputable def c6y:=fq Tryz.f60 d8m cb N call [a0]
abbrev f0f:=wi (b5X cb N call) λh=>(nx:c6y cb N call a0=_)
noncomputable abbrev e1W:Pl:=z_ (z_ (y_ (y_ (.l [12,13,14,15,16,17,18,19,20,21,22,23,24,25,26,27,10,28,29,43,42,44,45,46,47,48,49,50,51,52,54,53,55,56,57,58,59,60,61,62,63,64,65,66,67,11,68,69,70,71,72,73,74,75,76,77,78,79,80,81,30,31,32,33,34,35,36,37,38,39,9,40,41,1] .d) .d) .d))
noncomputable def d0b:=lp Tryz.f65 e1W 0 [0,2,8] cb N call [a0,a1,a2] xs
abbrev c3W:=(lx:d0b cb N call a0 a1 a2 xs=_)
noncomputable def c6D:=fq Tryz.f65 e1W cb N call [a0,a1,a2,a3]
abbrev e9S:=wi (c3W cb N call) λh=>(nx:c6D cb N call a0 a1 a2 a3=_)
noncomputable abbrev d9u:Pl:=z_ (z_ (z_ (y_ (z_ (y_ (.l [14,15,16,5,17,18,19,20,21,22,23,24,25,26,2,27,13] .d) .d)) .d)))
noncomputable def e6s:=lp Tryz.f91 d9u 0 [12,11,3] cb N call [a0,a1,a2] xs
abbrev d8h:=(lx:e6s cb N call a0 a1 a2 xs=_)
noncomputable def c7R:=fq Tryz.f91 d9u cb N call [a0]
abbrev f0l:=wi (d8h cb N call) λh=>(nx:c7R cb N call a0=_)
noncomputable abbrev d4s:Pl:=z_ (z_ (z_ (z_ (z_ (z_ (y_ (y_ (.l [49,50,51,52,53,54,55,56,57,58,59,60,10] .d) .d) .d))))))
noncomputable def c9M:=lp Tryz.f105 d4s 0 [0] cb N call [a0] xs
abbrev c4K:=(lx:c9M cb N call a0 xs=_)
noncomputable def b9r:=fq Tryz.f105 d4s cb N call [a0,a1]
abbrev e3e:=wi (c4K cb N call) λh=>(nx:b9r cb N call a0 a1=_)
noncomputable abbrev d4W:Pl:=z_ (y_ (y_ (.l [5,6,7,8,9,10,11,12,13,14,15,16,1] .d) .d) .d)
noncomputable def d0z:=lp Tryz.f133 d4W 0 [0] cb N call [a0] xs
abbrev c4H:=(lx:d0z cb N call a0 xs=_)
noncomputable def b9t:=fq Tryz.f133 d4W cb N call [a0,a1]
abbrev e5D:=wi (c4H cb N call) λh=>(nx:b9t cb N call a0 a1=_)
noncomputable def e6j:=fq Tryz.f136 .d cb N call [a0]
noncomputable def b9A:=fq Tryz.f138 .d cb N call [a0]
abbrev e5X:=(nx:b9A cb N call a0=_)
noncomputable abbrev d3Y:Pl:=z_ (z_ (y_ (y_ (.l [4,7,8,9,2,10,11,12,13,3,15,16,14,17,18,5,6,19,20,21,22,23,24,25] .d) .d) .d))
noncomputable def c8c:=lp Tryz.f142 d3Y 0 [0] cb N call [a0] xs
abbrev c4d:=(lx:c8c cb N call a0 xs=_)
noncomputable def b9R:=fq Tryz.f142 d3Y cb N call [a0]
abbrev e4F:=wi (c4d cb N call) λh=>(nx:b9R cb N call a0=_)
noncomputable abbrev e5R:Pl:=z_ (z_ (z_ (.s (some [27,28,37,36,38,39,40,41,43,42,44,45,46,47,29,30,31,32,33,34,35,2]) .d .d)))
noncomputable def b9u:=fq Tryz.f149 e5R cb N call [a0]
abbrev e6H:=(nx:b9u cb N call a0=_)
noncomputable def e5Y:=fq Tryz.f175 .d cb N call []
noncomputable def e7b:=fq Tryz.f177 .d cb N call []
noncomputable def b9n:=fq Tryz.f187 .d cb N call [a0]
abbrev e4A:=(nx:b9n cb N call a0=_)
end Go.Proofs.YtmomonnlmbljoaaGreatDoor
end
