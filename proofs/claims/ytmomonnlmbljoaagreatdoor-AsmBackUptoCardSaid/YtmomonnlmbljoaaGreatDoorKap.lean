import Derived.Test.YtmomonnlmbljoaaGreatDoorKah
set_option maxRecDepth 1000000
set_option maxHeartbeats 4000000
set_option linter.unusedVariables false
set_option linter.unusedSimpArgs false
namespace Go.Proofs.YtmomonnlmbljoaaGreatDoor
open Go.V Go.RowKit Go.Shelf Go.Proofs
variable {mL:Int}
section
variable (cb:Cb)(N:Nat)(call:J4)(a0 a1 a2 a3 a4 a5:Value)(xs:List Value)
noncomputable def c1k:=fq Tryz.f66 .d cb N call []
abbrev f0r:=(nx:c1k cb N call=_)
noncomputable def b6q:=fq Tryz.f108 .d cb N call [a0]
abbrev e5C:=(nx:b6q cb N call a0=_)
noncomputable abbrev e3n:Pl:=z_ (y_ (z_ (y_ (.l [9,10,13,14,15,16,17,18,19,20,21,22,23,4,11,12,5] .d) .d)) .d)
noncomputable def d5X:=lp Tryz.f83 e3n 0 [0,1] cb N call [a0,a1] xs
abbrev d0u:=(lx:d5X cb N call a0 a1 xs=_)
noncomputable def b8u:=fq Tryz.f83 e3n cb N call [a0,a1]
abbrev e9M:=wi (d0u cb N call) λh=>(nx:b8u cb N call a0 a1=_)
noncomputable abbrev f0Z:Pl:=z_ (z_ (z_ (z_ (z_ (z_ (z_ (.s (some [50,51,52,53,54,55,56,57,58,59,60,61,62,63,64,65,66,67,68,69,70]) .d .d)))))))
noncomputable def c1M:=fq Tryz.f67 f0Z cb N call [a0,a1,a2]
abbrev e9E:=(nx:c1M cb N call a0 a1 a2=_)
noncomputable def c2u:=fq Tryz.f68 .d cb N call [a0,a1,a2]
abbrev f1s:=(nx:c2u cb N call a0 a1 a2=_)
noncomputable def c3C:=fq Tryz.f70 .d cb N call [a0,a1]
abbrev e9b:=(nx:c3C cb N call a0 a1=_)
noncomputable abbrev e3A:Pl:=z_ (y_ (z_ (y_ (.l [4,5,8,9,10,11,12,13,2,6,7,3] .d) .d)) .d)
noncomputable def d4A:=lp Tryz.f26 e3A 0 [1] cb N call [a0] xs
abbrev c8u:=(lx:d4A cb N call a0 xs=_)
noncomputable def c2Z:=fq Tryz.f26 e3A cb N call [a0]
abbrev f1w:=wi (c8u cb N call) λh=>(nx:c2Z cb N call a0=_)
noncomputable abbrev pl9:Pl:=z_ (z_ (z_ (z_ (z_ (y_ (z_ (y_ (.l [35,36,37,38,41,42,43,44,45,46,47,6,39,40,7] .d) .d)) .d)))))
noncomputable def e1P:=lp Tryz.f9 pl9 0 [5] cb N call [a0] xs
abbrev d6b:=(lx:e1P cb N call a0 xs=_)
noncomputable def sh9:=fq Tryz.f9 pl9 cb N call [a0,a1]
abbrev nf9:=wi (d6b cb N call) λh=>(nx:sh9 cb N call a0 a1=_)
end
end Go.Proofs.YtmomonnlmbljoaaGreatDoor
