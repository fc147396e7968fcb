import Derived.Test.YtmomonnlmbljoaaGreatDoorGai
set_option maxRecDepth 1000000
set_option maxHeartbeats 4000000
set_option linter.unusedVariables false
set_option linter.unusedSimpArgs false
namespace Go.Proofs.YtmomonnlmbljoaaGreatDoor
open Go.V Go.RowKit Go.Shelf Go.Proofs
variable {mL:Int}
section
variable (cb:Cb)(N:Nat)(call:I5)(a0 a1 a2 a3 a4 a5:Value)(xs:List Value)
noncomputable def c1d:=fq Tryz.f66 .d cb N call []
abbrev e9R:=(nx:c1d cb N call=_)
noncomputable def b2F:=fq Tryz.f108 .d cb N call [a0]
abbrev e6n:=(nx:b2F cb N call a0=_)
noncomputable abbrev d9d:Pl:=z_ (y_ (z_ (y_ (.l [9,10,13,14,15,16,17,18,19,20,21,22,23,4,11,12,5] .d) .d)) .d)
noncomputable def c8e:=lp Tryz.f83 d9d 0 [0,1] cb N call [a0,a1] xs
abbrev c9H:=(lx:c8e cb N call a0 a1 xs=_)
noncomputable def b3e:=fq Tryz.f83 d9d cb N call [a0,a1]
abbrev e7x:=wi (c9H cb N call) λh=>(nx:b3e cb N call a0 a1=_)
noncomputable abbrev e8N:Pl:=z_ (z_ (z_ (z_ (z_ (z_ (z_ (.s (some [50,51,52,53,54,55,56,57,58,59,60,61,62,63,64,65,66,67,68,69,70]) .d .d)))))))
noncomputable def c3l:=fq Tryz.f67 e8N cb N call [a0,a1,a2]
abbrev f0q:=(nx:c3l cb N call a0 a1 a2=_)
noncomputable def c1J:=fq Tryz.f68 .d cb N call [a0,a1,a2]
abbrev e7H:=(nx:c1J cb N call a0 a1 a2=_)
noncomputable def b5s:=fq Tryz.f70 .d cb N call [a0,a1]
abbrev e9V:=(nx:b5s cb N call a0 a1=_)
noncomputable abbrev e0U:Pl:=z_ (y_ (z_ (y_ (.l [4,5,8,9,10,11,12,13,2,6,7,3] .d) .d)) .d)
noncomputable def d4x:=lp Tryz.f26 e0U 0 [1] cb N call [a0] xs
abbrev c9n:=(lx:d4x cb N call a0 xs=_)
noncomputable def c2i:=fq Tryz.f26 e0U cb N call [a0]
abbrev e9l:=wi (c9n cb N call) λh=>(nx:c2i cb N call a0=_)
end
end Go.Proofs.YtmomonnlmbljoaaGreatDoor
