import Derived.Test.YtmomonnlmbljoaaGreatDoorGai
set_option maxRecDepth 1000000
set_option maxHeartbeats 4000000
set_option linter.unusedVariables false
set_option linter.unusedSimpArgs false
namespace Go.Proofs.YtmomonnlmbljoaaGreatDoor
open Go.V Go.RowKit Go.Shelf Go.Proofs
variable {mL:Int}
section
variable (cb:Cb)(N:Nat)(call:I5)(a0 a1 a2 a3 a4 a5:Value)(xs:List Value)
noncomputable abbrev e1U:Pl:=z_ (z_ (y_ (z_ (y_ (.l [12,13,14,15,18,19,20,21,22,2,16,17,3] .d) .d)) .d))
noncomputable def d3I:=lp Tryz.f24 e1U 0 [0] cb N call [a0] xs
abbrev b6Q:=(lx:d3I cb N call a0 xs=_)
noncomputable def c1T:=fq Tryz.f24 e1U cb N call [a0]
abbrev e2H:=wi (b6Q cb N call) λh=>(nx:c1T cb N call a0=_)
noncomputable def c1H:=fq Tryz.f63 .d cb N call [a0]
abbrev e7I:=(nx:c1H cb N call a0=_)
end
end Go.Proofs.YtmomonnlmbljoaaGreatDoor
