import Derived.Test.YtmomonnlmbljoaaGreatDoorGai
set_option maxRecDepth 1000000
set_option maxHeartbeats 4000000
set_option linter.unusedVariables false
set_option linter.unusedSimpArgs false
namespace Go.Proofs.YtmomonnlmbljoaaGreatDoor
open Go.V Go.RowKit Go.Shelf Go.Proofs
variable {mL:Int}
section
variable (cb:Cb)(N:Nat)(call:I5)(a0 a1 a2 a3 a4 a5:Value)(xs:List Value)
noncomputable def c7W:=fq Tryz.f45 .d cb N call [a0]
abbrev e1o:=(nx:c7W cb N call a0=_)
noncomputable def e6O:=fq Tryz.f128 .d cb N call [a0]
noncomputable abbrev e3Q:Pl:=z_ (y_ (z_ (y_ (.l [6,7,8,9,10,11,12,15,16,17,18,19,20,21,22,23,4,13,14,5] .d) .d)) .d)
noncomputable def e4M:=fq Tryz.f178 e3Q cb N call [a0,a1]
end
end Go.Proofs.YtmomonnlmbljoaaGreatDoor
