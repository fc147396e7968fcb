import Derived.Test.YtmomonnlmbljoaaGreatDoorGai
set_option maxRecDepth 1000000
set_option maxHeartbeats 4000000
set_option linter.unusedVariables false
set_option linter.unusedSimpArgs false
namespace Go.Proofs.YtmomonnlmbljoaaGreatDoor
open Go.V Go.RowKit Go.Shelf Go.Proofs
variable {mL:Int}
section
variable (cb:Cb)(N:Nat)(call:I5)(a0 a1 a2 a3 a4 a5:Value)(xs:List Value)
noncomputable abbrev d4O:Pl:=z_ (z_ (.s (some [12,13,14,15,16,17,18,19,20,21,22,23,24,5,6]) .d (z_ (y_ (z_ (y_ (.l [26,27,28,29,32,33,34,35,11,36,37,38,39,40,41,42,43,44,45,46,47,48,49,2,3,4,50,51,52,53,54,55,56,57,58,59,60,8,61,62,63,64,65,66,67,7,9,30,31,10] (z_ (.s (some [32,33,34,35,11,36,37,38,39,40,41,42,43,44,45,46,47,48,49,2,3,4,50,51,52,53,54,55,56,57,58,59,60,8,61,62,63,64,65,66,67,7,9]) .d .d))) .d)) .d))))
noncomputable def b8i (cb:Cb)(N:Nat)(call:I5)(a0:Value)(vs1 xs14:List Value):M R2:=lp Tryz.f119 d4O 0 [0,5] cb N call [a0,(C8 vs1 13)] xs14
abbrev c3B:=λ(cb:Cb) (N:Nat) (call:I5) (a0:Value) (vs1 xs14:List Value)=>(lx:b8i cb N call a0 vs1 xs14=_)
noncomputable def c0N:=fq Tryz.f119 d4O cb N call [a0]
abbrev e3f:=wi (c3B cb N call) λh=>(nx:c0N cb N call a0=_)
end
end Go.Proofs.YtmomonnlmbljoaaGreatDoor
