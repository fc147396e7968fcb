import Derived.Test.YtmomonnlmbljoaaGreatDoorKah
set_option maxRecDepth 1000000
set_option maxHeartbeats 4000000
set_option linter.unusedVariables false
set_option linter.unusedSimpArgs false
namespace Go.Proofs.YtmomonnlmbljoaaGreatDoor
open Go.V Go.RowKit Go.Shelf Go.Proofs
variable {mL:Int}
section
variable (cb:Cb)(N:Nat)(call:J4)(a0 a1 a2 a3 a4 a5:Value)(xs:List Value)
noncomputable abbrev d9o:Pl:=z_ (z_ (z_ (y_ (z_ (y_ (.l [12,13,14,6,15,16,7,17,18,2,19,20,21,23,24,25,22,26,27,29,28,30,31,32,34,33,35,36,37,8,38,4,39,40,41,42,43,44,45,3,46,11] (z_ (z_ (y_ (y_ (z_ (z_ (z_ (z_ (.s (some [20,21,23,24,25,22,26,27,29,28,30,31,32,34,33,35,36,37,8,38,4]) (z_ (y_ (.s (some [23,24,25,22]) .d .d) .d)) .d))))) .d) .d)))) .d)) .d)))
noncomputable def d0D:=lp Tryz.f17 d9o 0 [10,9] cb N call [a0,a1] xs
abbrev c4F:=(lx:d0D cb N call a0 a1 xs=_)
noncomputable def c7j:=fq Tryz.f17 d9o cb N call [a0]
abbrev e9s:=wi (c4F cb N call) λh=>(nx:c7j cb N call a0=_)
noncomputable abbrev e2Z:Pl:=z_ (z_ (z_ (y_ (z_ (y_ (.l [6,7,8,9,12,13,14,15,16,17,18,19,20,21,22,24,25,26,23,27,28,29,30,31,32,33,34,35,36,37,39,38,40,41,42,43,44,45,46,47,48,49,50,51,52,53,55,54,56,57,2,58,59,3,60,61,62,4,10,11,5] (z_ (.s (some [12,13,14,15,16,17,18,19,20,21,22,24,25,26,23,27,28,29,30,31,32,33,34,35,36,37,39,38,40,41,42,43,44,45,46,47,48,49,50,51,52,53,55,54,56,57,2,58,59,3,60,61,62,4]) (y_ (z_ (z_ (y_ (.s (some [24,25,26,23]) .d .d) .d))) .d) .d))) .d)) .d)))
noncomputable def c9R:=lp Tryz.f23 e2Z 0 [0] cb N call [a0] xs
abbrev c4S:=(lx:c9R cb N call a0 xs=_)
noncomputable def c5F:=fq Tryz.f23 e2Z cb N call [a0]
abbrev f0s:=wi (c4S cb N call) λh=>(nx:c5F cb N call a0=_)
noncomputable abbrev e1Z:Pl:=z_ (z_ (y_ (z_ (y_ (.l [12,13,14,15,18,19,20,21,22,2,16,17,3] .d) .d)) .d))
noncomputable def d4p:=lp Tryz.f24 e1Z 0 [0] cb N call [a0] xs
abbrev b7L:=(lx:d4p cb N call a0 xs=_)
noncomputable def c1O:=fq Tryz.f24 e1Z cb N call [a0]
abbrev c6G:=wi (b7L cb N call) λh=>(nx:c1O cb N call a0=_)
noncomputable def c2z:=fq Tryz.f63 .d cb N call [a0]
abbrev f1v:=(nx:c2z cb N call a0=_)
end
end Go.Proofs.YtmomonnlmbljoaaGreatDoor
