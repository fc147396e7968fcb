import Derived.Test.YtmomonnlmbljoaaGreatDoorBal
set_option maxRecDepth 1000000
set_option maxHeartbeats 4000000
set_option linter.unusedVariables false
set_option linter.unusedSimpArgs false
section
namespace Go.Proofs.YtmomonnlmbljoaaGreatDoor
open Go.V Go.RowKit Go.Shelf Go.Proofs
variable {mL:Int}
variable (cb:Cb)(N:Nat)(call:J7)(a0 a1 a2 a3 a4 a5:Value)(xs:List Value)
noncomputable abbrev pl6:Pl:=z_ (z_ (z_ (.s (some [41,42,43,44,7]) .d (z_ (z_ (z_ (y_ (z_ (y_ (.l [53,54,55,56,59,60,61,62,63,64,65,8,57,58,10] .d) .d)) .d)))))))
noncomputable def d9P:=lp Tryz.f6 pl6 0 [9] cb N call [a0] xs
abbrev d5m:=(lx:d9P cb N call a0 xs=_)
noncomputable def sh6:=fq Tryz.f6 pl6 cb N call [a0,a1,a2]
abbrev nf6:=wi (d5m cb N call) λh=>(nx:sh6 cb N call a0 a1 a2=_)
noncomputable abbrev d8c:Pl:=z_ (z_ (z_ (y_ (z_ (y_ (.l [12,13,14,6,15,16,7,17,18,2,19,20,21,23,24,25,22,26,27,29,28,30,31,32,34,33,35,36,37,8,38,4,39,40,41,42,43,44,45,3,46,11] (z_ (z_ (y_ (y_ (z_ (z_ (z_ (z_ (.s (some [20,21,23,24,25,22,26,27,29,28,30,31,32,34,33,35,36,37,8,38,4]) (z_ (y_ (.s (some [23,24,25,22]) .d .d) .d)) .d))))) .d) .d)))) .d)) .d)))
noncomputable def c8D:=lp Tryz.f17 d8c 0 [10,9] cb N call [a0,a1] xs
abbrev c4U:=(lx:c8D cb N call a0 a1 xs=_)
noncomputable def c7y:=fq Tryz.f17 d8c cb N call [a0]
abbrev e8v:=wi (c4U cb N call) λh=>(nx:c7y cb N call a0=_)
noncomputable abbrev e0T:Pl:=z_ (z_ (z_ (y_ (z_ (y_ (.l [6,7,8,9,12,13,14,15,16,17,18,19,20,21,22,24,25,26,23,27,28,29,30,31,32,33,34,35,36,37,39,38,40,41,42,43,44,45,46,47,48,49,50,51,52,53,55,54,56,57,2,58,59,3,60,61,62,4,10,11,5] (z_ (.s (some [12,13,14,15,16,17,18,19,20,21,22,24,25,26,23,27,28,29,30,31,32,33,34,35,36,37,39,38,40,41,42,43,44,45,46,47,48,49,50,51,52,53,55,54,56,57,2,58,59,3,60,61,62,4]) (y_ (z_ (z_ (y_ (.s (some [24,25,26,23]) .d .d) .d))) .d) .d))) .d)) .d)))
noncomputable def d0T:=lp Tryz.f23 e0T 0 [0] cb N call [a0] xs
abbrev c4A:=(lx:d0T cb N call a0 xs=_)
noncomputable def c5R:=fq Tryz.f23 e0T cb N call [a0]
abbrev e9x:=wi (c4A cb N call) λh=>(nx:c5R cb N call a0=_)
noncomputable abbrev e2f:Pl:=z_ (z_ (y_ (z_ (y_ (.l [12,13,14,15,18,19,20,21,22,2,16,17,3] .d) .d)) .d))
noncomputable def d5g:=lp Tryz.f24 e2f 0 [0] cb N call [a0] xs
abbrev b5U:=(lx:d5g cb N call a0 xs=_)
noncomputable def c0k:=fq Tryz.f24 e2f cb N call [a0]
abbrev c6V:=wi (b5U cb N call) λh=>(nx:c0k cb N call a0=_)
noncomputable def c2C:=fq Tryz.f63 .d cb N call [a0]
abbrev e7X:=(nx:c2C cb N call a0=_)
end Go.Proofs.YtmomonnlmbljoaaGreatDoor
end
