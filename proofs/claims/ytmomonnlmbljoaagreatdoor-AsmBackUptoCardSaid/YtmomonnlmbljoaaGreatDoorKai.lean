import Derived.Test.YtmomonnlmbljoaaGreatDoorKah
set_option maxRecDepth 1000000
set_option maxHeartbeats 4000000
set_option linter.unusedVariables false
set_option linter.unusedSimpArgs false
namespace Go.Proofs.YtmomonnlmbljoaaGreatDoor
open Go.V Go.RowKit Go.Shelf Go.Proofs
variable {mL:Int}
section
variable (cb:Cb)(N:Nat)(call:J4)(a0 a1 a2 a3 a4 a5:Value)(xs:List Value)
noncomputable abbrev e9R:Pl:=z_ (z_ (.s (some [4,5,6,7,8,9,10,11,12,13,3]) .d .d))
noncomputable def c6P:=fq Tryz.f41 e9R cb N call [a0]
abbrev c6a:=(nx:c6P cb N call a0=_)
noncomputable def c6C:=fq Tryz.f58 .d cb N call [a0]
abbrev e9D:=(nx:c6C cb N call a0=_)
noncomputable def c0V:=fq Tryz.f69 .d cb N call [a0,a1]
abbrev e9k:=(nx:c0V cb N call a0 a1=_)
noncomputable abbrev e3I:Pl:=z_ (z_ (z_ (z_ (z_ (z_ (z_ (y_ (z_ (y_ (.s (some [67,68,66]) .d .d) .d)) (y_ (z_ (y_ (.l [85,86,87,11,88,89,90,91,92,93,94,95,96,97,98,99,100,101,3,102,84] .d) .d)) .d))))))))
noncomputable def d4W:=lp Tryz.f71 e3I 0 [83,82,1] cb N call [a0,a1,a2] xs
abbrev c9n:=(lx:d4W cb N call a0 a1 a2 xs=_)
noncomputable def c6v:=fq Tryz.f71 e3I cb N call [a0,a1]
abbrev f1y:=wi (c9n cb N call) λh=>(nx:c6v cb N call a0 a1=_)
noncomputable def b2I:=fq Tryz.f79 .d cb N call [a0]
abbrev e1z:=(nx:b2I cb N call a0=_)
noncomputable def d1H:=fq Tryz.f80 .d cb N call [a0,a1]
abbrev e8I:=(nx:d1H cb N call a0 a1=_)
noncomputable def c6o:=fq Tryz.f81 .d cb N call [a0,a1]
abbrev c6E:=(nx:c6o cb N call a0 a1=_)
noncomputable def c7m:=fq Tryz.f85 .d cb N call [a0]
abbrev f0L:=(nx:c7m cb N call a0=_)
noncomputable def c6y:=fq Tryz.f86 .d cb N call [a0]
abbrev f0R:=(nx:c6y cb N call a0=_)
noncomputable def c5M:=fq Tryz.f87 .d cb N call [a0]
abbrev e9j:=(nx:c5M cb N call a0=_)
noncomputable def c7I:=fq Tryz.f88 .d cb N call [a0]
abbrev f0Y:=(nx:c7I cb N call a0=_)
noncomputable abbrev e9U:Pl:=z_ (y_ (z_ (y_ (.s (some [5,6,7,8,9,4]) .d (z_ (z_ (z_ (z_ (z_ (z_ (z_ (.s (some [17,18,19,16]) .d .d))))))))) .d)) .d)
noncomputable def c6q:=fq Tryz.f92 e9U cb N call [a0]
abbrev f1f:=(nx:c6q cb N call a0=_)
noncomputable def c0t:=fq Tryz.f104 .d cb N call [a0,a1]
abbrev e6o:=(nx:c0t cb N call a0 a1=_)
noncomputable def c0O:=fq Tryz.f117 .d cb N call [a0,a1]
abbrev d5S:=(nx:c0O cb N call a0 a1=_)
noncomputable def c0w:=fq Tryz.f124 .d cb N call [a0]
abbrev e7j:=(nx:c0w cb N call a0=_)
noncomputable def e6K:=fq Tryz.f127 .d cb N call []
noncomputable abbrev d5P:Pl:=z_ (z_ (y_ (y_ (.l [10,11,12,13,14,15,16,7,17,18,19,20,21,22,23,24,25,26,27,4,5,28,29,30,31,32,33,34,35,36,37,38,39,40,41,42,43,44,45,46,47,48,49,50,51,52,53,54,6] (z_ (y_ (z_ (z_ (z_ (.s (some [28,29,30,31,32,33,34,35,36,37,38,39,40,41,42,43,44,45,46,47,48,49,50,51,52,6]) .d .d)))) .d))) .d) .d))
noncomputable def b8a:=lp Tryz.f135 d5P 0 [0] cb N call [a0] xs
abbrev c1F:=(lx:b8a cb N call a0 xs=_)
noncomputable def b9O:=fq Tryz.f135 d5P cb N call [a0,a1]
abbrev e7y:=wi (c1F cb N call) λh=>(nx:b9O cb N call a0 a1=_)
noncomputable def b9N:=fq Tryz.f144 .d cb N call [a0,a1]
abbrev e5S:=(nx:b9N cb N call a0 a1=_)
noncomputable def e6w:=fq Tryz.f162 .d cb N call [a0]
noncomputable abbrev e4F:Pl:=z_ (z_ (y_ (z_ (y_ (.l [9,10,11,12,15,16,17,18,19,20,21,22,23,24,25,26,27,28,7,13,14,8] .d) .d)) .d))
noncomputable def e6n:=fq Tryz.f174 e4F cb N call [a0,a1,a2]
noncomputable def e5s:=fq Tryz.f176 .d cb N call []
noncomputable abbrev d6c:Pl:=z_ (y_ (z_ (y_ (.l [5,6,9,10,11,12,13,2,3,7,8,4] .d) .d)) .d)
noncomputable def e0s:=lp Tryz.f182 d6c 0 [0] cb N call [a0] xs
abbrev c5h:=(lx:e0s cb N call a0 xs=_)
noncomputable def c0i:=fq Tryz.f182 d6c cb N call [a0]
abbrev e4i:=wi (c5h cb N call) λh=>(nx:c0i cb N call a0=_)
noncomputable def c0R:=fq Tryz.f184 .d cb N call [a0]
abbrev e3L:=(nx:c0R cb N call a0=_)
noncomputable def c0L:=fq Tryz.f207 .d cb N call [a0,a1,a2]
abbrev e7l:=(nx:c0L cb N call a0 a1 a2=_)
end
end Go.Proofs.YtmomonnlmbljoaaGreatDoor
