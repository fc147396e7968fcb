import Derived.Test.YtmomonnlmbljoaaGreatDoorBal
set_option maxRecDepth 1000000
set_option maxHeartbeats 4000000
set_option linter.unusedVariables false
set_option linter.unusedSimpArgs false
section
namespace Go.Proofs.YtmomonnlmbljoaaGreatDoor
open Go.V Go.RowKit Go.Shelf Go.Proofs
variable {mL:Int}
variable (cb:Cb)(N:Nat)(call:J7)(a0 a1 a2 a3 a4 a5:Value)(xs:List Value)
noncomputable abbrev pl5:Pl:=z_ (z_ (z_ (z_ (z_ (y_ (z_ (y_ (.l [30,31,32,33,36,37,38,39,40,9,41,42,43,44,45,46,47,48,49,50,51,52,53,54,55,56,57,58,59,60,61,62,63,64,65,66,67,68,69,70,71,72,73,74,75,76,6,77,78,79,80,81,82,83,5,34,35,8] (z_ (.s (some [36,37,38,39,40,9,41,42,43,44,45,46,47,48,49,50,51,52,53,54,55,56,57,58,59,60,61,62,63,64,65,66,67,68,69,70,71,72,73,74,75,76,6,77,78,79,80,81,82,83,5]) .d .d))) .d)) .d)))))
noncomputable def sh5:=fq Tryz.f5 pl5 cb N call [a0,a1]
noncomputable abbrev e8Z:Pl:=z_ (z_ (.s (some [4,5,6,7,8,9,10,11,12,13,3]) .d .d))
noncomputable def c5G:=fq Tryz.f41 e8Z cb N call [a0]
abbrev c6a:=(nx:c5G cb N call a0=_)
noncomputable def c6b:=fq Tryz.f58 .d cb N call [a0]
abbrev e8I:=(nx:c6b cb N call a0=_)
noncomputable def c5P:=fq Tryz.f69 .d cb N call [a0,a1]
abbrev e9y:=(nx:c5P cb N call a0 a1=_)
noncomputable abbrev e1l:Pl:=z_ (z_ (z_ (z_ (z_ (z_ (z_ (y_ (z_ (y_ (.s (some [67,68,66]) .d .d) .d)) (y_ (z_ (y_ (.l [85,86,87,11,88,89,90,91,92,93,94,95,96,97,98,99,100,101,3,102,84] .d) .d)) .d))))))))
noncomputable def d4O:=lp Tryz.f71 e1l 0 [83,82,1] cb N call [a0,a1,a2] xs
abbrev d0r:=(lx:d4O cb N call a0 a1 a2 xs=_)
noncomputable def c6z:=fq Tryz.f71 e1l cb N call [a0,a1]
abbrev e7P:=wi (d0r cb N call) λh=>(nx:c6z cb N call a0 a1=_)
noncomputable def b7D:=fq Tryz.f79 .d cb N call [a0]
abbrev d8S:=(nx:b7D cb N call a0=_)
noncomputable def d1I:=fq Tryz.f80 .d cb N call [a0,a1]
abbrev e9I:=(nx:d1I cb N call a0 a1=_)
noncomputable def c6S:=fq Tryz.f81 .d cb N call [a0,a1]
abbrev c7C:=(nx:c6S cb N call a0 a1=_)
noncomputable def c6K:=fq Tryz.f85 .d cb N call [a0]
abbrev e9U:=(nx:c6K cb N call a0=_)
noncomputable def c6s:=fq Tryz.f86 .d cb N call [a0]
abbrev e9z:=(nx:c6s cb N call a0=_)
noncomputable def c7A:=fq Tryz.f87 .d cb N call [a0]
abbrev e8t:=(nx:c7A cb N call a0=_)
noncomputable def c5Z:=fq Tryz.f88 .d cb N call [a0]
abbrev f0d:=(nx:c5Z cb N call a0=_)
noncomputable abbrev e8Q:Pl:=z_ (y_ (z_ (y_ (.s (some [5,6,7,8,9,4]) .d (z_ (z_ (z_ (z_ (z_ (z_ (z_ (.s (some [17,18,19,16]) .d .d))))))))) .d)) .d)
noncomputable def c6H:=fq Tryz.f92 e8Q cb N call [a0]
abbrev e7N:=(nx:c6H cb N call a0=_)
noncomputable def b9U:=fq Tryz.f104 .d cb N call [a0,a1]
abbrev e4v:=(nx:b9U cb N call a0 a1=_)
noncomputable def b9L:=fq Tryz.f117 .d cb N call [a0,a1]
abbrev d4F:=(nx:b9L cb N call a0 a1=_)
noncomputable def b9y:=fq Tryz.f124 .d cb N call [a0]
abbrev e6q:=(nx:b9y cb N call a0=_)
noncomputable def e6K:=fq Tryz.f127 .d cb N call []
noncomputable abbrev d3U:Pl:=z_ (z_ (y_ (y_ (.l [10,11,12,13,14,15,16,7,17,18,19,20,21,22,23,24,25,26,27,4,5,28,29,30,31,32,33,34,35,36,37,38,39,40,41,42,43,44,45,46,47,48,49,50,51,52,53,54,6] (z_ (y_ (z_ (z_ (z_ (.s (some [28,29,30,31,32,33,34,35,36,37,38,39,40,41,42,43,44,45,46,47,48,49,50,51,52,6]) .d .d)))) .d))) .d) .d))
noncomputable def b7V:=lp Tryz.f135 d3U 0 [0] cb N call [a0] xs
abbrev c0G:=(lx:b7V cb N call a0 xs=_)
noncomputable def c0d:=fq Tryz.f135 d3U cb N call [a0,a1]
abbrev e3p:=wi (c0G cb N call) λh=>(nx:c0d cb N call a0 a1=_)
noncomputable def b9H:=fq Tryz.f144 .d cb N call [a0,a1]
abbrev e4S:=(nx:b9H cb N call a0 a1=_)
noncomputable def e3K:=fq Tryz.f162 .d cb N call [a0]
noncomputable abbrev e4O:Pl:=z_ (z_ (y_ (z_ (y_ (.l [9,10,11,12,15,16,17,18,19,20,21,22,23,24,25,26,27,28,7,13,14,8] .d) .d)) .d))
noncomputable def e6J:=fq Tryz.f174 e4O cb N call [a0,a1,a2]
noncomputable def e6B:=fq Tryz.f176 .d cb N call []
noncomputable abbrev d4d:Pl:=z_ (y_ (z_ (y_ (.l [5,6,9,10,11,12,13,2,3,7,8,4] .d) .d)) .d)
noncomputable def d9C:=lp Tryz.f182 d4d 0 [0] cb N call [a0] xs
abbrev c4x:=(lx:d9C cb N call a0 xs=_)
noncomputable def b9q:=fq Tryz.f182 d4d cb N call [a0]
abbrev e5g:=wi (c4x cb N call) λh=>(nx:b9q cb N call a0=_)
noncomputable def c0f:=fq Tryz.f184 .d cb N call [a0]
abbrev e3a:=(nx:c0f cb N call a0=_)
noncomputable def b9k:=fq Tryz.f207 .d cb N call [a0,a1,a2]
abbrev e4J:=(nx:b9k cb N call a0 a1 a2=_)
end Go.Proofs.YtmomonnlmbljoaaGreatDoor
end
