import Derived.Test.YtmomonnlmbljoaaGreatDoorHal
set_option maxRecDepth 1000000
set_option maxHeartbeats 4000000
set_option linter.unusedVariables false
set_option linter.unusedSimpArgs false
section
namespace Go.Proofs.YtmomonnlmbljoaaGreatDoor
open Go.V Go.RowKit Go.Shelf Go.Proofs
variable {mL:Int}
variable (cb:Cb)(N:Nat)(call:A8)(a0 a1 a2 a3 a4 a5:Value)(xs:List Value)
noncomputable abbrev pl5:Pl:=z_ (z_ (z_ (z_ (z_ (y_ (z_ (y_ (.l [30,31,32,33,36,37,38,39,40,9,41,42,43,44,45,46,47,48,49,50,51,52,53,54,55,56,57,58,59,60,61,62,63,64,65,66,67,68,69,70,71,72,73,74,75,76,6,77,78,79,80,81,82,83,5,34,35,8] (z_ (.s (some [36,37,38,39,40,9,41,42,43,44,45,46,47,48,49,50,51,52,53,54,55,56,57,58,59,60,61,62,63,64,65,66,67,68,69,70,71,72,73,74,75,76,6,77,78,79,80,81,82,83,5]) .d .d))) .d)) .d)))))
noncomputable def d1H (cb:Cb)(N:Nat)(call:A8)(vs4 xs5:List Value):M R2:=lp Tryz.f5 pl5 0 [7] cb N call [(r6 vs4 6)] xs5
abbrev b7X:=λ(cb:Cb) (N:Nat) (call:A8) (vs4 xs5:List Value)=>(lx:d1H cb N call vs4 xs5=_)
noncomputable def sh5:=fq Tryz.f5 pl5 cb N call [a0,a1]
abbrev nf5:=wi (b7X cb N call) λh=>(nx:sh5 cb N call a0 a1=_)
noncomputable abbrev e3X:Pl:=z_ (z_ (.s (some [4,5,6,7,8,9,10,11,12,13,3]) .d .d))
noncomputable def c4Z:=fq Tryz.f41 e3X cb N call [a0]
abbrev c3O:=(nx:c4Z cb N call a0=_)
noncomputable def c4M:=fq Tryz.f58 .d cb N call [a0]
abbrev e4k:=(nx:c4M cb N call a0=_)
noncomputable def c2R:=fq Tryz.f69 .d cb N call [a0,a1]
abbrev e4X:=(nx:c2R cb N call a0 a1=_)
noncomputable abbrev d4F:Pl:=z_ (z_ (z_ (z_ (z_ (z_ (z_ (y_ (z_ (y_ (.s (some [67,68,66]) .d .d) .d)) (y_ (z_ (y_ (.l [85,86,87,11,88,89,90,91,92,93,94,95,96,97,98,99,100,101,3,102,84] .d) .d)) .d))))))))
noncomputable def d0J:=lp Tryz.f71 d4F 0 [83,82,1] cb N call [a0,a1,a2] xs
abbrev c6E:=(lx:d0J cb N call a0 a1 a2 xs=_)
noncomputable def c2T:=fq Tryz.f71 d4F cb N call [a0,a1]
abbrev e4u:=wi (c6E cb N call) λh=>(nx:c2T cb N call a0 a1=_)
noncomputable def b5i:=fq Tryz.f79 .d cb N call [a0]
abbrev d5b:=(nx:b5i cb N call a0=_)
noncomputable def c7U:=fq Tryz.f80 .d cb N call [a0,a1]
abbrev e4D:=(nx:c7U cb N call a0 a1=_)
noncomputable def c4w:=fq Tryz.f81 .d cb N call [a0,a1]
abbrev c3Y:=(nx:c4w cb N call a0 a1=_)
noncomputable def c2V:=fq Tryz.f85 .d cb N call [a0]
abbrev e5S:=(nx:c2V cb N call a0=_)
noncomputable def c3k:=fq Tryz.f86 .d cb N call [a0]
abbrev e4J:=(nx:c3k cb N call a0=_)
noncomputable def c2K:=fq Tryz.f87 .d cb N call [a0]
abbrev e4U:=(nx:c2K cb N call a0=_)
noncomputable def c2L:=fq Tryz.f88 .d cb N call [a0]
abbrev e6c:=(nx:c2L cb N call a0=_)
noncomputable abbrev e6b:Pl:=z_ (y_ (z_ (y_ (.s (some [5,6,7,8,9,4]) .d (z_ (z_ (z_ (z_ (z_ (z_ (z_ (.s (some [17,18,19,16]) .d .d))))))))) .d)) .d)
noncomputable def c2x:=fq Tryz.f92 e6b cb N call [a0]
abbrev e4c:=(nx:c2x cb N call a0=_)
noncomputable def b7a:=fq Tryz.f104 .d cb N call [a0,a1]
abbrev d9G:=(nx:b7a cb N call a0 a1=_)
noncomputable def b7z:=fq Tryz.f117 .d cb N call [a0,a1]
abbrev d0V:=(nx:b7z cb N call a0 a1=_)
noncomputable def b7k:=fq Tryz.f124 .d cb N call [a0]
abbrev e1p:=(nx:b7k cb N call a0=_)
noncomputable def e2F:=fq Tryz.f127 .d cb N call []
noncomputable abbrev d0U:Pl:=z_ (z_ (y_ (y_ (.l [10,11,12,13,14,15,16,7,17,18,19,20,21,22,23,24,25,26,27,4,5,28,29,30,31,32,33,34,35,36,37,38,39,40,41,42,43,44,45,46,47,48,49,50,51,52,53,54,6] (z_ (y_ (z_ (z_ (z_ (.s (some [28,29,30,31,32,33,34,35,36,37,38,39,40,41,42,43,44,45,46,47,48,49,50,51,52,6]) .d .d)))) .d))) .d) .d))
noncomputable def b4X:=lp Tryz.f135 d0U 0 [0] cb N call [a0] xs
abbrev b8U:=(lx:b4X cb N call a0 xs=_)
noncomputable def b7u:=fq Tryz.f135 d0U cb N call [a0,a1]
abbrev e1e:=wi (b8U cb N call) λh=>(nx:b7u cb N call a0 a1=_)
noncomputable def b7w:=fq Tryz.f144 .d cb N call [a0,a1]
abbrev e2l:=(nx:b7w cb N call a0 a1=_)
noncomputable def e3c:=fq Tryz.f162 .d cb N call [a0]
noncomputable abbrev e1J:Pl:=z_ (z_ (y_ (z_ (y_ (.l [9,10,11,12,15,16,17,18,19,20,21,22,23,24,25,26,27,28,7,13,14,8] .d) .d)) .d))
noncomputable def d9k:=fq Tryz.f174 e1J cb N call [a0,a1,a2]
noncomputable def e0Q:=fq Tryz.f176 .d cb N call []
noncomputable abbrev d1I:Pl:=z_ (y_ (z_ (y_ (.l [5,6,9,10,11,12,13,2,3,7,8,4] .d) .d)) .d)
noncomputable def d8v:=lp Tryz.f182 d1I 0 [0] cb N call [a0] xs
abbrev c2g:=(lx:d8v cb N call a0 xs=_)
noncomputable def b7d:=fq Tryz.f182 d1I cb N call [a0]
abbrev e2h:=wi (c2g cb N call) λh=>(nx:b7d cb N call a0=_)
noncomputable def b6M:=fq Tryz.f184 .d cb N call [a0]
abbrev e1T:=(nx:b6M cb N call a0=_)
noncomputable def b6I:=fq Tryz.f207 .d cb N call [a0,a1,a2]
abbrev d9V:=(nx:b6I cb N call a0 a1 a2=_)
end Go.Proofs.YtmomonnlmbljoaaGreatDoor
end
