import Derived.Test.YtmomonnlmbljoaaGreatDoorGai
set_option maxRecDepth 1000000
set_option maxHeartbeats 4000000
set_option linter.unusedVariables false
set_option linter.unusedSimpArgs false
namespace Go.Proofs.YtmomonnlmbljoaaGreatDoor
open Go.V Go.RowKit Go.Shelf Go.Proofs
variable {mL:Int}
section
variable (cb:Cb)(N:Nat)(call:I5)(a0 a1 a2 a3 a4 a5:Value)(xs:List Value)
noncomputable def c7N:=fq Tryz.f72 .d cb N call [a0,a1,a2]
abbrev e8K:=(nx:c7N cb N call a0 a1 a2=_)
noncomputable def c6E:=fq Tryz.f73 .d cb N call [a0,a1,a2]
abbrev f0f:=(nx:c6E cb N call a0 a1 a2=_)
noncomputable abbrev e0P:Pl:=z_ (y_ (y_ (.l [11,12,13,14,15,16,17,18,19,20,21,22,23,24,25,26,27,28,29,30,31,32,33,34,35,36,37,38,39,40,10,41,42,4] .d) .d) (z_ (z_ (z_ (z_ (.s (some [71,72,4,73,74,75,76,77,78,79,80,81,82,83,84,85,86,87,88,89,90,91,92,93,94,95,96,97,98,99,100,101,102,103,104,105,106,107,108,109,110,111,112,113,10]) .d .d))))))
noncomputable def d4G:=lp Tryz.f75 e0P 0 [0] cb N call [a0] xs
abbrev c9x:=(lx:d4G cb N call a0 xs=_)
noncomputable def c1o:=fq Tryz.f75 e0P cb N call [a0,a1,a2,a3,a4]
abbrev d1N:=wi (c9x cb N call) λh=>(nx:c1o cb N call a0 a1 a2 a3 a4=_)
noncomputable abbrev d4t:Pl:=z_ (z_ (y_ (z_ (y_ (.l [15,16,3,17,18,19,20,21,2,22,14] .d) .d)) .d))
noncomputable def c8Q:=lp Tryz.f107 d4t 0 [13,0] cb N call [a0,a1] xs
abbrev b4q:=(lx:c8Q cb N call a0 a1 xs=_)
noncomputable def c0i:=fq Tryz.f107 d4t cb N call [a0]
abbrev d4r:=wi (b4q cb N call) λh=>(nx:c0i cb N call a0=_)
noncomputable abbrev d4m:Pl:=z_ (z_ (.s (some [15,16,17,18,19,20,21,22,23,24,5,0]) .d (z_ (y_ (z_ (y_ (.l [28,29,9,30,31,32,33,34,35,36,37,38,39,40,10,41,42,43,44,45,46,47,48,2,3,4,50,51,52,49,53,54,11,12,56,57,58,59,55,60,61,13,14,62,63,64,65,66,67,68,7,69,6,8,70,27] .d) .d)) .d))))
noncomputable def c5g (cb:Cb)(N:Nat)(call:I5)(v10:Value)(vs1 xs11:List Value):M R2:=lp Tryz.f118 d4m 0 [26,0,5] cb N call [v10,(C8 vs1 11),(C8 vs1 10)] xs11
abbrev a8e:=λ(cb:Cb) (N:Nat) (call:I5) (v10:Value) (vs1 xs11:List Value)=>(lx:c5g cb N call v10 vs1 xs11=_)
noncomputable def c0V:=fq Tryz.f118 d4m cb N call [a0]
abbrev c7Q:=wi (a8e cb N call) λh=>(nx:c0V cb N call a0=_)
noncomputable abbrev e4g:Pl:=z_ (z_ (.s (some [4,5,6,7,8,9,11,10,13,12,15,14,17,16,19,18,3]) .d .d))
noncomputable def b9A:=fq Tryz.f141 e4g cb N call [a0]
abbrev e4N:=(nx:b9A cb N call a0=_)
noncomputable def c0U:=fq Tryz.f143 .d cb N call [a0,a1,a2]
abbrev e4o:=(nx:c0U cb N call a0 a1 a2=_)
noncomputable def b9z:=fq Tryz.f145 .d cb N call [a0,a1]
abbrev e3C:=(nx:b9z cb N call a0 a1=_)
noncomputable def c0R:=fq Tryz.f148 .d cb N call [a0,a1]
abbrev e4e:=(nx:c0R cb N call a0 a1=_)
noncomputable def e3T:=fq Tryz.f172 .d cb N call []
noncomputable abbrev e5m:Pl:=z_ (z_ (z_ (.s (some [10,11,13,14,15,16,17,18,19,20,21,22,12,23,24,26,27,28,29,30,31,32,33,34,35,36,25,37,38,8,9]) .d .d)))
noncomputable def b9G:=fq Tryz.f185 e5m cb N call [a0,a1,a2]
abbrev e3v:=(nx:b9G cb N call a0 a1 a2=_)
end
end Go.Proofs.YtmomonnlmbljoaaGreatDoor
