import Derived.Test.YtmomonnlmbljoaaGreatDoorKah
set_option maxRecDepth 1000000
set_option maxHeartbeats 4000000
set_option linter.unusedVariables false
set_option linter.unusedSimpArgs false
namespace Go.Proofs.YtmomonnlmbljoaaGreatDoor
open Go.V Go.RowKit Go.Shelf Go.Proofs
variable {mL:Int}
section
variable (cb:Cb)(N:Nat)(call:J4)(a0 a1 a2 a3 a4 a5:Value)(xs:List Value)
noncomputable abbrev f0j:Pl:=z_ (z_ (z_ (y_ (z_ (y_ (z_ (z_ (z_ (z_ (z_ (z_ (z_ (z_ (.s (some [126,127,128,129,130,131,132,125]) .d (z_ (.s (some [147,148,149,150,151,146]) .d .d))))))))))) .d)) .d)))
noncomputable def c2N:=fq Tryz.f19 f0j cb N call [a0]
abbrev e2w:=(nx:c2N cb N call a0=_)
noncomputable def c7p:=fq Tryz.f72 .d cb N call [a0,a1,a2]
abbrev e9N:=(nx:c7p cb N call a0 a1 a2=_)
noncomputable def c7c:=fq Tryz.f73 .d cb N call [a0,a1,a2]
abbrev e9G:=(nx:c7c cb N call a0 a1 a2=_)
noncomputable abbrev e0v:Pl:=z_ (y_ (y_ (.l [11,12,13,14,15,16,17,18,19,20,21,22,23,24,25,26,27,28,29,30,31,32,33,34,35,36,37,38,39,40,10,41,42,4] .d) .d) (z_ (z_ (z_ (z_ (.s (some [71,72,4,73,74,75,76,77,78,79,80,81,82,83,84,85,86,87,88,89,90,91,92,93,94,95,96,97,98,99,100,101,102,103,104,105,106,107,108,109,110,111,112,113,10]) .d .d))))))
noncomputable def d4V:=lp Tryz.f75 e0v 0 [0] cb N call [a0] xs
abbrev d0I:=(lx:d4V cb N call a0 xs=_)
noncomputable def c3e:=fq Tryz.f75 e0v cb N call [a0,a1,a2,a3,a4]
abbrev d3i:=wi (d0I cb N call) λh=>(nx:c3e cb N call a0 a1 a2 a3 a4=_)
noncomputable abbrev d4N:Pl:=z_ (z_ (y_ (z_ (y_ (.l [15,16,3,17,18,19,20,21,2,22,14] .d) .d)) .d))
noncomputable def c9M:=lp Tryz.f107 d4N 0 [13,0] cb N call [a0,a1] xs
abbrev b4E:=(lx:c9M cb N call a0 a1 xs=_)
noncomputable def c0x:=fq Tryz.f107 d4N cb N call [a0]
abbrev d5F:=wi (b4E cb N call) λh=>(nx:c0x cb N call a0=_)
noncomputable abbrev d4T:Pl:=z_ (z_ (.s (some [15,16,17,18,19,20,21,22,23,24,5,0]) .d (z_ (y_ (z_ (y_ (.l [28,29,9,30,31,32,33,34,35,36,37,38,39,40,10,41,42,43,44,45,46,47,48,2,3,4,50,51,52,49,53,54,11,12,56,57,58,59,55,60,61,13,14,62,63,64,65,66,67,68,7,69,6,8,70,27] .d) .d)) .d))))
noncomputable def c5m (cb:Cb)(N:Nat)(call:J4)(v10:Value)(vs1 xs11:List Value):M R2:=lp Tryz.f118 d4T 0 [26,0,5] cb N call [v10,(D5 vs1 11),(D5 vs1 10)] xs11
abbrev a8S:=λ(cb:Cb) (N:Nat) (call:J4) (v10:Value) (vs1 xs11:List Value)=>(lx:c5m cb N call v10 vs1 xs11=_)
noncomputable def c0F:=fq Tryz.f118 d4T cb N call [a0]
abbrev c7F:=wi (a8S cb N call) λh=>(nx:c0F cb N call a0=_)
noncomputable abbrev e4q:Pl:=z_ (z_ (.s (some [4,5,6,7,8,9,11,10,13,12,15,14,17,16,19,18,3]) .d .d))
noncomputable def b9Q:=fq Tryz.f141 e4q cb N call [a0]
abbrev e3J:=(nx:b9Q cb N call a0=_)
noncomputable def c0s:=fq Tryz.f143 .d cb N call [a0,a1,a2]
abbrev e7i:=(nx:c0s cb N call a0 a1 a2=_)
noncomputable def c0B:=fq Tryz.f145 .d cb N call [a0,a1]
abbrev e4U:=(nx:c0B cb N call a0 a1=_)
noncomputable def b9U:=fq Tryz.f148 .d cb N call [a0,a1]
abbrev e6B:=(nx:b9U cb N call a0 a1=_)
noncomputable def e4m:=fq Tryz.f172 .d cb N call []
noncomputable abbrev e6s:Pl:=z_ (z_ (z_ (.s (some [10,11,13,14,15,16,17,18,19,20,21,22,12,23,24,26,27,28,29,30,31,32,33,34,35,36,25,37,38,8,9]) .d .d)))
noncomputable def b9S:=fq Tryz.f185 e6s cb N call [a0,a1,a2]
abbrev e7N:=(nx:b9S cb N call a0 a1 a2=_)
end
end Go.Proofs.YtmomonnlmbljoaaGreatDoor
