import Derived.Test.YtmomonnlmbljoaaGreatDoorBal
set_option maxRecDepth 1000000
set_option maxHeartbeats 4000000
set_option linter.unusedVariables false
set_option linter.unusedSimpArgs false
section
namespace Go.Proofs.YtmomonnlmbljoaaGreatDoor
open Go.V Go.RowKit Go.Shelf Go.Proofs
variable {mL:Int}
variable (cb:Cb)(N:Nat)(call:J7)(a0 a1 a2 a3 a4 a5:Value)(xs:List Value)
noncomputable abbrev e8h:Pl:=z_ (z_ (z_ (y_ (z_ (y_ (z_ (z_ (z_ (z_ (z_ (z_ (z_ (z_ (.s (some [126,127,128,129,130,131,132,125]) .d (z_ (.s (some [147,148,149,150,151,146]) .d .d))))))))))) .d)) .d)))
noncomputable def c0J:=fq Tryz.f19 e8h cb N call [a0]
abbrev e2g:=(nx:c0J cb N call a0=_)
noncomputable def c6Z:=fq Tryz.f72 .d cb N call [a0,a1,a2]
abbrev e9w:=(nx:c6Z cb N call a0 a1 a2=_)
noncomputable def c6j:=fq Tryz.f73 .d cb N call [a0,a1,a2]
abbrev e9r:=(nx:c6j cb N call a0 a1 a2=_)
noncomputable abbrev d9p:Pl:=z_ (y_ (y_ (.l [11,12,13,14,15,16,17,18,19,20,21,22,23,24,25,26,27,28,29,30,31,32,33,34,35,36,37,38,39,40,10,41,42,4] .d) .d) (z_ (z_ (z_ (z_ (.s (some [71,72,4,73,74,75,76,77,78,79,80,81,82,83,84,85,86,87,88,89,90,91,92,93,94,95,96,97,98,99,100,101,102,103,104,105,106,107,108,109,110,111,112,113,10]) .d .d))))))
noncomputable def d3T:=lp Tryz.f75 d9p 0 [0] cb N call [a0] xs
abbrev c8b:=(lx:d3T cb N call a0 xs=_)
noncomputable def c1E:=fq Tryz.f75 d9p cb N call [a0,a1,a2,a3,a4]
abbrev d2L:=wi (c8b cb N call) λh=>(nx:c1E cb N call a0 a1 a2 a3 a4=_)
noncomputable abbrev d5a:Pl:=z_ (z_ (y_ (z_ (y_ (.l [15,16,3,17,18,19,20,21,2,22,14] .d) .d)) .d))
noncomputable def c9Y:=lp Tryz.f107 d5a 0 [13,0] cb N call [a0,a1] xs
abbrev b3W:=(lx:c9Y cb N call a0 a1 xs=_)
noncomputable def b9l:=fq Tryz.f107 d5a cb N call [a0]
abbrev b9X:=wi (b3W cb N call) λh=>(nx:b9l cb N call a0=_)
noncomputable abbrev d4A:Pl:=z_ (z_ (.s (some [15,16,17,18,19,20,21,22,23,24,5,0]) .d (z_ (y_ (z_ (y_ (.l [28,29,9,30,31,32,33,34,35,36,37,38,39,40,10,41,42,43,44,45,46,47,48,2,3,4,50,51,52,49,53,54,11,12,56,57,58,59,55,60,61,13,14,62,63,64,65,66,67,68,7,69,6,8,70,27] .d) .d)) .d))))
noncomputable def c5c (cb:Cb)(N:Nat)(call:J7)(v10:Value)(vs1 xs11:List Value):M R2:=lp Tryz.f118 d4A 0 [26,0,5] cb N call [v10,(C9 vs1 11),(C9 vs1 10)] xs11
abbrev a8I:=λ(cb:Cb) (N:Nat) (call:J7) (v10:Value) (vs1 xs11:List Value)=>(lx:c5c cb N call v10 vs1 xs11=_)
noncomputable def b9j:=fq Tryz.f118 d4A cb N call [a0]
abbrev c5N:=wi (a8I cb N call) λh=>(nx:b9j cb N call a0=_)
noncomputable abbrev e6W:Pl:=z_ (z_ (.s (some [4,5,6,7,8,9,11,10,13,12,15,14,17,16,19,18,3]) .d .d))
noncomputable def b9Z:=fq Tryz.f141 e6W cb N call [a0]
abbrev e6N:=(nx:b9Z cb N call a0=_)
noncomputable def b9V:=fq Tryz.f143 .d cb N call [a0,a1,a2]
abbrev e4V:=(nx:b9V cb N call a0 a1 a2=_)
noncomputable def b9h:=fq Tryz.f145 .d cb N call [a0,a1]
abbrev e6h:=(nx:b9h cb N call a0 a1=_)
noncomputable def c0g:=fq Tryz.f148 .d cb N call [a0,a1]
abbrev e4d:=(nx:c0g cb N call a0 a1=_)
noncomputable def e6I:=fq Tryz.f172 .d cb N call []
noncomputable abbrev e4o:Pl:=z_ (z_ (z_ (.s (some [10,11,13,14,15,16,17,18,19,20,21,22,12,23,24,26,27,28,29,30,31,32,33,34,35,36,25,37,38,8,9]) .d .d)))
noncomputable def b9N:=fq Tryz.f185 e4o cb N call [a0,a1,a2]
abbrev e6P:=(nx:b9N cb N call a0 a1 a2=_)
end Go.Proofs.YtmomonnlmbljoaaGreatDoor
end
