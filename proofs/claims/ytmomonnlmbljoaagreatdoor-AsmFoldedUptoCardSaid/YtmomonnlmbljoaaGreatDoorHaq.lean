import Derived.Test.YtmomonnlmbljoaaGreatDoorHal
set_option maxRecDepth 1000000
set_option maxHeartbeats 4000000
set_option linter.unusedVariables false
set_option linter.unusedSimpArgs false
section
namespace Go.Proofs.YtmomonnlmbljoaaGreatDoor
open Go.V Go.RowKit Go.Shelf Go.Proofs
variable {mL:Int}
variable (cb:Cb)(N:Nat)(call:A8)(a0 a1 a2 a3 a4 a5:Value)(xs:List Value)
noncomputable abbrev e4i:Pl:=z_ (z_ (z_ (y_ (z_ (y_ (z_ (z_ (z_ (z_ (z_ (z_ (z_ (z_ (.s (some [126,127,128,129,130,131,132,125]) .d (z_ (.s (some [147,148,149,150,151,146]) .d .d))))))))))) .d)) .d)))
noncomputable def b8h:=fq Tryz.f19 e4i cb N call [a0]
abbrev d8U:=(nx:b8h cb N call a0=_)
noncomputable def c4n:=fq Tryz.f72 .d cb N call [a0,a1,a2]
abbrev e4q:=(nx:c4n cb N call a0 a1 a2=_)
noncomputable def c3j:=fq Tryz.f73 .d cb N call [a0,a1,a2]
abbrev e4P:=(nx:c3j cb N call a0 a1 a2=_)
noncomputable abbrev d8p:Pl:=z_ (y_ (y_ (.l [11,12,13,14,15,16,17,18,19,20,21,22,23,24,25,26,27,28,29,30,31,32,33,34,35,36,37,38,39,40,10,41,42,4] .d) .d) (z_ (z_ (z_ (z_ (.s (some [71,72,4,73,74,75,76,77,78,79,80,81,82,83,84,85,86,87,88,89,90,91,92,93,94,95,96,97,98,99,100,101,102,103,104,105,106,107,108,109,110,111,112,113,10]) .d .d))))))
noncomputable def d1B:=lp Tryz.f75 d8p 0 [0] cb N call [a0] xs
abbrev c7J:=(lx:d1B cb N call a0 xs=_)
noncomputable def b8b:=fq Tryz.f75 d8p cb N call [a0,a1,a2,a3,a4]
abbrev c9y:=wi (c7J cb N call) λh=>(nx:b8b cb N call a0 a1 a2 a3 a4=_)
noncomputable abbrev d1E:Pl:=z_ (z_ (y_ (z_ (y_ (.l [15,16,3,17,18,19,20,21,2,22,14] .d) .d)) .d))
noncomputable def c7M:=lp Tryz.f107 d1E 0 [13,0] cb N call [a0,a1] xs
abbrev b1y:=(lx:c7M cb N call a0 a1 xs=_)
noncomputable def b7E:=fq Tryz.f107 d1E cb N call [a0]
abbrev b7F:=wi (b1y cb N call) λh=>(nx:b7E cb N call a0=_)
noncomputable abbrev d1c:Pl:=z_ (z_ (.s (some [15,16,17,18,19,20,21,22,23,24,5,0]) .d (z_ (y_ (z_ (y_ (.l [28,29,9,30,31,32,33,34,35,36,37,38,39,40,10,41,42,43,44,45,46,47,48,2,3,4,50,51,52,49,53,54,11,12,56,57,58,59,55,60,61,13,14,62,63,64,65,66,67,68,7,69,6,8,70,27] .d) .d)) .d))))
noncomputable def c1V (cb:Cb)(N:Nat)(call:A8)(v10:Value)(vs1 xs11:List Value):M R2:=lp Tryz.f118 d1c 0 [26,0,5] cb N call [v10,(r6 vs1 11),(r6 vs1 10)] xs11
abbrev a6u:=λ(cb:Cb) (N:Nat) (call:A8) (v10:Value) (vs1 xs11:List Value)=>(lx:c1V cb N call v10 vs1 xs11=_)
noncomputable def b7G:=fq Tryz.f118 d1c cb N call [a0]
abbrev c3e:=wi (a6u cb N call) λh=>(nx:b7G cb N call a0=_)
noncomputable abbrev e2g:Pl:=z_ (z_ (.s (some [4,5,6,7,8,9,11,10,13,12,15,14,17,16,19,18,3]) .d .d))
noncomputable def b7v:=fq Tryz.f141 e2g cb N call [a0]
abbrev e2w:=(nx:b7v cb N call a0=_)
noncomputable def b7o:=fq Tryz.f143 .d cb N call [a0,a1,a2]
abbrev e1M:=(nx:b7o cb N call a0 a1 a2=_)
noncomputable def b7n:=fq Tryz.f145 .d cb N call [a0,a1]
abbrev e2U:=(nx:b7n cb N call a0 a1=_)
noncomputable def b6Y:=fq Tryz.f148 .d cb N call [a0,a1]
abbrev e2t:=(nx:b6Y cb N call a0 a1=_)
noncomputable def e1U:=fq Tryz.f172 .d cb N call []
noncomputable abbrev e3e:Pl:=z_ (z_ (z_ (.s (some [10,11,13,14,15,16,17,18,19,20,21,22,12,23,24,26,27,28,29,30,31,32,33,34,35,36,25,37,38,8,9]) .d .d)))
noncomputable def b7j:=fq Tryz.f185 e3e cb N call [a0,a1,a2]
abbrev e1R:=(nx:b7j cb N call a0 a1 a2=_)
end Go.Proofs.YtmomonnlmbljoaaGreatDoor
end
