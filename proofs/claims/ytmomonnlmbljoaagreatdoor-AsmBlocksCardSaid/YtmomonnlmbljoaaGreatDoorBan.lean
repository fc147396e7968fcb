import Derived.Test.YtmomonnlmbljoaaGreatDoorBal
set_option maxRecDepth 1000000
set_option maxHeartbeats 4000000
set_option linter.unusedVariables false
set_option linter.unusedSimpArgs false
section
namespace Go.Proofs.YtmomonnlmbljoaaGreatDoor
open Go.V Go.RowKit Go.Shelf Go.Proofs
variable {mL:Int}
variable (cb:Cb)(N:Nat)(call:J7)(a0 a1 a2 a3 a4 a5:Value)(xs:List Value)
noncomputable abbrev e0v:Pl:=z_ (z_ (y_ (z_ (y_ (.l [7,8,9,10,13,14,15,16,17,18,19,20,21,22,23,24,25,26,27,28,2,11,12,3] .d) .d)) .d))
noncomputable def d4h:=lp Tryz.f10 e0v 0 [0] cb N call [a0] xs
abbrev b3k:=(lx:d4h cb N call a0 xs=_)
noncomputable def c2O:=fq Tryz.f10 e0v cb N call [a0]
abbrev d8o:=wi (b3k cb N call) λh=>(nx:c2O cb N call a0=_)
noncomputable abbrev d9y:Pl:=z_ (z_ (z_ (z_ (z_ (y_ (z_ (y_ (.l [25,26,27,28,24] .d) .d)) .d)))))
noncomputable def d4Z:=lp Tryz.f29 d9y 0 [23,1] cb N call [a0,a1] xs
abbrev c9s:=(lx:d4Z cb N call a0 a1 xs=_)
noncomputable def c5B:=fq Tryz.f29 d9y cb N call [a0,a1]
abbrev e9D:=wi (c9s cb N call) λh=>(nx:c5B cb N call a0 a1=_)
noncomputable abbrev e2G:Pl:=z_ (z_ (z_ (z_ (z_ (z_ (y_ (z_ (y_ (.l [136,137,138,8,139,140,141,2,142,135] .d) .d)) .d))))))
noncomputable def d4x:=lp Tryz.f34 e2G 0 [134,133] cb N call [a0,a1] xs
abbrev b5R:=(lx:d4x cb N call a0 a1 xs=_)
noncomputable def c1p:=fq Tryz.f34 e2G cb N call [a0]
abbrev e2Y:=wi (b5R cb N call) λh=>(nx:c1p cb N call a0=_)
noncomputable abbrev e0A:Pl:=z_ (z_ (z_ (z_ (y_ (y_ (.l [14,15,16,17,18,19,20,7,21,22,23,24,25,26,27,29,30,31,28,32,33,34,8,9,10,35,36,37,38,2,3,4,39,40,41,42,5,43,6] .d) .d) .d))))
noncomputable def d4V:=lp Tryz.f64 e0A 0 [0] cb N call [a0] xs
abbrev c9F:=(lx:d4V cb N call a0 xs=_)
noncomputable def c7K:=fq Tryz.f64 e0A cb N call [a0]
abbrev e8O:=wi (c9F cb N call) λh=>(nx:c7K cb N call a0=_)
noncomputable def c5q:=fq Tryz.f74 .d cb N call [a0,a1,a2,a3]
abbrev e8V:=(nx:c5q cb N call a0 a1 a2 a3=_)
noncomputable abbrev e0P:Pl:=z_ (z_ (y_ (z_ (y_ (.l [15,16,17,18,19,20,21,22,7,24,25,26,23,27,28,29,30,31,32,33,34,35,37,38,39,36,40,41,42,43,45,46,47,48,49,50,51,52,44,53,54,55,8,56,57,58,59,60,61,62,63,64,65,66,67,68,69,70,71,72,73,74,75,76,77,78,79,80,81,82,9,83,84,85,86,87,88,89,90,91,92,93,94,95,96,97,98,99,100,101,102,103,104,105,106,107,109,110,111,112,108,113,114,115,116,10,11,12,13,117,118,4,119,120,121,122,123,124,125,126,127,128,129,130,131,132,133,134,135,136,137,138,139,140,141,142,143,144,145,146,147,148,149,5,150,151,152,153,6] (z_ (y_ (z_ (y_ (y_ (z_ (z_ (z_ (z_ (z_ (y_ (z_ (z_ (z_ (z_ (.s (some [87,88,89,90,91,92,93,5,94,95]) .d .d))))) .d)))))) .d) .d)) .d))) .d)) .d))
noncomputable def a5C:=lp Tryz.f76 e0P 0 [1,0] cb N call [a0,a1] xs
abbrev c4B:=(lx:a5C cb N call a0 a1 xs=_)
noncomputable def c5j:=fq Tryz.f76 e0P cb N call [a0,a1]
abbrev f0i:=wi (c4B cb N call) λh=>(nx:c5j cb N call a0 a1=_)
noncomputable def b9T:=fq Tryz.f181 .d cb N call [a0,a1,a2]
abbrev e3M:=(nx:b9T cb N call a0 a1 a2=_)
noncomputable abbrev e7g:Pl:=z_ (z_ (z_ (.s (some [17,18,19,20,21,22,23,24,25,26,27,28,29,30,31,32,33,6,0]) .d (z_ (z_ (z_ (y_ (y_ (.s (some [46,47,48,49,50,51,52,53,54,55,56,57,58,59,60,61,45]) .d .d) .d) .d)))))))
noncomputable def b4c:=fq Tryz.f186 e7g cb N call [a0,a1]
abbrev a0F:=(nx:b4c cb N call a0 a1=_)
end Go.Proofs.YtmomonnlmbljoaaGreatDoor
end
