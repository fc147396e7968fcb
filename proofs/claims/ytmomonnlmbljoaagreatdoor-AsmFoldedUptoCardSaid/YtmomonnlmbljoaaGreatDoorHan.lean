import Derived.Test.YtmomonnlmbljoaaGreatDoorHal
set_option maxRecDepth 1000000
set_option maxHeartbeats 4000000
set_option linter.unusedVariables false
set_option linter.unusedSimpArgs false
section
namespace Go.Proofs.YtmomonnlmbljoaaGreatDoor
open Go.V Go.RowKit Go.Shelf Go.Proofs
variable {mL:Int}
variable (cb:Cb)(N:Nat)(call:A8)(a0 a1 a2 a3 a4 a5:Value)(xs:List Value)
noncomputable abbrev d5N:Pl:=z_ (z_ (y_ (z_ (y_ (.l [7,8,9,10,13,14,15,16,17,18,19,20,21,22,23,24,25,26,27,28,2,11,12,3] .d) .d)) .d))
noncomputable def d1F:=lp Tryz.f10 d5N 0 [0] cb N call [a0] xs
abbrev b0P:=(lx:d1F cb N call a0 xs=_)
noncomputable def b7N:=fq Tryz.f10 d5N cb N call [a0]
abbrev d8P:=wi (b0P cb N call) λh=>(nx:b7N cb N call a0=_)
noncomputable abbrev d7F:Pl:=z_ (z_ (z_ (z_ (z_ (y_ (z_ (y_ (.l [25,26,27,28,24] .d) .d)) .d)))))
noncomputable def d1d:=lp Tryz.f29 d7F 0 [23,1] cb N call [a0,a1] xs
abbrev c6j:=(lx:d1d cb N call a0 a1 xs=_)
noncomputable def c3K:=fq Tryz.f29 d7F cb N call [a0,a1]
abbrev e4Y:=wi (c6j cb N call) λh=>(nx:c3K cb N call a0 a1=_)
noncomputable abbrev d6B:Pl:=z_ (z_ (z_ (z_ (z_ (z_ (y_ (z_ (y_ (.l [136,137,138,8,139,140,141,2,142,135] .d) .d)) .d))))))
noncomputable def d1P:=lp Tryz.f34 d6B 0 [134,133] cb N call [a0,a1] xs
abbrev b3V:=(lx:d1P cb N call a0 a1 xs=_)
noncomputable def b9a:=fq Tryz.f34 d6B cb N call [a0]
abbrev d5v:=wi (b3V cb N call) λh=>(nx:b9a cb N call a0=_)
noncomputable abbrev d4G:Pl:=z_ (z_ (z_ (z_ (y_ (y_ (.l [14,15,16,17,18,19,20,7,21,22,23,24,25,26,27,29,30,31,28,32,33,34,8,9,10,35,36,37,38,2,3,4,39,40,41,42,5,43,6] .d) .d) .d))))
noncomputable def d1p:=lp Tryz.f64 d4G 0 [0] cb N call [a0] xs
abbrev c7a:=(lx:d1p cb N call a0 xs=_)
noncomputable def c3r:=fq Tryz.f64 d4G cb N call [a0]
abbrev e4K:=wi (c7a cb N call) λh=>(nx:c3r cb N call a0=_)
noncomputable def c4h:=fq Tryz.f74 .d cb N call [a0,a1,a2,a3]
abbrev e4v:=(nx:c4h cb N call a0 a1 a2 a3=_)
noncomputable abbrev d4y:Pl:=z_ (z_ (y_ (z_ (y_ (.l [15,16,17,18,19,20,21,22,7,24,25,26,23,27,28,29,30,31,32,33,34,35,37,38,39,36,40,41,42,43,45,46,47,48,49,50,51,52,44,53,54,55,8,56,57,58,59,60,61,62,63,64,65,66,67,68,69,70,71,72,73,74,75,76,77,78,79,80,81,82,9,83,84,85,86,87,88,89,90,91,92,93,94,95,96,97,98,99,100,101,102,103,104,105,106,107,109,110,111,112,108,113,114,115,116,10,11,12,13,117,118,4,119,120,121,122,123,124,125,126,127,128,129,130,131,132,133,134,135,136,137,138,139,140,141,142,143,144,145,146,147,148,149,5,150,151,152,153,6] (z_ (y_ (z_ (y_ (y_ (z_ (z_ (z_ (z_ (z_ (y_ (z_ (z_ (z_ (z_ (.s (some [87,88,89,90,91,92,93,5,94,95]) .d .d))))) .d)))))) .d) .d)) .d))) .d)) .d))
noncomputable def a3s:=lp Tryz.f76 d4y 0 [1,0] cb N call [a0,a1] xs
abbrev c1T:=(lx:a3s cb N call a0 a1 xs=_)
noncomputable def c4b:=fq Tryz.f76 d4y cb N call [a0,a1]
abbrev e5c:=wi (c1T cb N call) λh=>(nx:c4b cb N call a0 a1=_)
noncomputable def b6V:=fq Tryz.f181 .d cb N call [a0,a1,a2]
abbrev e2a:=(nx:b6V cb N call a0 a1 a2=_)
noncomputable abbrev e2k:Pl:=z_ (z_ (z_ (.s (some [17,18,19,20,21,22,23,24,25,26,27,28,29,30,31,32,33,6,0]) .d (z_ (z_ (z_ (y_ (y_ (.s (some [46,47,48,49,50,51,52,53,54,55,56,57,58,59,60,61,45]) .d .d) .d) .d)))))))
noncomputable def b1G:=fq Tryz.f186 e2k cb N call [a0,a1]
abbrev R4:=(nx:b1G cb N call a0 a1=_)
end Go.Proofs.YtmomonnlmbljoaaGreatDoor
end
