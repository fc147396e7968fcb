import Derived.Test.YtmomonnlmbljoaaGreatDoorGai
set_option maxRecDepth 1000000
set_option maxHeartbeats 4000000
set_option linter.unusedVariables false
set_option linter.unusedSimpArgs false
namespace Go.Proofs.YtmomonnlmbljoaaGreatDoor
open Go.V Go.RowKit Go.Shelf Go.Proofs
variable {mL:Int}
section
variable (cb:Cb)(N:Nat)(call:I5)(a0 a1 a2 a3 a4 a5:Value)(xs:List Value)
noncomputable abbrev d8w:Pl:=z_ (z_ (z_ (z_ (z_ (y_ (z_ (y_ (.l [25,26,27,28,24] .d) .d)) .d)))))
noncomputable def d5v:=lp Tryz.f29 d8w 0 [23,1] cb N call [a0,a1] xs
abbrev c9S:=(lx:d5v cb N call a0 a1 xs=_)
noncomputable def c5T:=fq Tryz.f29 d8w cb N call [a0,a1]
abbrev e7F:=wi (c9S cb N call) λh=>(nx:c5T cb N call a0 a1=_)
noncomputable abbrev d9F:Pl:=z_ (z_ (z_ (z_ (y_ (y_ (.l [14,15,16,17,18,19,20,7,21,22,23,24,25,26,27,29,30,31,28,32,33,34,8,9,10,35,36,37,38,2,3,4,39,40,41,42,5,43,6] .d) .d) .d))))
noncomputable def d5F:=lp Tryz.f64 d9F 0 [0] cb N call [a0] xs
abbrev c8x:=(lx:d5F cb N call a0 xs=_)
noncomputable def c7b:=fq Tryz.f64 d9F cb N call [a0]
abbrev e8I:=wi (c8x cb N call) λh=>(nx:c7b cb N call a0=_)
noncomputable def c7i:=fq Tryz.f74 .d cb N call [a0,a1,a2,a3]
abbrev e7Z:=(nx:c7i cb N call a0 a1 a2 a3=_)
noncomputable abbrev e0N:Pl:=z_ (z_ (y_ (z_ (y_ (.l [15,16,17,18,19,20,21,22,7,24,25,26,23,27,28,29,30,31,32,33,34,35,37,38,39,36,40,41,42,43,45,46,47,48,49,50,51,52,44,53,54,55,8,56,57,58,59,60,61,62,63,64,65,66,67,68,69,70,71,72,73,74,75,76,77,78,79,80,81,82,9,83,84,85,86,87,88,89,90,91,92,93,94,95,96,97,98,99,100,101,102,103,104,105,106,107,109,110,111,112,108,113,114,115,116,10,11,12,13,117,118,4,119,120,121,122,123,124,125,126,127,128,129,130,131,132,133,134,135,136,137,138,139,140,141,142,143,144,145,146,147,148,149,5,150,151,152,153,6] (z_ (y_ (z_ (y_ (y_ (z_ (z_ (z_ (z_ (z_ (y_ (z_ (z_ (z_ (z_ (.s (some [87,88,89,90,91,92,93,5,94,95]) .d .d))))) .d)))))) .d) .d)) .d))) .d)) .d))
noncomputable def a5x:=lp Tryz.f76 e0N 0 [1,0] cb N call [a0,a1] xs
abbrev c5F:=(lx:a5x cb N call a0 a1 xs=_)
noncomputable def c6z:=fq Tryz.f76 e0N cb N call [a0,a1]
abbrev e9W:=wi (c5F cb N call) λh=>(nx:c6z cb N call a0 a1=_)
noncomputable def b9v:=fq Tryz.f181 .d cb N call [a0,a1,a2]
abbrev e6D:=(nx:b9v cb N call a0 a1 a2=_)
noncomputable abbrev e4m:Pl:=z_ (z_ (z_ (.s (some [17,18,19,20,21,22,23,24,25,26,27,28,29,30,31,32,33,6,0]) .d (z_ (z_ (z_ (y_ (y_ (.s (some [46,47,48,49,50,51,52,53,54,55,56,57,58,59,60,61,45]) .d .d) .d) .d)))))))
noncomputable def b4z:=fq Tryz.f186 e4m cb N call [a0,a1]
abbrev a1c:=(nx:b4z cb N call a0 a1=_)
end
end Go.Proofs.YtmomonnlmbljoaaGreatDoor
