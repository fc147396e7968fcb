import Derived.Test.YtmomonnlmbljoaaGreatDoorGai
set_option maxRecDepth 1000000
set_option maxHeartbeats 4000000
set_option linter.unusedVariables false
set_option linter.unusedSimpArgs false
namespace Go.Proofs.YtmomonnlmbljoaaGreatDoor
open Go.V Go.RowKit Go.Shelf Go.Proofs
variable {mL:Int}
section
variable (cb:Cb)(N:Nat)(call:I5)(a0 a1 a2 a3 a4 a5:Value)(xs:List Value)
noncomputable def b9Z:=fq Tryz.f161 .d cb N call [a0,a1,a2,a3]
abbrev e2R:=(nx:b9Z cb N call a0 a1 a2 a3=_)
noncomputable abbrev e6K:Pl:=z_ (z_ (z_ (z_ (.s (some [36,37,38,39,40,41,42,43,8]) .d .d))))
noncomputable def c0t:=fq Tryz.f116 e6K cb N call [a0,a1,a2]
abbrev e3s:=(nx:c0t cb N call a0 a1 a2=_)
noncomputable def c6N:=fq Tryz.f31 .d cb N call [a0,a1]
abbrev e8G:=(nx:c6N cb N call a0 a1=_)
noncomputable abbrev d9T:Pl:=z_ (z_ (z_ (z_ (y_ (y_ (.l [13,14,15,16,17,18,19,20,8,21,22,23,9,63,64,65,62,66,67,68,10,69,70,71,72,73,74,75,76,77,78,80,81,82,79,83,84,85,87,88,89,86,90,91,92,93,94,95,96,97,98,99,100,101,102,103,104,105,107,108,109,106,110,111,112,113,114,115,116,117,118,119,120,121,122,123,124,125,126,127,128,11,129,130,131,132,133,134,135,136,137,138,139,140,141,142,143,24,25,26,27,12,28,29,30,31,32,33,34,35,36,37,38,39,40,41,42,43,44,45,46,47,48,49,50,6,51,52,53,54,55,56,57,58,59,5,60,61,7] (z_ (y_ (z_ (z_ (y_ (z_ (z_ (z_ (z_ (z_ (z_ (z_ (z_ (z_ (z_ (.s (some [36,37,38,39,40,41,42,43,44,45,46,47,48,49,50,6,51,52,53,54]) .d .d))))))))))) .d))) .d))) .d) .d))))
noncomputable def a5u:=lp Tryz.f78 d9T 0 [0,4,3] cb N call [a0,a2,a1] xs
abbrev c4J:=(lx:a5u cb N call a0 a1 a2 xs=_)
noncomputable def c8a:=fq Tryz.f78 d9T cb N call [a0,a1]
abbrev e9i:=wi (c4J cb N call) λh=>(nx:c8a cb N call a0 a1=_)
noncomputable abbrev d5s:Pl:=z_ (z_ (y_ (z_ (y_ (.l [8,9,10,11,14,15,16,17,18,19,20,21,22,23,24,25,26,27,28,29,30,31,7,32,33,34,35,36,37,38,39,5,12,13,6] .d) .d)) .d))
noncomputable def d1j:=lp Tryz.f151 d5s 0 [0,3,4] cb N call [a0,a2,a1] xs
abbrev c5s:=(lx:d1j cb N call a0 a1 a2 xs=_)
noncomputable def c0P:=fq Tryz.f151 d5s cb N call [a0,a1]
abbrev e5o:=wi (c5s cb N call) λh=>(nx:c0P cb N call a0 a1=_)
noncomputable def c0j:=fq Tryz.f114 .d cb N call [a0,a1]
abbrev e3S:=(nx:c0j cb N call a0 a1=_)
noncomputable abbrev d4T:Pl:=z_ (z_ (y_ (y_ (.l [15,16,17,18,19,20,21,22,23,24,25,26,27,28,29,30,31,32,33,34,7] .d) .d) (z_ (z_ (z_ (z_ (z_ (z_ (z_ (z_ (z_ (z_ (.s (some [94,95,96,97,98,99,100,101,102,103,104,105,106,107,108,109,110,111,112,113,114,115,116,117,118,119,12,120,121,122,123,124,125,126,127,128,129,130,131,9]) .d .d)))))))))))))
noncomputable def d0S:=lp Tryz.f150 d4T 0 [0] cb N call [a0] xs
abbrev c4E:=(lx:d0S cb N call a0 xs=_)
noncomputable def b9P:=fq Tryz.f150 d4T cb N call [a0,a1,a2]
abbrev e2U:=wi (c4E cb N call) λh=>(nx:b9P cb N call a0 a1 a2=_)
noncomputable abbrev pl8:Pl:=z_ (z_ (z_ (z_ (z_ (z_ (z_ (z_ (y_ (z_ (y_ (.l [76,77,78,79,80,84,85,86,87,88,89,90,83,91,92,17,18,94,95,96,97,98,99,100,93,101,102,19,20,103,104,105,106,107,108,109,110,4,81,82,16] .d) .d)) .d))))))))
noncomputable def e2e:=lp Tryz.f8 pl8 0 [8,9,3] cb N call [a1,a2,a0] xs
abbrev d4J:=(lx:e2e cb N call a0 a1 a2 xs=_)
noncomputable def sh8:=fq Tryz.f8 pl8 cb N call [a0,a1]
abbrev nf8:=wi (d4J cb N call) λh=>(nx:sh8 cb N call a0 a1=_)
end
end Go.Proofs.YtmomonnlmbljoaaGreatDoor
