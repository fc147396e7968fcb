import Derived.Test.YtmomonnlmbljoaaGreatDoorGai
set_option maxRecDepth 1000000
set_option maxHeartbeats 4000000
set_option linter.unusedVariables false
set_option linter.unusedSimpArgs false
namespace Go.Proofs.YtmomonnlmbljoaaGreatDoor
open Go.V Go.RowKit Go.Shelf Go.Proofs
variable {mL:Int}
section
variable (cb:Cb)(N:Nat)(call:I5)(a0 a1 a2 a3 a4 a5:Value)(xs:List Value)
noncomputable def c0C:=fq Tryz.f189 .d cb N call [a0,a1]
abbrev e5q:=(nx:c0C cb N call a0 a1=_)
noncomputable def b9N:=fq Tryz.f190 .d cb N call [a0,a1]
abbrev e6L:=(nx:b9N cb N call a0 a1=_)
noncomputable def b9W:=fq Tryz.f191 .d cb N call [a0,a1,a2,a3]
abbrev e3D:=(nx:b9W cb N call a0 a1 a2 a3=_)
noncomputable def c0s:=fq Tryz.f192 .d cb N call [a0,a1,a2]
abbrev e5y:=(nx:c0s cb N call a0 a1 a2=_)
noncomputable def b9V:=fq Tryz.f153 .d cb N call [a0,a1,a2]
abbrev e3r:=(nx:b9V cb N call a0 a1 a2=_)
noncomputable def c0J:=fq Tryz.f209 .d cb N call [a0,a1,a2]
abbrev e5L:=(nx:c0J cb N call a0 a1 a2=_)
noncomputable def c0f:=fq Tryz.f193 .d cb N call [a0,a1,a2,a3,a4]
abbrev e3M:=(nx:c0f cb N call a0 a1 a2 a3 a4=_)
noncomputable def b9O:=fq Tryz.f155 .d cb N call [a0,a1,a2,a3]
abbrev e5l:=(nx:b9O cb N call a0 a1 a2 a3=_)
noncomputable def c0k:=fq Tryz.f158 .d cb N call [a0,a1,a2,a3,a4]
abbrev e5Q:=(nx:c0k cb N call a0 a1 a2 a3 a4=_)
noncomputable def b9T:=fq Tryz.f159 .d cb N call [a0,a1,a2,a3]
abbrev e3P:=(nx:b9T cb N call a0 a1 a2 a3=_)
noncomputable def b9s:=fq Tryz.f160 .d cb N call [a0,a1,a2]
abbrev e3w:=(nx:b9s cb N call a0 a1 a2=_)
noncomputable abbrev e4z:Pl:=z_ (.s (some [13,14,15,16,17,18,19,20,21,22,23,24,25,26,27,28,29,30,31,32,33,34,35,36]) .d .d)
noncomputable def c0D:=fq Tryz.f154 e4z cb N call [a0,a1,a2,a3]
abbrev e2W:=(nx:c0D cb N call a0 a1 a2 a3=_)
noncomputable abbrev d3L:Pl:=z_ (z_ (y_ (y_ (.l [20,21,22,23,24,25,26,27,28,29,30,31,32,33,34,35,36,38,39,40,41,42,37,43,44,10,11,45,46,9] .d) .d) .d))
noncomputable def d0Y:=lp Tryz.f156 d3L 0 [1,6,3,4] cb N call [a1,a2,a3,a0] xs
abbrev c4Q:=(lx:d0Y cb N call a0 a1 a2 a3 xs=_)
noncomputable def b9r:=fq Tryz.f156 d3L cb N call [a0,a1,a2,a3]
abbrev e6j:=wi (c4Q cb N call) λh=>(nx:b9r cb N call a0 a1 a2 a3=_)
noncomputable def c0G:=fq Tryz.f157 .d cb N call [a0,a1,a2,a3,a4]
abbrev e5a:=(nx:c0G cb N call a0 a1 a2 a3 a4=_)
noncomputable def c0Q:=fq Tryz.f195 .d cb N call [a0,a1,a2,a3,a4]
abbrev e5I:=(nx:c0Q cb N call a0 a1 a2 a3 a4=_)
noncomputable abbrev e3A:Pl:=z_ (.s (some [16,17,18,19,20,21,22,23,24,25,26,28,29,30,31,32,33,27,34,35,13,14,36,37,38,39]) .d .d)
noncomputable def c0K:=fq Tryz.f196 e3A cb N call [a0,a1,a2,a3,a4,a5]
abbrev e5B:=(nx:c0K cb N call a0 a1 a2 a3 a4 a5=_)
noncomputable abbrev d4h:Pl:=z_ (y_ (z_ (y_ (.l [5,6,9,10,11,12,13,2,3,7,8,4] .d) .d)) .d)
noncomputable def c9h:=lp Tryz.f211 d4h 0 [0] cb N call [a0] xs
abbrev c4V:=(lx:c9h cb N call a0 xs=_)
noncomputable def c0v:=fq Tryz.f211 d4h cb N call [a0]
abbrev e3d:=wi (c4V cb N call) λh=>(nx:c0v cb N call a0=_)
noncomputable abbrev e5P:Pl:=z_ (z_ (z_ (z_ (.s (some [33,34,35,36,37,38,39,40,41,43,44,45,46,47,48,49,50,42,51,52,10,11,53,54,55,56,57,58,59,60,61,62,63,64,65,66,67,68,69,70,71]) .d .d))))
noncomputable def b9D:=fq Tryz.f197 e5P cb N call [a0,a1,a2,a3]
abbrev e3R:=(nx:b9D cb N call a0 a1 a2 a3=_)
noncomputable def b9x:=fq Tryz.f198 .d cb N call [a0,a1,a2,a3]
abbrev e3k:=(nx:b9x cb N call a0 a1 a2 a3=_)
noncomputable abbrev e3j:Pl:=z_ (z_ (.s (some [18,19,20,21,22,23,33,32,34,35,37,36,38,39,24,25,26,27,28,29,30,31]) .d .d))
noncomputable def c0H:=fq Tryz.f199 e3j cb N call [a0,a1,a2]
abbrev e4h:=(nx:c0H cb N call a0 a1 a2=_)
end
end Go.Proofs.YtmomonnlmbljoaaGreatDoor
