import Derived.Test.YtmomonnlmbljoaaGreatDoorKah
set_option maxRecDepth 1000000
set_option maxHeartbeats 4000000
set_option linter.unusedVariables false
set_option linter.unusedSimpArgs false
namespace Go.Proofs.YtmomonnlmbljoaaGreatDoor
open Go.V Go.RowKit Go.Shelf Go.Proofs
variable {mL:Int}
section
variable (cb:Cb)(N:Nat)(call:J4)(a0 a1 a2 a3 a4 a5:Value)(xs:List Value)
noncomputable def c7Z:=fq Tryz.f20 .d cb N call [a0,a1]
abbrev f0D:=(nx:c7Z cb N call a0 a1=_)
noncomputable abbrev d9c:Pl:=z_ (z_ (y_ (z_ (y_ (.l [7,8,2,9,10,11,12,13,14,15,16,17,6] .d) .d)) .d))
noncomputable def d4z:=lp Tryz.f21 d9c 0 [1] cb N call [a0] xs
abbrev c9V:=(lx:d4z cb N call a0 xs=_)
noncomputable def c6g:=fq Tryz.f21 d9c cb N call []
abbrev e9a:=wi (c9V cb N call) λh=>(nx:c6g cb N call=_)
noncomputable def c6U:=fq Tryz.f27 .d cb N call [a0]
abbrev e9I:=(nx:c6U cb N call a0=_)
noncomputable abbrev e1m:Pl:=z_ (z_ (y_ (z_ (y_ (.l [5,6,7,8,11,12,13,14,15,16,17,18,19,20,21,22,23,24,25,26,27,28,29,30,31,32,33,34,35,3,9,10,4] .d) .d)) .d))
noncomputable def d5C:=lp Tryz.f30 e1m 0 [0] cb N call [a0] xs
abbrev d1c:=(lx:d5C cb N call a0 xs=_)
noncomputable def c7T:=fq Tryz.f30 e1m cb N call [a0]
abbrev f0B:=wi (d1c cb N call) λh=>(nx:c7T cb N call a0=_)
noncomputable def c6u:=fq Tryz.f38 .d cb N call [a0,a1]
abbrev a1e:=(nx:c6u cb N call a0 a1=_)
noncomputable def c3q:=fq Tryz.f40 .d cb N call [a0]
abbrev f0H:=(nx:c3q cb N call a0=_)
noncomputable def b7V:=fq Tryz.f42 .d cb N call [a0,a1]
abbrev d9w:=(nx:b7V cb N call a0 a1=_)
noncomputable def c7b:=fq Tryz.f43 .d cb N call [a0]
abbrev e8S:=(nx:c7b cb N call a0=_)
noncomputable def c8g:=fq Tryz.f44 .d cb N call [a0]
abbrev a1d:=(nx:c8g cb N call a0=_)
noncomputable def c7o:=fq Tryz.f46 .d cb N call [a0]
abbrev d9Y:=(nx:c7o cb N call a0=_)
noncomputable def c7M:=fq Tryz.f57 .d cb N call [a0]
abbrev d8I:=(nx:c7M cb N call a0=_)
noncomputable def c6K:=fq Tryz.f59 .d cb N call [a0]
abbrev e8T:=(nx:c6K cb N call a0=_)
noncomputable def c7q:=fq Tryz.f61 .d cb N call [a0]
abbrev e9Q:=(nx:c7q cb N call a0=_)
noncomputable abbrev d4j:Pl:=z_ (z_ (y_ (z_ (y_ (.l [58,59,60,61,62,65,66,67,68,69,70,71,72,73,74,75,4,63,64,5] .d) .d)) (y_ (z_ (y_ (.l [76,77,78,79,80,83,84,85,86,87,88,89,90,91,92,93,4,81,82,6] .d) .d)) .d)))
noncomputable def d4D:=lp Tryz.f62 d4j 1 [2,3] cb N call [a0,a1] xs
abbrev c8X:=(lx:d4D cb N call a0 a1 xs=_)
noncomputable def d5H:=lp Tryz.f62 d4j 0 [2,3] cb N call [a0,a1] xs
abbrev d0e:=(lx:d5H cb N call a0 a1 xs=_)
noncomputable def c6t:=fq Tryz.f62 d4j cb N call [a0,a1]
abbrev e9r:=(nx (h:=by repeat' first|(intros;apply Sm.mk;first|(simp(maxSteps:=9999999) (disch:=with_unfolding_all (conv=>lhs;reduce))only[↓gQ,gO,Nat.reduceAdd]<;>with_reducible exact rfl)|with_reducible exact rfl)|(show _=_;with_unfolding_all (conv=>lhs;reduce);done)|(intro _;intros;show Nf _ _ _ _)|((with_reducible apply Nf.of (b4d ?_))<;>first|(show _=_;with_unfolding_all (conv=>lhs;reduce);done)|fail_if_success show _=_)|((with_reducible apply Nf.of (c6N ?_))<;>first|(show _=_;with_unfolding_all (conv=>lhs;reduce);done)|fail_if_success show _=_)|((with_reducible apply Nf.of (b4A ?_ ?_ ?_))<;>first|(show _=_;with_unfolding_all (conv=>lhs;reduce);done)|fail_if_success show _=_)|((with_reducible apply Nf.of (b4l ?_ ?_ ?_))<;>first|(show _=_;with_unfolding_all (conv=>lhs;reduce);done)|fail_if_success show _=_)|((with_reducible apply Nf.of (b6i ?_))<;>first|(show _=_;with_unfolding_all (conv=>lhs;reduce);done)|fail_if_success show _=_)|((with_reducible apply Nf.of (b7y ?_))<;>first|(show _=_;with_unfolding_all (conv=>lhs;reduce);done)|fail_if_success show _=_)|((with_reducible apply Nf.of (c6b ?_))<;>first|(show _=_;with_unfolding_all (conv=>lhs;reduce);done)|fail_if_success show _=_)|((with_reducible apply Nf.of (b4u ?_ ?_ ?_))<;>first|(show _=_;with_unfolding_all (conv=>lhs;reduce);done)|fail_if_success show _=_)|((with_reducible apply Nf.of (b4p ?_ ?_ ?_))<;>first|(show _=_;with_unfolding_all (conv=>lhs;reduce);done)|fail_if_success show _=_)|((with_reducible apply Nf.of (b7l ?_ ?_ ?_ ?_))<;>first|(show _=_;with_unfolding_all (conv=>lhs;reduce);done)|fail_if_success show _=_)|((with_reducible apply Nf.of (b6N ?_))<;>first|(show _=_;with_unfolding_all (conv=>lhs;reduce);done)|fail_if_success show _=_)|((with_reducible apply Nf.of (b6F ?_))<;>first|(show _=_;with_unfolding_all (conv=>lhs;reduce);done)|fail_if_success show _=_)|((with_reducible apply Nf.of (b6J ?_ ?_ ?_ ?_ ?_))<;>first|(show _=_;with_unfolding_all (conv=>lhs;reduce);done)|fail_if_success show _=_)|((with_reducible apply b4G)<;>first|(show _=_;with_unfolding_all (conv=>lhs;reduce);done)|fail_if_success show _=_)|(with_reducible apply Nf.lf2 (x:=O8 _ (76::77::_)) (c8X cb N call))|(with_reducible apply Nf.lf2 (x:=O8 _ (58::59::_)) (d0e cb N call))|(with_reducible first|apply b7E|apply b2r|apply b0S|apply b7A|apply b4B|apply b4t|apply b2p|apply Nf.of b6j|apply Nf.of b5Y|apply Nf.of b6r|apply Nf.of k_n|apply Nf.of k_e|apply Nf.of k_r|apply Nf.of (G5 _ _ _ _)|apply Nf.of (a1s _ _ _ _ _)|apply Nf.of (a2l _ _ _ _)|apply Nf.of b9X|apply Nf.of b2R|apply Nf.of b2J|apply Nf.of b2d|apply Nf.of b2b|apply Nf.of c7S|apply Nf.of c5R|apply Nf.of b6n|apply Nf.of c0S|apply Nf.of b6e|apply Nf.of b6H|apply Nf.of b6X|apply Nf.of b4y|apply Nf.of f_n|apply Nf.of f_r|apply Nf.of f_e|apply Nf.of b4r|apply Nf.of b4H|apply Nf.of c0M|apply Nf.of c0G|apply Nf.of c0D|apply Nf.of b6x|apply Nf.of b6M|apply b4j|apply b4n|apply b4v|apply c0y|apply b9Y|apply b4q|apply Nf.bj|apply Nf.xc|apply Nf.bs|apply Nf.lp|apply Nf.gd|apply Nf.pu|apply Nf.bv|exact Nf.rf)):c6t cb N call a0 a1=_)
noncomputable def c5E:=fq Tryz.f77 .d cb N call [a0]
abbrev e9T:=(nx:c5E cb N call a0=_)
noncomputable abbrev f0Q:Pl:=z_ (y_ (z_ (y_ (.s (some [7,8,9,10,11,12,13,14,15,6]) .d (z_ (.s (some [17,18,19,20,21,16]) .d (z_ (z_ (z_ (z_ (z_ (.s (some [27,28,26]) .d .d))))))))) .d)) .d)
noncomputable def c5Y:=fq Tryz.f84 f0Q cb N call [a0]
abbrev e9H:=(nx:c5Y cb N call a0=_)
noncomputable def d3a:=fq Tryz.f93 .d cb N call [a0,a1]
abbrev e9z:=(nx:d3a cb N call a0 a1=_)
noncomputable abbrev e9C:Pl:=z_ (z_ (y_ (z_ (y_ (.l [7,8,11,12,3,9,10,4] .d) .d)) .d))
noncomputable def e8Z:=fq Tryz.f94 e9C cb N call [a0]
noncomputable abbrev d9K:Pl:=z_ (z_ (y_ (z_ (y_ (.l [7,8,9,10,13,14,15,16,17,18,19,20,21,22,23,3,11,12,5] .d) .d)) .d))
noncomputable def d4P:=lp Tryz.f97 d9K 0 [0,4,2] cb N call [a1,a0,a2] xs
abbrev c2Y:=(lx:d4P cb N call a0 a1 a2 xs=_)
noncomputable def c7D:=fq Tryz.f97 d9K cb N call [a0]
abbrev f1m:=wi (c2Y cb N call) λh=>(nx:c7D cb N call a0=_)
noncomputable abbrev e7q:Pl:=z_ (z_ (y_ (z_ (y_ (z_ (z_ (.s (some [47,48,49,50,51,52,46]) .d .d))) .d)) .d))
noncomputable def c0j:=fq Tryz.f110 e7q cb N call [a0]
abbrev e7W:=(nx:c0j cb N call a0=_)
noncomputable abbrev e8a:Pl:=z_ (.s (some [3,5,6,7,8,9,4,2]) .d .d)
noncomputable def e7Q:=fq Tryz.f137 e8a cb N call [a0]
noncomputable abbrev e6N:Pl:=z_ (.s (some [10,11,9,12,13,3,4,14,15,16,17,18,19,20,21,22,23,24,25,26,27,28,29,30,31,32,33,34,35,36]) .d .d)
noncomputable def c0r:=fq Tryz.f140 e6N cb N call [a0]
abbrev e7e:=(nx:c0r cb N call a0=_)
noncomputable def c0v:=fq Tryz.f146 .d cb N call [a0,a1,a2]
abbrev e3P:=(nx:c0v cb N call a0 a1 a2=_)
noncomputable def e3X:=fq Tryz.f173 .d cb N call []
end
end Go.Proofs.YtmomonnlmbljoaaGreatDoor
