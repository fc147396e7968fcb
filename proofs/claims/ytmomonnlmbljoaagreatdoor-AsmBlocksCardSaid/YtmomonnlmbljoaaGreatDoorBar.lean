import Derived.Test.YtmomonnlmbljoaaGreatDoorBal
set_option maxRecDepth 1000000
set_option maxHeartbeats 4000000
set_option linter.unusedVariables false
set_option linter.unusedSimpArgs false
section
namespace Go.Proofs.YtmomonnlmbljoaaGreatDoor
open Go.V Go.RowKit Go.Shelf Go.Proofs
variable {mL:Int}
variable (cb:Cb)(N:Nat)(call:J7)(a0 a1 a2 a3 a4 a5:Value)(xs:List Value)
noncomputable def c6X:=fq Tryz.f20 .d cb N call [a0,a1]
abbrev f0m:=(nx:c6X cb N call a0 a1=_)
noncomputable abbrev e2S:Pl:=z_ (z_ (y_ (z_ (y_ (.l [7,8,2,9,10,11,12,13,14,15,16,17,6] .d) .d)) .d))
noncomputable def d4K:=lp Tryz.f21 e2S 0 [1] cb N call [a0] xs
abbrev c9v:=(lx:d4K cb N call a0 xs=_)
noncomputable def c6P:=fq Tryz.f21 e2S cb N call []
abbrev e8B:=wi (c9v cb N call) λh=>(nx:c6P cb N call=_)
noncomputable def c7f:=fq Tryz.f27 .d cb N call [a0]
abbrev e8u:=(nx:c7f cb N call a0=_)
noncomputable abbrev e0h:Pl:=z_ (z_ (y_ (z_ (y_ (.l [5,6,7,8,11,12,13,14,15,16,17,18,19,20,21,22,23,24,25,26,27,28,29,30,31,32,33,34,35,3,9,10,4] .d) .d)) .d))
noncomputable def d4z:=lp Tryz.f30 e0h 0 [0] cb N call [a0] xs
abbrev c8J:=(lx:d4z cb N call a0 xs=_)
noncomputable def c7t:=fq Tryz.f30 e0h cb N call [a0]
abbrev e9v:=wi (c8J cb N call) λh=>(nx:c7t cb N call a0=_)
noncomputable def c7s:=fq Tryz.f38 .d cb N call [a0,a1]
abbrev a1h:=(nx:c7s cb N call a0 a1=_)
noncomputable def c2t:=fq Tryz.f40 .d cb N call [a0]
abbrev e9W:=(nx:c2t cb N call a0=_)
noncomputable def b7E:=fq Tryz.f42 .d cb N call [a0,a1]
abbrev e0t:=(nx:b7E cb N call a0 a1=_)
noncomputable def c7G:=fq Tryz.f43 .d cb N call [a0]
abbrev e8G:=(nx:c7G cb N call a0=_)
noncomputable def c5o:=fq Tryz.f44 .d cb N call [a0]
abbrev a1c:=(nx:c5o cb N call a0=_)
noncomputable def c6v:=fq Tryz.f46 .d cb N call [a0]
abbrev e0w:=(nx:c6v cb N call a0=_)
noncomputable def c7U:=fq Tryz.f57 .d cb N call [a0]
abbrev e0k:=(nx:c7U cb N call a0=_)
noncomputable def c7D:=fq Tryz.f59 .d cb N call [a0]
abbrev e8q:=(nx:c7D cb N call a0=_)
noncomputable def c6U:=fq Tryz.f61 .d cb N call [a0]
abbrev e8X:=(nx:c6U cb N call a0=_)
noncomputable abbrev d1E:Pl:=z_ (z_ (y_ (z_ (y_ (.l [58,59,60,61,62,65,66,67,68,69,70,71,72,73,74,75,4,63,64,5] .d) .d)) (y_ (z_ (y_ (.l [76,77,78,79,80,83,84,85,86,87,88,89,90,91,92,93,4,81,82,6] .d) .d)) .d)))
noncomputable def d3Q:=lp Tryz.f62 d1E 1 [2,3] cb N call [a0,a1] xs
abbrev d0S:=(lx:d3Q cb N call a0 a1 xs=_)
noncomputable def d4k:=lp Tryz.f62 d1E 0 [2,3] cb N call [a0,a1] xs
abbrev d0j:=(lx:d4k cb N call a0 a1 xs=_)
noncomputable def c7P:=fq Tryz.f62 d1E cb N call [a0,a1]
abbrev e8r:=(nx (h:=by repeat' first|(intros;apply Sm.mk;first|(simp(maxSteps:=9999999) (disch:=with_unfolding_all (conv=>lhs;reduce))only[↓gQ,gO,Nat.reduceAdd]<;>with_reducible exact rfl)|with_reducible exact rfl)|(show _=_;with_unfolding_all (conv=>lhs;reduce);done)|(intro _;intros;show Nf _ _ _ _)|((with_reducible apply Nf.of (b7L ?_))<;>first|(show _=_;with_unfolding_all (conv=>lhs;reduce);done)|fail_if_success show _=_)|((with_reducible apply Nf.of (d1U ?_))<;>first|(show _=_;with_unfolding_all (conv=>lhs;reduce);done)|fail_if_success show _=_)|((with_reducible apply Nf.of (b7l ?_ ?_ ?_))<;>first|(show _=_;with_unfolding_all (conv=>lhs;reduce);done)|fail_if_success show _=_)|((with_reducible apply Nf.of (b7H ?_ ?_ ?_))<;>first|(show _=_;with_unfolding_all (conv=>lhs;reduce);done)|fail_if_success show _=_)|((with_reducible apply Nf.of (c1X ?_))<;>first|(show _=_;with_unfolding_all (conv=>lhs;reduce);done)|fail_if_success show _=_)|((with_reducible apply Nf.of (c1x ?_))<;>first|(show _=_;with_unfolding_all (conv=>lhs;reduce);done)|fail_if_success show _=_)|((with_reducible apply Nf.of (d2o ?_))<;>first|(show _=_;with_unfolding_all (conv=>lhs;reduce);done)|fail_if_success show _=_)|((with_reducible apply Nf.of (b7I ?_ ?_ ?_))<;>first|(show _=_;with_unfolding_all (conv=>lhs;reduce);done)|fail_if_success show _=_)|((with_reducible apply Nf.of (b7s ?_ ?_ ?_))<;>first|(show _=_;with_unfolding_all (conv=>lhs;reduce);done)|fail_if_success show _=_)|((with_reducible apply Nf.of (c2k ?_ ?_ ?_ ?_))<;>first|(show _=_;with_unfolding_all (conv=>lhs;reduce);done)|fail_if_success show _=_)|((with_reducible apply Nf.of (c1d ?_))<;>first|(show _=_;with_unfolding_all (conv=>lhs;reduce);done)|fail_if_success show _=_)|((with_reducible apply Nf.of (c0K ?_))<;>first|(show _=_;with_unfolding_all (conv=>lhs;reduce);done)|fail_if_success show _=_)|((with_reducible apply Nf.of (c1h ?_ ?_ ?_ ?_ ?_))<;>first|(show _=_;with_unfolding_all (conv=>lhs;reduce);done)|fail_if_success show _=_)|((with_reducible apply b7n)<;>first|(show _=_;with_unfolding_all (conv=>lhs;reduce);done)|fail_if_success show _=_)|(with_reducible apply Nf.lf2 (x:=Q7 _ (76::77::_)) (d0S cb N call))|(with_reducible apply Nf.lf2 (x:=Q7 _ (58::59::_)) (d0j cb N call))|(with_reducible first|apply c0O|apply b4Y|apply b3G|apply c1L|apply b7U|apply b7T|apply b5z|apply Nf.of c0X|apply Nf.of c2B|apply Nf.of c0r|apply Nf.of k_n|apply Nf.of k_e|apply Nf.of k_r|apply Nf.of (F6 _ _ _ _)|apply Nf.of (a1y _ _ _ _ _)|apply Nf.of (a2k _ _ _ _)|apply Nf.of c5M|apply Nf.of b5l|apply Nf.of b5c|apply Nf.of b5h|apply Nf.of b5k|apply Nf.of d2e|apply Nf.of d1y|apply Nf.of c2h|apply Nf.of c7Q|apply Nf.of c0Q|apply Nf.of c2L|apply Nf.of c0L|apply Nf.of b7f|apply Nf.of f_n|apply Nf.of f_r|apply Nf.of f_e|apply Nf.of b7w|apply Nf.of b7i|apply Nf.of c6k|apply Nf.of c6l|apply Nf.of c5p|apply Nf.of c2A|apply Nf.of c2R|apply b7v|apply b7e|apply b7q|apply c7B|apply c7u|apply b7R|apply Nf.bj|apply Nf.xc|apply Nf.bs|apply Nf.lp|apply Nf.gd|apply Nf.pu|apply Nf.bv|exact Nf.rf)):c7P cb N call a0 a1=_)
noncomputable def c7I:=fq Tryz.f77 .d cb N call [a0]
abbrev e9c:=(nx:c7I cb N call a0=_)
noncomputable abbrev e7O:Pl:=z_ (y_ (z_ (y_ (.s (some [7,8,9,10,11,12,13,14,15,6]) .d (z_ (.s (some [17,18,19,20,21,16]) .d (z_ (z_ (z_ (z_ (z_ (.s (some [27,28,26]) .d .d))))))))) .d)) .d)
noncomputable def c6x:=fq Tryz.f84 e7O cb N call [a0]
abbrev e8j:=(nx:c6x cb N call a0=_)
noncomputable def d1P:=fq Tryz.f93 .d cb N call [a0,a1]
abbrev e7U:=(nx:d1P cb N call a0 a1=_)
noncomputable abbrev e8P:Pl:=z_ (z_ (y_ (z_ (y_ (.l [7,8,11,12,3,9,10,4] .d) .d)) .d))
noncomputable def e8n:=fq Tryz.f94 e8P cb N call [a0]
noncomputable abbrev d7Q:Pl:=z_ (z_ (y_ (z_ (y_ (.l [7,8,9,10,13,14,15,16,17,18,19,20,21,22,23,3,11,12,5] .d) .d)) .d))
noncomputable def d4t:=lp Tryz.f97 d7Q 0 [0,4,2] cb N call [a1,a0,a2] xs
abbrev c0V:=(lx:d4t cb N call a0 a1 a2 xs=_)
noncomputable def c5s:=fq Tryz.f97 d7Q cb N call [a0]
abbrev e8L:=wi (c0V cb N call) λh=>(nx:c5s cb N call a0=_)
noncomputable abbrev e3T:Pl:=z_ (z_ (y_ (z_ (y_ (z_ (z_ (.s (some [47,48,49,50,51,52,46]) .d .d))) .d)) .d))
noncomputable def b9O:=fq Tryz.f110 e3T cb N call [a0]
abbrev e7h:=(nx:b9O cb N call a0=_)
noncomputable abbrev e4Q:Pl:=z_ (.s (some [3,5,6,7,8,9,4,2]) .d .d)
noncomputable def e3I:=fq Tryz.f137 e4Q cb N call [a0]
noncomputable abbrev e4k:Pl:=z_ (.s (some [10,11,9,12,13,3,4,14,15,16,17,18,19,20,21,22,23,24,25,26,27,28,29,30,31,32,33,34,35,36]) .d .d)
noncomputable def b9o:=fq Tryz.f140 e4k cb N call [a0]
abbrev e5M:=(nx:b9o cb N call a0=_)
noncomputable def b9C:=fq Tryz.f146 .d cb N call [a0,a1,a2]
abbrev e5G:=(nx:b9C cb N call a0 a1 a2=_)
noncomputable def e5t:=fq Tryz.f173 .d cb N call []
end Go.Proofs.YtmomonnlmbljoaaGreatDoor
end
