import Derived.Test.YtmomonnlmbljoaaGreatDoorHal
set_option maxRecDepth 1000000
set_option maxHeartbeats 4000000
set_option linter.unusedVariables false
set_option linter.unusedSimpArgs false
section
namespace Go.Proofs.YtmomonnlmbljoaaGreatDoor
open Go.V Go.RowKit Go.Shelf Go.Proofs
variable {mL:Int}
variable (cb:Cb)(N:Nat)(call:A8)(a0 a1 a2 a3 a4 a5:Value)(xs:List Value)
noncomputable def c3U:=fq Tryz.f20 .d cb N call [a0,a1]
abbrev e5Z:=(nx:c3U cb N call a0 a1=_)
noncomputable abbrev d5Y:Pl:=z_ (z_ (y_ (z_ (y_ (.l [7,8,2,9,10,11,12,13,14,15,16,17,6] .d) .d)) .d))
noncomputable def d1u:=lp Tryz.f21 d5Y 0 [1] cb N call [a0] xs
abbrev c7r:=(lx:d1u cb N call a0 xs=_)
noncomputable def c4S:=fq Tryz.f21 d5Y cb N call []
abbrev e4O:=wi (c7r cb N call) λh=>(nx:c4S cb N call=_)
noncomputable def c2I:=fq Tryz.f27 .d cb N call [a0]
abbrev e5m:=(nx:c2I cb N call a0=_)
noncomputable abbrev d5B:Pl:=z_ (z_ (y_ (z_ (y_ (.l [5,6,7,8,11,12,13,14,15,16,17,18,19,20,21,22,23,24,25,26,27,28,29,30,31,32,33,34,35,3,9,10,4] .d) .d)) .d))
noncomputable def d1G:=lp Tryz.f30 d5B 0 [0] cb N call [a0] xs
abbrev c7o:=(lx:d1G cb N call a0 xs=_)
noncomputable def c2P:=fq Tryz.f30 d5B cb N call [a0]
abbrev e5g:=wi (c7o cb N call) λh=>(nx:c2P cb N call a0=_)
noncomputable def c3A:=fq Tryz.f38 .d cb N call [a0,a1]
abbrev U4:=(nx:c3A cb N call a0 a1=_)
noncomputable def c0g:=fq Tryz.f40 .d cb N call [a0]
abbrev e6m:=(nx:c0g cb N call a0=_)
noncomputable def b4u:=fq Tryz.f42 .d cb N call [a0,a1]
abbrev d7b:=(nx:b4u cb N call a0 a1=_)
noncomputable def c2J:=fq Tryz.f43 .d cb N call [a0]
abbrev e5x:=(nx:c2J cb N call a0=_)
noncomputable def c2Z:=fq Tryz.f44 .d cb N call [a0]
abbrev T9:=(nx:c2Z cb N call a0=_)
noncomputable def c4K:=fq Tryz.f46 .d cb N call [a0]
abbrev d7h:=(nx:c4K cb N call a0=_)
noncomputable def c2Y:=fq Tryz.f57 .d cb N call [a0]
abbrev d6e:=(nx:c2Y cb N call a0=_)
noncomputable def c2B:=fq Tryz.f59 .d cb N call [a0]
abbrev e4g:=(nx:c2B cb N call a0=_)
noncomputable def c4T:=fq Tryz.f61 .d cb N call [a0]
abbrev e5q:=(nx:c4T cb N call a0=_)
noncomputable abbrev c8S:Pl:=z_ (z_ (y_ (z_ (y_ (.l [58,59,60,61,62,65,66,67,68,69,70,71,72,73,74,75,4,63,64,5] .d) .d)) (y_ (z_ (y_ (.l [76,77,78,79,80,83,84,85,86,87,88,89,90,91,92,93,4,81,82,6] .d) .d)) .d)))
noncomputable def d0H:=lp Tryz.f62 c8S 1 [2,3] cb N call [a0,a1] xs
abbrev c5c:=(lx:d0H cb N call a0 a1 xs=_)
noncomputable def d0W:=lp Tryz.f62 c8S 0 [2,3] cb N call [a0,a1] xs
abbrev c7n:=(lx:d0W cb N call a0 a1 xs=_)
noncomputable def c4H:=fq Tryz.f62 c8S cb N call [a0,a1]
abbrev e6g:=(nx (h:=by repeat' first|(intros;apply Sm.mk;first|(simp(maxSteps:=9999999) (disch:=with_unfolding_all (conv=>lhs;reduce))only[↓gQ,gO,Nat.reduceAdd]<;>with_reducible exact rfl)|with_reducible exact rfl)|(show _=_;with_unfolding_all (conv=>lhs;reduce);done)|(intro _;intros;show Nf _ _ _ _)|((with_reducible apply Nf.of (b5p ?_))<;>first|(show _=_;with_unfolding_all (conv=>lhs;reduce);done)|fail_if_success show _=_)|((with_reducible apply Nf.of (c9e ?_))<;>first|(show _=_;with_unfolding_all (conv=>lhs;reduce);done)|fail_if_success show _=_)|((with_reducible apply Nf.of (b5o ?_ ?_ ?_))<;>first|(show _=_;with_unfolding_all (conv=>lhs;reduce);done)|fail_if_success show _=_)|((with_reducible apply Nf.of (b4H ?_ ?_ ?_))<;>first|(show _=_;with_unfolding_all (conv=>lhs;reduce);done)|fail_if_success show _=_)|((with_reducible apply Nf.of (b7K ?_))<;>first|(show _=_;with_unfolding_all (conv=>lhs;reduce);done)|fail_if_success show _=_)|((with_reducible apply Nf.of (b9C ?_))<;>first|(show _=_;with_unfolding_all (conv=>lhs;reduce);done)|fail_if_success show _=_)|((with_reducible apply Nf.of (c9h ?_))<;>first|(show _=_;with_unfolding_all (conv=>lhs;reduce);done)|fail_if_success show _=_)|((with_reducible apply Nf.of (b5f ?_ ?_ ?_))<;>first|(show _=_;with_unfolding_all (conv=>lhs;reduce);done)|fail_if_success show _=_)|((with_reducible apply Nf.of (b4J ?_ ?_ ?_))<;>first|(show _=_;with_unfolding_all (conv=>lhs;reduce);done)|fail_if_success show _=_)|((with_reducible apply Nf.of (b8y ?_ ?_ ?_ ?_))<;>first|(show _=_;with_unfolding_all (conv=>lhs;reduce);done)|fail_if_success show _=_)|((with_reducible apply Nf.of (b9c ?_))<;>first|(show _=_;with_unfolding_all (conv=>lhs;reduce);done)|fail_if_success show _=_)|((with_reducible apply Nf.of (b9X ?_))<;>first|(show _=_;with_unfolding_all (conv=>lhs;reduce);done)|fail_if_success show _=_)|((with_reducible apply Nf.of (b8N ?_ ?_ ?_ ?_ ?_))<;>first|(show _=_;with_unfolding_all (conv=>lhs;reduce);done)|fail_if_success show _=_)|((with_reducible apply b5k)<;>first|(show _=_;with_unfolding_all (conv=>lhs;reduce);done)|fail_if_success show _=_)|(with_reducible apply Nf.lf2 (x:=G3 _ (76::77::_)) (c5c cb N call))|(with_reducible apply Nf.lf2 (x:=G3 _ (58::59::_)) (c7n cb N call))|(with_reducible first|apply c0k|apply b2X|apply b1s|apply b8q|apply b4B|apply b5c|apply b2H|apply Nf.of b9A|apply Nf.of b9B|apply Nf.of c0t|apply Nf.of k_n|apply Nf.of k_e|apply Nf.of k_r|apply Nf.of (w9 _ _ _ _)|apply Nf.of (Y8 _ _ _ _ _)|apply Nf.of (a0Q _ _ _ _)|apply Nf.of c4d|apply Nf.of b2S|apply Nf.of b2D|apply Nf.of b2x|apply Nf.of b2Y|apply Nf.of c8V|apply Nf.of c9l|apply Nf.of b8E|apply Nf.of c3I|apply Nf.of b9V|apply Nf.of b8i|apply Nf.of b9w|apply Nf.of b4A|apply Nf.of f_n|apply Nf.of f_r|apply Nf.of f_e|apply Nf.of b4s|apply Nf.of b4x|apply Nf.of c3i|apply Nf.of c3Q|apply Nf.of c2H|apply Nf.of b8p|apply Nf.of b9E|apply b4t|apply b4T|apply b5g|apply c3o|apply c2t|apply b4L|apply Nf.bj|apply Nf.xc|apply Nf.bs|apply Nf.lp|apply Nf.gd|apply Nf.pu|apply Nf.bv|exact Nf.rf)):c4H cb N call a0 a1=_)
noncomputable def c3B:=fq Tryz.f77 .d cb N call [a0]
abbrev e5n:=(nx:c3B cb N call a0=_)
noncomputable abbrev e3Q:Pl:=z_ (y_ (z_ (y_ (.s (some [7,8,9,10,11,12,13,14,15,6]) .d (z_ (.s (some [17,18,19,20,21,16]) .d (z_ (z_ (z_ (z_ (z_ (.s (some [27,28,26]) .d .d))))))))) .d)) .d)
noncomputable def c2z:=fq Tryz.f84 e3Q cb N call [a0]
abbrev e5J:=(nx:c2z cb N call a0=_)
noncomputable def c9k:=fq Tryz.f93 .d cb N call [a0,a1]
abbrev e4o:=(nx:c9k cb N call a0 a1=_)
noncomputable abbrev e4s:Pl:=z_ (z_ (y_ (z_ (y_ (.l [7,8,11,12,3,9,10,4] .d) .d)) .d))
noncomputable def e4y:=fq Tryz.f94 e4s cb N call [a0]
noncomputable abbrev d5I:Pl:=z_ (z_ (y_ (z_ (y_ (.l [7,8,9,10,13,14,15,16,17,18,19,20,21,22,23,3,11,12,5] .d) .d)) .d))
noncomputable def d0Q:=lp Tryz.f97 d5I 0 [0,4,2] cb N call [a1,a0,a2] xs
abbrev c0p:=(lx:d0Q cb N call a0 a1 a2 xs=_)
noncomputable def c2X:=fq Tryz.f97 d5I cb N call [a0]
abbrev e6a:=wi (c0p cb N call) λh=>(nx:c2X cb N call a0=_)
noncomputable abbrev d9z:Pl:=z_ (z_ (y_ (z_ (y_ (z_ (z_ (.s (some [47,48,49,50,51,52,46]) .d .d))) .d)) .d))
noncomputable def b7r:=fq Tryz.f110 d9z cb N call [a0]
abbrev d9W:=(nx:b7r cb N call a0=_)
noncomputable abbrev d9U:Pl:=z_ (.s (some [3,5,6,7,8,9,4,2]) .d .d)
noncomputable def e1m:=fq Tryz.f137 d9U cb N call [a0]
noncomputable abbrev e2Y:Pl:=z_ (.s (some [10,11,9,12,13,3,4,14,15,16,17,18,19,20,21,22,23,24,25,26,27,28,29,30,31,32,33,34,35,36]) .d .d)
noncomputable def b7A:=fq Tryz.f140 e2Y cb N call [a0]
abbrev e1C:=(nx:b7A cb N call a0=_)
noncomputable def b7q:=fq Tryz.f146 .d cb N call [a0,a1,a2]
abbrev e0A:=(nx:b7q cb N call a0 a1 a2=_)
noncomputable def e1u:=fq Tryz.f173 .d cb N call []
end Go.Proofs.YtmomonnlmbljoaaGreatDoor
end
