import Derived.Test.YtmomonnlmbljoaaGreatDoorGai
set_option maxRecDepth 1000000
set_option maxHeartbeats 4000000
set_option linter.unusedVariables false
set_option linter.unusedSimpArgs false
namespace Go.Proofs.YtmomonnlmbljoaaGreatDoor
open Go.V Go.RowKit Go.Shelf Go.Proofs
variable {mL:Int}
section
variable (cb:Cb)(N:Nat)(call:I5)(a0 a1 a2 a3 a4 a5:Value)(xs:List Value)
noncomputable abbrev d9e:Pl:=z_ (z_ (y_ (z_ (y_ (.l [7,8,2,9,10,11,12,13,14,15,16,17,6] .d) .d)) .d))
noncomputable def d3Y:=lp Tryz.f21 d9e 0 [1] cb N call [a0] xs
abbrev c8J:=(lx:d3Y cb N call a0 xs=_)
noncomputable def c7P:=fq Tryz.f21 d9e cb N call []
abbrev f0n:=wi (c8J cb N call) λh=>(nx:c7P cb N call=_)
noncomputable def c7T:=fq Tryz.f27 .d cb N call [a0]
abbrev f0A:=(nx:c7T cb N call a0=_)
noncomputable abbrev d9K:Pl:=z_ (z_ (y_ (z_ (y_ (.l [5,6,7,8,11,12,13,14,15,16,17,18,19,20,21,22,23,24,25,26,27,28,29,30,31,32,33,34,35,3,9,10,4] .d) .d)) .d))
noncomputable def d4D:=lp Tryz.f30 d9K 0 [0] cb N call [a0] xs
abbrev c9u:=(lx:d4D cb N call a0 xs=_)
noncomputable def c6U:=fq Tryz.f30 d9K cb N call [a0]
abbrev e8D:=wi (c9u cb N call) λh=>(nx:c6U cb N call a0=_)
noncomputable def e7Y:=fq Tryz.f38 .d cb N call [a0,a1]
noncomputable def c6f:=fq Tryz.f40 .d cb N call [a0]
abbrev e8c:=(nx:c6f cb N call a0=_)
noncomputable def e8b:=fq Tryz.f44 .d cb N call [a0]
noncomputable def c5K:=fq Tryz.f46 .d cb N call [a0]
abbrev d7O:=(nx:c5K cb N call a0=_)
noncomputable abbrev d1M:Pl:=z_ (z_ (y_ (z_ (y_ (.l [58,59,60,61,62,65,66,67,68,69,70,71,72,73,74,75,4,63,64,5] .d) .d)) (y_ (z_ (y_ (.l [76,77,78,79,80,83,84,85,86,87,88,89,90,91,92,93,4,81,82,6] .d) .d)) .d)))
noncomputable def d4Y:=lp Tryz.f62 d1M 1 [2,3] cb N call [a0,a1] xs
abbrev c8M:=(lx:d4Y cb N call a0 a1 xs=_)
noncomputable def d5m:=lp Tryz.f62 d1M 0 [2,3] cb N call [a0,a1] xs
abbrev c8R:=(lx:d5m cb N call a0 a1 xs=_)
noncomputable def c8h:=fq Tryz.f62 d1M cb N call [a0,a1]
abbrev e9y:=(nx (h:=by repeat' first|(intros;apply Sm.mk;first|(simp(maxSteps:=9999999) (disch:=with_unfolding_all (conv=>lhs;reduce))only[↓gQ,gO,Nat.reduceAdd]<;>with_reducible exact rfl)|with_reducible exact rfl)|(show _=_;with_unfolding_all (conv=>lhs;reduce);done)|(intro _;intros;show Nf _ _ _ _)|((with_reducible apply Nf.of (b4k ?_))<;>first|(show _=_;with_unfolding_all (conv=>lhs;reduce);done)|fail_if_success show _=_)|((with_reducible apply Nf.of (c6O ?_))<;>first|(show _=_;with_unfolding_all (conv=>lhs;reduce);done)|fail_if_success show _=_)|((with_reducible apply Nf.of (b4I ?_ ?_ ?_))<;>first|(show _=_;with_unfolding_all (conv=>lhs;reduce);done)|fail_if_success show _=_)|((with_reducible apply Nf.of (b4o ?_ ?_ ?_))<;>first|(show _=_;with_unfolding_all (conv=>lhs;reduce);done)|fail_if_success show _=_)|((with_reducible apply Nf.of (b5P ?_))<;>first|(show _=_;with_unfolding_all (conv=>lhs;reduce);done)|fail_if_success show _=_)|((with_reducible apply Nf.of (b6z ?_))<;>first|(show _=_;with_unfolding_all (conv=>lhs;reduce);done)|fail_if_success show _=_)|((with_reducible apply Nf.of (c8g ?_))<;>first|(show _=_;with_unfolding_all (conv=>lhs;reduce);done)|fail_if_success show _=_)|((with_reducible apply Nf.of (b4A ?_ ?_ ?_))<;>first|(show _=_;with_unfolding_all (conv=>lhs;reduce);done)|fail_if_success show _=_)|((with_reducible apply Nf.of (b4u ?_ ?_ ?_))<;>first|(show _=_;with_unfolding_all (conv=>lhs;reduce);done)|fail_if_success show _=_)|((with_reducible apply Nf.of (b6k ?_ ?_ ?_ ?_))<;>first|(show _=_;with_unfolding_all (conv=>lhs;reduce);done)|fail_if_success show _=_)|((with_reducible apply Nf.of (b6P ?_))<;>first|(show _=_;with_unfolding_all (conv=>lhs;reduce);done)|fail_if_success show _=_)|((with_reducible apply Nf.of (b5V ?_))<;>first|(show _=_;with_unfolding_all (conv=>lhs;reduce);done)|fail_if_success show _=_)|((with_reducible apply Nf.of (b6u ?_ ?_ ?_ ?_ ?_))<;>first|(show _=_;with_unfolding_all (conv=>lhs;reduce);done)|fail_if_success show _=_)|((with_reducible apply b4y)<;>first|(show _=_;with_unfolding_all (conv=>lhs;reduce);done)|fail_if_success show _=_)|(with_reducible apply Nf.lf2 (x:=P5 _ (76::77::_)) (c8M cb N call))|(with_reducible apply Nf.lf2 (x:=P5 _ (58::59::_)) (c8R cb N call))|(with_reducible first|apply b5W|apply b1K|apply b0w|apply b6K|apply b3W|apply b4m|apply b2t|apply Nf.of b6I|apply Nf.of b7l|apply Nf.of b6Y|apply Nf.of k_n|apply Nf.of k_e|apply Nf.of k_r|apply Nf.of (I6 _ _ _ _)|apply Nf.of (a2x _ _ _ _ _)|apply Nf.of (a3l _ _ _ _)|apply Nf.of b9I|apply Nf.of b1I|apply Nf.of b2I|apply Nf.of b2b|apply Nf.of b2x|apply Nf.of c8d|apply Nf.of c6o|apply Nf.of b6l|apply Nf.of c0A|apply Nf.of b7v|apply Nf.of b5G|apply Nf.of b7o|apply Nf.of b4s|apply Nf.of f_n|apply Nf.of f_r|apply Nf.of f_e|apply Nf.of b3Z|apply Nf.of b4b|apply Nf.of c0r|apply Nf.of b9X|apply Nf.of b9M|apply Nf.of b6f|apply Nf.of b6S|apply b4G|apply b3P|apply b4D|apply b9t|apply b9Q|apply b4x|apply Nf.bj|apply Nf.xc|apply Nf.bs|apply Nf.lp|apply Nf.gd|apply Nf.pu|apply Nf.bv|exact Nf.rf)):c8h cb N call a0 a1=_)
noncomputable def c6A:=fq Tryz.f77 .d cb N call [a0]
abbrev f0g:=(nx:c6A cb N call a0=_)
noncomputable abbrev e8E:Pl:=z_ (z_ (y_ (z_ (y_ (.l [7,8,11,12,3,9,10,4] .d) .d)) .d))
noncomputable def e8l:=fq Tryz.f94 e8E cb N call [a0]
noncomputable abbrev e1w:Pl:=z_ (z_ (y_ (z_ (y_ (.l [7,8,9,10,13,14,15,16,17,18,19,20,21,22,23,3,11,12,5] .d) .d)) .d))
noncomputable def d4e:=lp Tryz.f97 e1w 0 [0,4,2] cb N call [a1,a0,a2] xs
abbrev c2t:=(lx:d4e cb N call a0 a1 a2 xs=_)
noncomputable def c7K:=fq Tryz.f97 e1w cb N call [a0]
abbrev e8k:=wi (c2t cb N call) λh=>(nx:c7K cb N call a0=_)
noncomputable abbrev e5z:Pl:=z_ (z_ (y_ (z_ (y_ (z_ (z_ (.s (some [47,48,49,50,51,52,46]) .d .d))) .d)) .d))
noncomputable def c0X:=fq Tryz.f110 e5z cb N call [a0]
abbrev e4w:=(nx:c0X cb N call a0=_)
noncomputable abbrev e6s:Pl:=z_ (.s (some [3,5,6,7,8,9,4,2]) .d .d)
noncomputable def e4Q:=fq Tryz.f137 e6s cb N call [a0]
noncomputable abbrev e5n:Pl:=z_ (.s (some [10,11,9,12,13,3,4,14,15,16,17,18,19,20,21,22,23,24,25,26,27,28,29,30,31,32,33,34,35,36]) .d .d)
noncomputable def b9L:=fq Tryz.f140 e5n cb N call [a0]
abbrev e4x:=(nx:b9L cb N call a0=_)
noncomputable def c0I:=fq Tryz.f146 .d cb N call [a0,a1,a2]
abbrev e6v:=(nx:c0I cb N call a0 a1 a2=_)
noncomputable def e4t:=fq Tryz.f173 .d cb N call []
end
end Go.Proofs.YtmomonnlmbljoaaGreatDoor
