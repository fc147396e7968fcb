import Derived.Test.YtmomonnlmbljoaaGreatDoorRaq
import Derived.Test.YtmomonnlmbljoaaGreatDoorRar
import Derived.Test.YtmomonnlmbljoaaGreatDoorRas
import Derived.Test.YtmomonnlmbljoaaGreatDoorRat
import Derived.Test.YtmomonnlmbljoaaGreatDoorRav
section
namespace Go.Proofs.YtmomonnlmbljoaaGreatDoor
open Go.V Go.Proofs
set_option maxRecDepth 1000000
set_option maxHeartbeats 4000000
set_option linter.unusedVariables false
set_option linter.unusedSimpArgs false
noncomputable def bq (op:BinOp) (t:TypeId) (x y:Operand) (a b:Value):M Value:=d3s Tryz.prog A9 op t x y a b
theorem l5 (op:BinOp) (t:TypeId) (x y:Operand) (a b:Value):bq op t x y a b=bn op t x y a b:=d7Z _ _ _ _ _ _ _ _
noncomputable def c4N (cb:Cb) (N:Nat) (call:j4) (v10:Value) (xs5:List Value) (v2:Value) (v8:Value) (v9:Value):M R2:=
 cb.bv R2 (bq .add 9 (.const (.string ⟨⟨[98, 108, 111, 99, 107, 32, 36, 108]⟩⟩)) (.tmp 35) (.string ⟨⟨[98, 108, 111, 99, 107, 32, 36, 108]⟩⟩) v10) fun v11=>
 cb.bv R2 (bq .add 9 (.tmp 36) (.const (.string ⟨⟨[32]⟩⟩)) v11 (.string ⟨⟨[32]⟩⟩)) fun v12=>
 cb.bv R2 (bq .add 9 (.tmp 32) (.tmp 37) (d9 xs5 10) v12) fun v13=>
 cb.bv R2 (bq .add 3 (.tmp 30) (.const (.int .i64 (.ofNat 1))) (d9 xs5 13) (.int .i64 (.ofNat 1))) fun v14=>
 M.pure (.normal, [(d9 xs5 13),v2,v8,(d9 xs5 10),(d9 xs5 13),v9,v10,v11,v12,v13,v13,(d9 xs5 13),v14,v14])
theorem d2W (cb:Cb) (N:Nat) (call:j4) (v10:Value) (xs5:List Value) (v2:Value) (v8:Value) (v9:Value):d4j cb N call v10 xs5 v2 v8 v9=c4N cb N call v10 xs5 v2 v8 v9:=by
 simp only [d4j,c4N,l5]
noncomputable def c2O (cb:Cb) (N:Nat) (call:j4) (v2:Value) (xs5:List Value):M R2:=
 cb.bv R2 (bq .lss 3 (.tmp 27) (.tmp 28) (d9 xs5 13) v2) fun v8=>
 j6 v8 (
 cb.bv R2 (I7 .u64 (d9 xs5 13)) fun v9=>
 cb.bc R2 (call 25 [v9]) (fun v10=>
 c4N cb N call v10 xs5 v2 v8 v9) l6) (
 e1X cb N call xs5 v2 v8)
theorem d5M (cb:Cb) (N:Nat) (call:j4) (v2:Value):d2U cb N call v2=c2O cb N call v2:=by
 funext xs5
 simp only [d2U,c2O,l5,d2W]
noncomputable def c7F (cb:Cb) (N:Nat) (call:j4) (xs21:List Value) (v2:Value) (v24:Value):M R2:=
 cb.bv R2 (bq .add 9 (.tmp 51) (.const (.string ⟨⟨[101, 110, 100, 32]⟩⟩)) (d9 xs21 5) (.string ⟨⟨[101, 110, 100, 32]⟩⟩)) fun v25=>
 cb.bv R2 (bq .add 3 (.tmp 49) (.const (.int .i64 (.ofNat 1))) (d9 xs21 8) (.int .i64 (.ofNat 1))) fun v26=>
 M.pure (.normal, [(d9 xs21 8),v2,v24,(d9 xs21 5),v25,v25,(d9 xs21 8),v26,v26])
theorem d5j (cb:Cb) (N:Nat) (call:j4) (xs21:List Value) (v2:Value) (v24:Value):d3r cb N call xs21 v2 v24=c7F cb N call xs21 v2 v24:=by
 simp only [d3r,c7F,l5]
noncomputable def c7O (cb:Cb) (N:Nat) (call:j4) (v2:Value) (xs21:List Value):M R2:=
 cb.bv R2 (bq .lss 3 (.tmp 46) (.tmp 47) (d9 xs21 8) v2) fun v24=>
 j6 v24 (
 c7F cb N call xs21 v2 v24) (
 M.pure (.exit 2, [(d9 xs21 8),v2,v24,(d9 xs21 3),(d9 xs21 4),(d9 xs21 5),(d9 xs21 6),(d9 xs21 7),(d9 xs21 8)]))
theorem d5e (cb:Cb) (N:Nat) (call:j4) (v2:Value):d6A cb N call v2=c7O cb N call v2:=by
 funext xs21
 simp only [d6A,c7O,l5,d5j]
noncomputable def c7m (cb:Cb) (N:Nat) (call:j4) (v67:Value) (vs23:List Value) (v37:Value):M CR:=
 cb.bj CR (l8 (o7 true v67) (cb.bv R2 (K7 (d9 vs23 5)) fun v70=>
 cb.bv R2 (bq .add 3 (.tmp 108) (.const (.int .i64 (.ofNat 3))) v70 (.int .i64 (.ofNat 3))) fun v71=>
 cb.bv R2 (bq .eql 3 (.tmp 106) (.tmp 109) v37 v71) fun v72=>
 M.pure (.normal, [v37,(d9 vs23 5),v70,v71,v72])) (M.pure (.normal, [undef,undef,undef,undef,undef]))) fun x68 vs69=>l7 x68 (cb.bv CR (q9 v67 (d9 vs69 4) (.bool false)) fun v73=>
 cb.bj CR (l8 (o7 true v73) (cb.bc R2 (call 11 []) (fun v76=>
 M.pure (.normal, [v76])) l6) (M.pure (.normal, [undef]))) fun x74 vs75=>l7 x74 (cb.bv CR (q9 v73 (d9 vs75 0) (.bool false)) fun v77=>
 M.pure (.ret v77)) (fun _=>M.fail) M.fail l6) (fun _=>M.fail) M.fail l6
theorem d3i (cb:Cb) (N:Nat) (call:j4) (v67:Value) (vs23:List Value) (v37:Value):d4Z cb N call v67 vs23 v37=c7m cb N call v67 vs23 v37:=by
 simp only [d4Z,c7m,l5]
noncomputable def c4r (cb:Cb) (N:Nat) (call:j4) (v54:Value) (v30:Value) (v2:Value) (v4:Value) (v38:Value) (vs23:List Value) (v37:Value):M CR:=
 cb.bj CR (l8 (o7 true v54) (cb.bv R2 (F3 9 v30 v2) fun v57=>
 cb.bv R2 (l9 1 v57) fun v58=>
 cb.bv R2 (j5 v58) fun v59=>
 cb.bv R2 (bq .sub 3 (.tmp 95) (.const (.int .i64 (.ofNat 1))) v2 (.int .i64 (.ofNat 1))) fun v60=>
 cb.bv R2 (bq .sub 3 (.tmp 96) (.tmp 97) v60 v4) fun v61=>
 cb.bv R2 (bq .eql 3 (.tmp 94) (.tmp 98) v59 v61) fun v62=>
 M.pure (.normal, [v30,v2,v57,v58,v59,v2,v60,v4,v61,v62])) (M.pure (.normal, [undef,undef,undef,undef,undef,undef,undef,undef,undef,undef]))) fun x55 vs56=>l7 x55 (cb.bv CR (q9 v54 (d9 vs56 9) (.bool false)) fun v63=>
 cb.bj CR (l8 (o7 true v63) (cb.bv R2 (bq .eql 41 (.tmp 102) (.const (.int .i64 (.ofNat 24))) v38 (.int .i64 (.ofNat 24))) fun v66=>
 M.pure (.normal, [v38,v66])) (M.pure (.normal, [undef,undef]))) fun x64 vs65=>l7 x64 (cb.bv CR (q9 v63 (d9 vs65 1) (.bool false)) fun v67=>
 c7m cb N call v67 vs23 v37) (fun _=>M.fail) M.fail l6) (fun _=>M.fail) M.fail l6
theorem d2V (cb:Cb) (N:Nat) (call:j4) (v54:Value) (v30:Value) (v2:Value) (v4:Value) (v38:Value) (vs23:List Value) (v37:Value):d3N cb N call v54 v30 v2 v4 v38 vs23 v37=c4r cb N call v54 v30 v2 v4 v38 vs23 v37:=by
 simp only [d3N,c4r,l5,d3i]
noncomputable def c1D (cb:Cb) (N:Nat) (call:j4) (v47:Value) (v30:Value) (v2:Value) (v4:Value) (v38:Value) (vs23:List Value) (v37:Value):M CR:=
 cb.bj CR (l8 (o7 true v47) (cb.bv R2 (F3 9 v30 v2) fun v50=>
 cb.bv R2 (l9 0 v50) fun v51=>
 cb.bv R2 (j5 v51) fun v52=>
 cb.bv R2 (bq .eql 22 (.tmp 86) (.const (.int .i64 (.ofNat 12))) v52 (.int .i64 (.ofNat 12))) fun v53=>
 M.pure (.normal, [v30,v2,v50,v51,v52,v53])) (M.pure (.normal, [undef,undef,undef,undef,undef,undef]))) fun x48 vs49=>l7 x48 (cb.bv CR (q9 v47 (d9 vs49 5) (.bool false)) fun v54=>
 c4r cb N call v54 v30 v2 v4 v38 vs23 v37) (fun _=>M.fail) M.fail l6
theorem d3T (cb:Cb) (N:Nat) (call:j4) (v47:Value) (v30:Value) (v2:Value) (v4:Value) (v38:Value) (vs23:List Value) (v37:Value):d6b cb N call v47 v30 v2 v4 v38 vs23 v37=c1D cb N call v47 v30 v2 v4 v38 vs23 v37:=by
 simp only [d6b,c1D,l5,d2V]
noncomputable def c5J (cb:Cb) (N:Nat) (call:j4) (v40:Value) (v30:Value) (v2:Value) (v4:Value) (v38:Value) (vs23:List Value) (v37:Value):M CR:=
 cb.bj CR (l8 (o7 true v40) (cb.bv R2 (H6 v30) fun v43=>
 cb.bv R2 (bq .mul 3 (.const (.int .i64 (.ofNat 2))) (.tmp 76) (.int .i64 (.ofNat 2)) v2) fun v44=>
 cb.bv R2 (bq .add 3 (.tmp 77) (.const (.int .i64 (.ofNat 1))) v44 (.int .i64 (.ofNat 1))) fun v45=>
 cb.bv R2 (bq .eql 3 (.tmp 75) (.tmp 78) v43 v45) fun v46=>
 M.pure (.normal, [v30,v43,v2,v44,v45,v46])) (M.pure (.normal, [undef,undef,undef,undef,undef,undef]))) fun x41 vs42=>l7 x41 (cb.bv CR (q9 v40 (d9 vs42 5) (.bool false)) fun v47=>
 c1D cb N call v47 v30 v2 v4 v38 vs23 v37) (fun _=>M.fail) M.fail l6
theorem d4V (cb:Cb) (N:Nat) (call:j4) (v40:Value) (v30:Value) (v2:Value) (v4:Value) (v38:Value) (vs23:List Value) (v37:Value):d2X cb N call v40 v30 v2 v4 v38 vs23 v37=c5J cb N call v40 v30 v2 v4 v38 vs23 v37:=by
 simp only [d2X,c5J,l5,d3T]
noncomputable def c4D (cb:Cb) (N:Nat) (call:j4) (v29:Value) (vs23:List Value) (v28:Value) (v32:Value) (v30:Value) (v2:Value) (v4:Value):M CR:=
 cb.bv CR (z8 3 v29) fun v33=>
 cb.bv CR (bq .add 9 (.tmp 63) (.const (.string ⟨⟨[98, 114, 32, 36, 108, 48]⟩⟩)) (d9 vs23 5) (.string ⟨⟨[98, 114, 32, 36, 108, 48]⟩⟩)) fun v34=>
 cb.bc CR (call 20 [v34,v28]) (fun v35=>
 cb.bv CR (z8 0 v35) fun v36=>
 cb.bv CR (z8 1 v35) fun v37=>
 cb.bv CR (z8 2 v35) fun v38=>
 cb.bv CR (z8 3 v35) fun v39=>
 cb.bv CR (bq .eql 41 (.tmp 71) (.const (.int .i64 (.ofNat 0))) v32 (.int .i64 (.ofNat 0))) fun v40=>
 c5J cb N call v40 v30 v2 v4 v38 vs23 v37) l6
theorem d6n (cb:Cb) (N:Nat) (call:j4) (v29:Value) (vs23:List Value) (v28:Value) (v32:Value) (v30:Value) (v2:Value) (v4:Value):d4b cb N call v29 vs23 v28 v32 v30 v2 v4=c4D cb N call v29 vs23 v28 v32 v30 v2 v4:=by
 simp only [d4b,c4D,l5,d4V]
noncomputable def b3n (cb:Cb) (N:Nat) (call:j4) (vs7:List Value) (v19:Value) (v2:Value) (v4:Value):M CR:=
 cb.bv CR (bq .add 9 (.tmp 39) (.tmp 44) (d9 vs7 10) v19) fun v20=>
 cb.bj CR (cb.lp (c7O cb N call v2) N [undef,undef,undef,undef,undef,v20,undef,undef,(.int .i64 (.ofNat 0))]) fun x22 vs23=>
 l7 x22 (M.fail) (fun i27=>l8 (Nat.beq i27 2) (cb.bc CR (call 21 []) (fun v28=>
 cb.bc CR (call 20 [(d9 vs23 5),v28]) (fun v29=>
 cb.bv CR (z8 0 v29) fun v30=>
 cb.bv CR (z8 1 v29) fun v31=>
 cb.bv CR (z8 2 v29) fun v32=>
 c4D cb N call v29 vs23 v28 v32 v30 v2 v4) l6) l6) (M.fail)) (M.fail) l6
theorem c9k (cb:Cb) (N:Nat) (call:j4) (vs7:List Value) (v19:Value) (v2:Value) (v4:Value):c7t cb N call vs7 v19 v2 v4=b3n cb N call vs7 v19 v2 v4:=by
 simp only [c7t,b3n,l5,d5e,d6n]
noncomputable def a5H (cb:Cb) (N:Nat) (call:j4) (v2:Value) (v4:Value):M CR:=
 cb.bj CR (cb.lp (c2O cb N call v2) N [undef,undef,undef,undef,undef,undef,undef,undef,undef,undef,(.string ⟨⟨[]⟩⟩),undef,undef,(.int .i64 (.ofNat 0))]) fun x6 vs7=>
 l7 x6 (M.fail) (fun i15=>l8 (Nat.beq i15 0) (cb.bv CR (I7 .u64 v4) fun v16=>
 cb.bc CR (call 25 [v16]) (fun v17=>
 cb.bv CR (bq .add 9 (.const (.string ⟨⟨[98, 114, 32, 36, 108]⟩⟩)) (.tmp 42) (.string ⟨⟨[98, 114, 32, 36, 108]⟩⟩) v17) fun v18=>
 cb.bv CR (bq .add 9 (.tmp 43) (.const (.string ⟨⟨[32]⟩⟩)) v18 (.string ⟨⟨[32]⟩⟩)) fun v19=>
 b3n cb N call vs7 v19 v2 v4) l6) (M.fail)) (M.fail) l6
theorem b0F (cb:Cb) (N:Nat) (call:j4) (v2:Value) (v4:Value):c2G cb N call v2 v4=a5H cb N call v2 v4:=by
 simp only [c2G,a5H,l5,d5M,c9k]
noncomputable def c5a (cb:Cb) (N:Nat) (call:j4) (a0:Value) (a1:Value):M CR:=
 cb.bv CR (bq .rem 5 (.tmp 19) (.const (.int .u8 (.ofNat 10))) a0 (.int .u8 (.ofNat 10))) fun v0=>
 cb.bv CR (I7 .i64 v0) fun v1=>
 cb.bv CR (bq .add 3 (.tmp 21) (.const (.int .i64 (.ofNat 1))) v1 (.int .i64 (.ofNat 1))) fun v2=>
 cb.bv CR (I7 .i64 a1) fun v3=>
 cb.bv CR (bq .rem 3 (.tmp 24) (.tmp 25) v3 v2) fun v4=>
 a5H cb N call v2 v4
theorem b9Q (cb:Cb) (N:Nat) (call:j4) (a0:Value) (a1:Value):sh7 cb N call a0 a1=c5a cb N call a0 a1:=by
 simp only [sh7,c5a,l5,b0F]
noncomputable def c5U (cb:Cb) (N:Nat) (call:j4) (a0:Value) (a1:Value):M CR:=
 cb.bc CR (call 27 [a0]) (fun v0=>
 cb.bv CR (z8 0 v0) fun v1=>
 cb.bv CR (z8 1 v0) fun v2=>
 cb.bv CR (z8 2 v0) fun v3=>
 cb.bv CR (bq .neq 41 (.tmp 20) (.const (.int .i64 (.ofNat 0))) v3 (.int .i64 (.ofNat 0))) fun v4=>
 j6 v4 (
 M.pure (.ret (.tuple ⟨[(.slice none 0 0),(.int .i64 (.ofNat 0)),v3,(.bool false)]⟩))) (
 d6T cb N call v1 a1)) l6
theorem d6C (cb:Cb) (N:Nat) (call:j4) (a0:Value) (a1:Value):d4u cb N call a0 a1=c5U cb N call a0 a1:=by
 simp only [d4u,c5U,l5]
noncomputable def b6R (cb:Cb) (N:Nat) (call:j4) (v2:Value) (xs3:List Value) (v6:Value):M R2:=
 cb.bv R2 (q8 v2) fun v7=>
 cb.bv R2 (l9 0 v7) fun v8=>
 cb.bv R2 (j5 v8) fun v9=>
 cb.bv R2 (b1c) fun v10=>
 cb.bv R2 (H7 [(2, 1)] [v10] [(.int .i64 (.ofNat 0)),(.slice none 0 0),(.map none)]) fun v11=>
 cb.bv R2 (U7 v11) fun v12=>
 cb.bv R2 (e0L A9 90 v9 (d9 xs3 12) v12) fun v13=>
 cb.bv R2 (bq .add 3 (.tmp 6) (.const (.int .i64 (.ofNat 1))) (d9 xs3 12) (.int .i64 (.ofNat 1))) fun v14=>
 M.pure (.normal, [v6,(d9 xs3 12),(d9 xs3 12),v2,v7,v8,v9,(d9 xs3 12),v10,v11,v12,v14,v14])
theorem d2e (cb:Cb) (N:Nat) (call:j4) (v2:Value) (xs3:List Value) (v6:Value):c6S cb N call v2 xs3 v6=b6R cb N call v2 xs3 v6:=by
 simp only [c6S,b6R,l5]
noncomputable def b4p (cb:Cb) (N:Nat) (call:j4) (v2:Value) (xs3:List Value):M R2:=
 cb.bv R2 (bq .lss 3 (.tmp 6) (.const (.int .i64 (.ofNat 9))) (d9 xs3 12) (.int .i64 (.ofNat 9))) fun v6=>
 j6 v6 (
 b6R cb N call v2 xs3 v6) (
 d7q cb N call v6 xs3)
theorem d0A (cb:Cb) (N:Nat) (call:j4) (v2:Value):c6x cb N call v2=b4p cb N call v2:=by
 funext xs3
 simp only [c6x,b4p,l5,d2e]
noncomputable def c2Z (cb:Cb) (N:Nat) (call:j4):M CR:=
 cb.bv CR (b1c) fun v0=>
 cb.bv CR (H7 [(0, 1)] [v0] [(.map none),(.slice none 0 0)]) fun v1=>
 cb.bv CR (U7 v1) fun v2=>
 cb.bj CR (cb.lp (b4p cb N call v2) N [undef,undef,undef,undef,undef,undef,undef,undef,undef,undef,undef,undef,(.int .i64 (.ofNat 0))]) fun x4 vs5=>
 l7 x4 (M.fail) (fun i15=>l8 (Nat.beq i15 0) (M.pure (.ret v2)) (M.fail)) (M.fail) l6
theorem d6f (cb:Cb) (N:Nat) (call:j4):d3e cb N call=c2Z cb N call:=by
 simp only [d3e,c2Z,d0A]
noncomputable def c3W (call:j4) (u0:Value) (u1:Value) (u2:Value) (u3:Value) (u4:Value) (u5:Value) (u6:Value) (u7:Value) (u8:Value) (u9:Value) (u10:Value):M R2:=
 M.bind (M.foot (M.pure u3)) fun y0=>
 M.bind (M.foot (bq .quo 23 (.tmp 9) (.const (.int .u64 (.ofNat 10))) y0.1 (.int .u64 (.ofNat 10)))) fun y1=>
 M.bind (M.foot (D7 call 25 [y1.1])) fun y2=>
 M.bind (M.foot (M.pure u3)) fun y3=>
 M.bind (M.foot (bq .rem 23 (.tmp 12) (.const (.int .u64 (.ofNat 10))) y3.1 (.int .u64 (.ofNat 10)))) fun y4=>
 M.bind (M.foot (M.pure u3)) fun y5=>
 M.bind (M.foot (bq .rem 23 (.tmp 14) (.const (.int .u64 (.ofNat 10))) y5.1 (.int .u64 (.ofNat 10)))) fun y6=>
 M.bind (M.foot (bq .add 23 (.tmp 15) (.const (.int .u64 (.ofNat 1))) y6.1 (.int .u64 (.ofNat 1)))) fun y7=>
 M.bind (M.foot (J4 (.string ⟨⟨[48, 49, 50, 51, 52, 53, 54, 55, 56, 57, 97, 98, 99, 100, 101, 102]⟩⟩) (some y4.1) (some y7.1))) fun y8=>
 M.bind (M.foot (bq .add 9 (.tmp 11) (.tmp 17) y2.1 y8.1)) fun y9=>
 M.bind (M.foot (M.pure y9.1)) fun y10=>
 M.guard (G9 [(0, 3),(1, 3),(2, 3),(0, 4),(1, 4),(2, 4),(0, 5),(1, 5),(2, 5),(3, 5),(4, 5),(0, 6),(1, 6),(2, 6),(3, 6),(4, 6),(0, 7),(1, 7),(2, 7),(3, 7),(4, 7),(0, 8),(1, 8),(2, 8)] [y0.2,y1.2,y2.2,y3.2,y4.2,y5.2,y6.2,y7.2,y8.2,y9.2,y10.2]) (M.pure (.normal, [y0.1,y1.1,y2.1,y3.1,y4.1,y5.1,y6.1,y7.1,y8.1,y9.1,y10.1]))
theorem d6k (call:j4) (u0:Value) (u1:Value) (u2:Value) (u3:Value) (u4:Value) (u5:Value) (u6:Value) (u7:Value) (u8:Value) (u9:Value) (u10:Value):c6b call u0 u1 u2 u3 u4 u5 u6 u7 u8 u9 u10=c3W call u0 u1 u2 u3 u4 u5 u6 u7 u8 u9 u10:=by
 simp only [c6b,c3W,l5,fun F hl=>G6 (ops:=a5a) (L:=[(0, 3),(1, 3),(2, 3),(0, 4),(1, 4),(2, 4),(0, 5),(1, 5),(2, 5),(3, 5),(4, 5),(0, 6),(1, 6),(2, 6),(3, 6),(4, 6),(0, 7),(1, 7),(2, 7),(3, 7),(4, 7),(0, 8),(1, 8),(2, 8)]) (n:=11) (by kernel_rfl) (by kernel_rfl) F hl,D9,F7]
noncomputable def b5v (cb:Cb) (N:Nat) (call:j4) (a0:Value):M CR:=
 cb.bv CR (bq .add 23 (.tmp 6) (.const (.int .u64 (.ofNat 1))) a0 (.int .u64 (.ofNat 1))) fun v1=>
 cb.bv CR (J4 (.string ⟨⟨[48, 49, 50, 51, 52, 53, 54, 55, 56, 57, 97, 98, 99, 100, 101, 102]⟩⟩) (some a0) (some v1)) fun v2=>
 M.pure (.ret v2)
theorem d1v (cb:Cb) (N:Nat) (call:j4) (a0:Value):c1d cb N call a0=b5v cb N call a0:=by
 simp only [c1d,b5v,l5]
noncomputable def b2j (cb:Cb) (N:Nat) (call:j4) (a0:Value):M CR:=
 cb.bj CR (c3W call undef undef undef a0 undef undef undef undef undef undef undef) fun _ vs3=>
 M.pure (.ret (d9 vs3 10))
theorem c9G (cb:Cb) (N:Nat) (call:j4) (a0:Value):c4s cb N call a0=b2j cb N call a0:=by
 simp only [c4s,b2j,d4t,d6k]
noncomputable def c3l (cb:Cb) (N:Nat) (call:j4) (a0:Value):M CR:=
 cb.bv CR (bq .lss 23 (.tmp 3) (.const (.int .u64 (.ofNat 10))) a0 (.int .u64 (.ofNat 10))) fun v0=>
 j6 v0 (
 b5v cb N call a0) (
 b2j cb N call a0)
theorem d5Z (cb:Cb) (N:Nat) (call:j4) (a0:Value):d6w cb N call a0=c3l cb N call a0:=by
 simp only [d6w,c3l,l5,d1v,c9G]
noncomputable def c1j (call:j4) (u0:Value) (u1:Value) (u2:Value) (u3:Value) (u4:Value) (u5:Value) (u6:Value):M R2:=
 M.bind (M.foot (l9 0 u2)) fun y0=>
 M.bind (M.foot (j5 y0.1)) fun y1=>
 M.bind (M.foot (l9 2 u2)) fun y2=>
 M.bind (M.foot (j5 y2.1)) fun y3=>
 M.bind (M.foot (l9 3 u2)) fun y4=>
 M.bind (M.foot (j5 y4.1)) fun y5=>
 M.bind (M.foot (M.pure y1.1)) fun y6=>
 M.bind (M.foot (M.pure y3.1)) fun y7=>
 M.bind (M.foot (M.pure y5.1)) fun y8=>
 M.guard (G9 [(0, 2),(1, 2),(0, 3),(1, 3),(0, 4),(1, 4),(2, 4),(3, 4),(0, 5),(1, 5),(2, 5),(3, 5),(2, 6),(3, 6),(4, 6),(5, 6),(4, 7),(5, 7)] [y0.2,y1.2,y2.2,y3.2,y4.2,y5.2,y6.2,y7.2,y8.2]) (M.pure (.normal, [y0.1,y1.1,y2.1,y3.1,y4.1,y5.1,y6.1,y7.1,y8.1]))
theorem d6y (call:j4) (u0:Value) (u1:Value) (u2:Value) (u3:Value) (u4:Value) (u5:Value) (u6:Value):c4j call u0 u1 u2 u3 u4 u5 u6=c1j call u0 u1 u2 u3 u4 u5 u6:=by
 simp only [c4j,c1j,l5,fun F hl=>G6 (ops:=a5T) (L:=[(0, 2),(1, 2),(0, 3),(1, 3),(0, 4),(1, 4),(2, 4),(3, 4),(0, 5),(1, 5),(2, 5),(3, 5),(2, 6),(3, 6),(4, 6),(5, 6),(4, 7),(5, 7)]) (n:=9) (by kernel_rfl) (by kernel_rfl) F hl,D9,F7]
noncomputable def b3B (cb:Cb) (N:Nat) (call:j4) (v1:Value):M CR:=
 cb.bc CR (call 65 [v1,(.int .i64 (.ofNat 0)),(.int .i64 (.ofNat 0)),(.int .i64 (.ofNat 0))]) (fun v5=>
 cb.bv CR (J6 [(.slice none 0 0),(.int .i64 (.ofNat 0)),(.int .i64 (.ofNat 0)),(.int .i64 (.ofNat 0))]) fun v6=>
 cb.bv CR (r9 4 v6 v5) fun v7=>
 cb.bj CR (c1j call undef undef v6 undef undef undef undef) fun _ vs8=>
 M.pure (.ret (.tuple ⟨[(d9 vs8 6),(d9 vs8 7),(d9 vs8 8)]⟩))) l6
theorem c9o (cb:Cb) (N:Nat) (call:j4) (v1:Value):c6Y cb N call v1=b3B cb N call v1:=by
 simp only [c6Y,b3B,d4H,d6y]
noncomputable def c1s (cb:Cb) (N:Nat) (call:j4) (a0:Value):M CR:=
 cb.bc CR (call 64 [a0]) (fun v0=>
 cb.bv CR (z8 0 v0) fun v1=>
 cb.bv CR (z8 1 v0) fun v2=>
 cb.bv CR (z8 2 v0) fun v3=>
 cb.bv CR (bq .neq 41 (.tmp 15) (.const (.int .i64 (.ofNat 0))) v3 (.int .i64 (.ofNat 0))) fun v4=>
 j6 v4 (
 M.pure (.ret (.tuple ⟨[(.slice none 0 0),v2,v3]⟩))) (
 b3B cb N call v1)) l6
theorem d5m (cb:Cb) (N:Nat) (call:j4) (a0:Value):d5F cb N call a0=c1s cb N call a0:=by
 simp only [d5F,c1s,l5,c9o]
noncomputable def b7n (call:j4) (u0:Value) (u1:Value) (u2:Value) (u3:Value) (u4:Value) (u5:Value) (u6:Value) (u7:Value) (u8:Value):M R2:=
 M.bind (M.foot (j5 u3)) fun y0=>
 M.bind (M.foot (q8 y0.1)) fun y1=>
 M.bind (M.foot (l9 3 y1.1)) fun y2=>
 M.bind (M.foot (j5 y2.1)) fun y3=>
 M.bind (M.foot (j5 u3)) fun y4=>
 M.bind (M.foot (q8 y4.1)) fun y5=>
 M.bind (M.foot (l9 4 y5.1)) fun y6=>
 M.bind (M.foot (j5 y6.1)) fun y7=>
 M.bind (M.foot (M.pure (.slice none 0 0))) fun y8=>
 M.bind (M.foot (M.pure y3.1)) fun y9=>
 M.bind (M.foot (M.pure y7.1)) fun y10=>
 M.guard (G9 [(0, 4),(1, 4),(2, 4),(3, 4),(0, 5),(1, 5),(2, 5),(3, 5),(0, 6),(1, 6),(2, 6),(3, 6),(0, 7),(1, 7),(2, 7),(3, 7),(0, 8),(1, 8),(2, 8),(3, 8),(4, 8),(5, 8),(6, 8),(7, 8),(4, 9),(5, 9),(6, 9),(7, 9)] [y0.2,y1.2,y2.2,y3.2,y4.2,y5.2,y6.2,y7.2,y8.2,y9.2,y10.2]) (M.pure (.normal, [y0.1,y1.1,y2.1,y3.1,y4.1,y5.1,y6.1,y7.1,y8.1,y9.1,y10.1]))
theorem d1J (call:j4) (u0:Value) (u1:Value) (u2:Value) (u3:Value) (u4:Value) (u5:Value) (u6:Value) (u7:Value) (u8:Value):b2F call u0 u1 u2 u3 u4 u5 u6 u7 u8=b7n call u0 u1 u2 u3 u4 u5 u6 u7 u8:=by
 simp only [b2F,b7n,l5,fun F hl=>G6 (ops:=a3t) (L:=[(0, 4),(1, 4),(2, 4),(3, 4),(0, 5),(1, 5),(2, 5),(3, 5),(0, 6),(1, 6),(2, 6),(3, 6),(0, 7),(1, 7),(2, 7),(3, 7),(0, 8),(1, 8),(2, 8),(3, 8),(4, 8),(5, 8),(6, 8),(7, 8),(4, 9),(5, 9),(6, 9),(7, 9)]) (n:=11) (by kernel_rfl) (by kernel_rfl) F hl,D9,F7]
noncomputable def b7W (cb:Cb) (N:Nat) (call:j4) (a1:Value) (xs16:List Value) (v19:Value):M R2:=
 cb.bc R2 (call 77 [a1]) (fun v20=>
 cb.bv R2 (bq .add 3 (.tmp 24) (.const (.int .i64 (.ofNat 1))) (d9 xs16 4) (.int .i64 (.ofNat 1))) fun v21=>
 M.pure (.normal, [v19,a1,v20,v21,v21])) l6
theorem c8n (cb:Cb) (N:Nat) (call:j4) (a1:Value) (xs16:List Value) (v19:Value):c6w cb N call a1 xs16 v19=b7W cb N call a1 xs16 v19:=by
 simp only [c6w,b7W,l5]
noncomputable def b5H (cb:Cb) (N:Nat) (call:j4) (v15:Value) (a1:Value) (xs16:List Value):M R2:=
 cb.bv R2 (bq .lss 3 (.tmp 24) (.tmp 23) (d9 xs16 4) v15) fun v19=>
 j6 v19 (
 b7W cb N call a1 xs16 v19) (
 M.pure (.exit 0, [v19,(d9 xs16 1),(d9 xs16 2),(d9 xs16 3),(d9 xs16 4)]))
theorem c9d (cb:Cb) (N:Nat) (call:j4) (v15:Value) (a1:Value):c7E cb N call v15 a1=b5H cb N call v15 a1:=by
 funext xs16
 simp only [c7E,b5H,l5,c8n]
noncomputable def b3C (cb:Cb) (N:Nat) (call:j4) (v3:Value):M CR:=
 cb.bj CR (b7n call undef undef undef v3 undef undef undef undef undef) fun _ vs28=>
 M.pure (.ret (.tuple ⟨[(d9 vs28 8),(d9 vs28 9),(d9 vs28 10)]⟩))
theorem d2P (cb:Cb) (N:Nat) (call:j4) (v3:Value):c3D cb N call v3=b3C cb N call v3:=by
 simp only [c3D,b3C,d1N,d1J]
noncomputable def b6w (cb:Cb) (N:Nat) (call:j4) (v14:Value) (a1:Value) (v3:Value):M CR:=
 cb.bv CR (j5 v14) fun v15=>
 cb.bj CR (cb.lp (b5H cb N call v15 a1) N [undef,undef,undef,undef,(.int .i64 (.ofNat 0))]) fun x17 vs18=>
 l7 x17 (M.fail) (fun i22=>l8 (Nat.beq i22 0) (cb.bv CR (j5 v3) fun v23=>
 cb.bv CR (q8 v23) fun v24=>
 cb.bv CR (l9 4 v24) fun v25=>
 cb.bv CR (j5 v25) fun v26=>
 cb.bv CR (bq .neq 41 (.tmp 32) (.const (.int .i64 (.ofNat 0))) v26 (.int .i64 (.ofNat 0))) fun v27=>
 j6 v27 (
 b3C cb N call v3) (
 d6G cb N call v3)) (M.fail)) (M.fail) l6
theorem d2R (cb:Cb) (N:Nat) (call:j4) (v14:Value) (a1:Value) (v3:Value):c1R cb N call v14 a1 v3=b6w cb N call v14 a1 v3:=by
 simp only [c1R,b6w,l5,c9d,d2P]
noncomputable def b1S (cb:Cb) (N:Nat) (call:j4) (a1:Value) (a0:Value):M CR:=
 cb.bv CR (H7 [(0, 1)] [a1] [(.pointer none),(.slice none 0 0),(.int .i64 (.ofNat 0)),(.int .i64 (.ofNat 0)),(.int .i64 (.ofNat 0)),.nilFunc]) fun v1=>
 cb.bv CR (U7 v1) fun v2=>
 cb.bv CR (J6 [(.pointer none)]) fun v3=>
 cb.bv CR (r9 1 v3 v2) fun v4=>
 cb.bv CR (j5 v3) fun v5=>
 cb.bv CR (d7s (.func 71) [] [v3]) fun v6=>
 cb.bv CR (q8 v5) fun v7=>
 cb.bv CR (l9 5 v7) fun v8=>
 cb.bv CR (r9 1 v8 v6) fun v9=>
 cb.bv CR (j5 v3) fun v10=>
 cb.bc CR (call 76 [v10,a0]) (fun v11=>
 cb.bv CR (j5 v3) fun v12=>
 cb.bv CR (q8 v12) fun v13=>
 cb.bv CR (l9 2 v13) fun v14=>
 b6w cb N call v14 a1 v3) l6
theorem d0F (cb:Cb) (N:Nat) (call:j4) (a1:Value) (a0:Value):c2m cb N call a1 a0=b1S cb N call a1 a0:=by
 simp only [c2m,b1S,d2R]
noncomputable def c3L (cb:Cb) (N:Nat) (call:j4) (a0:Value) (a1:Value):M CR:=
 cb.bv CR (bq .eql 44 (.tmp 8) (.const (.pointer none)) a1 (.pointer none)) fun v0=>
 j6 v0 (
 M.pure (.ret (.tuple ⟨[(.slice none 0 0),(.int .i64 (.ofNat 0)),(.int .i64 (.ofNat 2))]⟩))) (
 b1S cb N call a1 a0)
theorem d4p (cb:Cb) (N:Nat) (call:j4) (a0:Value) (a1:Value):d5J cb N call a0 a1=c3L cb N call a0 a1:=by
 simp only [d5J,c3L,l5,d0F]
noncomputable def c6o (call:j4) (u0:Value) (u1:Value) (u2:Value) (u3:Value) (u4:Value) (u5:Value) (u6:Value) (u7:Value) (u8:Value) (u9:Value) (u10:Value) (u11:Value) (u12:Value) (u13:Value) (u14:Value) (u15:Value) (u16:Value) (u17:Value) (u18:Value) (u19:Value) (u20:Value) (u21:Value) (u22:Value) (u23:Value) (u24:Value) (u25:Value) (u26:Value) (u27:Value):M R2:=
 M.bind (M.foot (M.pure u0)) fun y0=>
 M.bind (M.foot (M.pure u13)) fun y1=>
 M.bind (M.foot (M.pure u14)) fun y2=>
 M.bind (M.foot (F3 4 y1.1 y2.1)) fun y3=>
 M.bind (M.foot (l9 0 y3.1)) fun y4=>
 M.bind (M.foot (j5 y4.1)) fun y5=>
 M.bind (M.foot (M.pure u13)) fun y6=>
 M.bind (M.foot (M.pure u14)) fun y7=>
 M.bind (M.foot (F3 4 y6.1 y7.1)) fun y8=>
 M.bind (M.foot (l9 1 y8.1)) fun y9=>
 M.bind (M.foot (j5 y9.1)) fun y10=>
 M.bind (M.foot (M.pure u13)) fun y11=>
 M.bind (M.foot (M.pure u14)) fun y12=>
 M.bind (M.foot (F3 4 y11.1 y12.1)) fun y13=>
 M.bind (M.foot (l9 2 y13.1)) fun y14=>
 M.bind (M.foot (j5 y14.1)) fun y15=>
 M.bind (M.foot (M.pure u13)) fun y16=>
 M.bind (M.foot (M.pure u14)) fun y17=>
 M.bind (M.foot (F3 4 y16.1 y17.1)) fun y18=>
 M.bind (M.foot (l9 3 y18.1)) fun y19=>
 M.bind (M.foot (j5 y19.1)) fun y20=>
 M.bind (M.foot (D7 call 30 [y20.1])) fun y21=>
 M.bind (M.foot (H7 [(0, 1),(1, 1),(2, 1),(3, 1)] [y5.1,y10.1,y15.1,y21.1] [(.int .i64 (.ofNat 0)),(.int .i64 (.ofNat 0)),(.string ⟨⟨[]⟩⟩),(.slice none 0 0)])) fun y22=>
 M.bind (M.foot (H8 4 1 [(0, 4)] [y22.1] [(.int .i64 (.ofNat 0)),(.int .i64 (.ofNat 0)),(.string ⟨⟨[]⟩⟩),(.slice none 0 0)])) fun y23=>
 M.bind (M.foot (Q9 c5C y0.1 y23.1)) fun y24=>
 M.bind (M.foot (M.pure y24.1)) fun y25=>
 M.guard (G9 [(0, 1),(0, 2),(1, 2),(0, 3),(0, 4),(0, 5),(0, 6),(1, 6),(2, 6),(3, 6),(4, 6),(5, 6),(0, 7),(1, 7),(2, 7),(3, 7),(4, 7),(5, 7),(6, 7),(0, 8),(1, 8),(2, 8),(3, 8),(4, 8),(5, 8),(0, 9),(1, 9),(2, 9),(3, 9),(4, 9),(5, 9),(0, 10),(1, 10),(2, 10),(3, 10),(4, 10),(5, 10),(0, 11),(1, 11),(2, 11),(3, 11),(4, 11),(5, 11),(6, 11),(7, 11),(8, 11),(9, 11),(10, 11),(0, 12),(1, 12),(2, 12),(3, 12),(4, 12),(5, 12),(6, 12),(7, 12),(8, 12),(9, 12),(10, 12),(11, 12),(0, 13),(1, 13),(2, 13),(3, 13),(4, 13),(5, 13),(6, 13),(7, 13),(8, 13),(9, 13),(10, 13),(0, 14),(1, 14),(2, 14),(3, 14),(4, 14),(5, 14),(6, 14),(7, 14),(8, 14),(9, 14),(10, 14),(0, 15),(1, 15),(2, 15),(3, 15),(4, 15),(5, 15),(6, 15),(7, 15),(8, 15),(9, 15),(10, 15),(0, 16),(1, 16),(2, 16),(3, 16),(4, 16),(5, 16),(6, 16),(7, 16),(8, 16),(9, 16),(10, 16),(11, 16),(12, 16),(13, 16),(14, 16),(15, 16),(0, 17),(1, 17),(2, 17),(3, 17),(4, 17),(5, 17),(6, 17),(7, 17),(8, 17),(9, 17),(10, 17),(11, 17),(12, 17),(13, 17),(14, 17),(15, 17),(16, 17),(0, 18),(1, 18),(2, 18),(3, 18),(4, 18),(5, 18),(6, 18),(7, 18),(8, 18),(9, 18),(10, 18),(11, 18),(12, 18),(13, 18),(14, 18),(15, 18),(0, 19),(1, 19),(2, 19),(3, 19),(4, 19),(5, 19),(6, 19),(7, 19),(8, 19),(9, 19),(10, 19),(11, 19),(12, 19),(13, 19),(14, 19),(15, 19),(0, 20),(1, 20),(2, 20),(3, 20),(4, 20),(5, 20),(6, 20),(7, 20),(8, 20),(9, 20),(10, 20),(11, 20),(12, 20),(13, 20),(14, 20),(15, 20),(0, 21),(1, 21),(2, 21),(3, 21),(4, 21),(5, 21),(6, 21),(7, 21),(8, 21),(9, 21),(10, 21),(11, 21),(12, 21),(13, 21),(14, 21),(15, 21),(0, 22),(0, 23)] [y0.2,y1.2,y2.2,y3.2,y4.2,y5.2,y6.2,y7.2,y8.2,y9.2,y10.2,y11.2,y12.2,y13.2,y14.2,y15.2,y16.2,y17.2,y18.2,y19.2,y20.2,y21.2,y22.2,y23.2,y24.2,y25.2]) (M.pure (.normal, [y0.1,y1.1,y2.1,y3.1,y4.1,y5.1,y6.1,y7.1,y8.1,y9.1,y10.1,y11.1,y12.1,y13.1,y14.1,y15.1,y16.1,y17.1,y18.1,y19.1,y20.1,y21.1,y22.1,y23.1,y24.1,y25.1]))
theorem d4Y (call:j4) (u0:Value) (u1:Value) (u2:Value) (u3:Value) (u4:Value) (u5:Value) (u6:Value) (u7:Value) (u8:Value) (u9:Value) (u10:Value) (u11:Value) (u12:Value) (u13:Value) (u14:Value) (u15:Value) (u16:Value) (u17:Value) (u18:Value) (u19:Value) (u20:Value) (u21:Value) (u22:Value) (u23:Value) (u24:Value) (u25:Value) (u26:Value) (u27:Value):c2n call u0 u1 u2 u3 u4 u5 u6 u7 u8 u9 u10 u11 u12 u13 u14 u15 u16 u17 u18 u19 u20 u21 u22 u23 u24 u25 u26 u27=c6o call u0 u1 u2 u3 u4 u5 u6 u7 u8 u9 u10 u11 u12 u13 u14 u15 u16 u17 u18 u19 u20 u21 u22 u23 u24 u25 u26 u27:=by
 simp only [c2n,c6o,l5,fun F hl=>G6 (ops:=a5Q) (L:=[(0, 1),(0, 2),(1, 2),(0, 3),(0, 4),(0, 5),(0, 6),(1, 6),(2, 6),(3, 6),(4, 6),(5, 6),(0, 7),(1, 7),(2, 7),(3, 7),(4, 7),(5, 7),(6, 7),(0, 8),(1, 8),(2, 8),(3, 8),(4, 8),(5, 8),(0, 9),(1, 9),(2, 9),(3, 9),(4, 9),(5, 9),(0, 10),(1, 10),(2, 10),(3, 10),(4, 10),(5, 10),(0, 11),(1, 11),(2, 11),(3, 11),(4, 11),(5, 11),(6, 11),(7, 11),(8, 11),(9, 11),(10, 11),(0, 12),(1, 12),(2, 12),(3, 12),(4, 12),(5, 12),(6, 12),(7, 12),(8, 12),(9, 12),(10, 12),(11, 12),(0, 13),(1, 13),(2, 13),(3, 13),(4, 13),(5, 13),(6, 13),(7, 13),(8, 13),(9, 13),(10, 13),(0, 14),(1, 14),(2, 14),(3, 14),(4, 14),(5, 14),(6, 14),(7, 14),(8, 14),(9, 14),(10, 14),(0, 15),(1, 15),(2, 15),(3, 15),(4, 15),(5, 15),(6, 15),(7, 15),(8, 15),(9, 15),(10, 15),(0, 16),(1, 16),(2, 16),(3, 16),(4, 16),(5, 16),(6, 16),(7, 16),(8, 16),(9, 16),(10, 16),(11, 16),(12, 16),(13, 16),(14, 16),(15, 16),(0, 17),(1, 17),(2, 17),(3, 17),(4, 17),(5, 17),(6, 17),(7, 17),(8, 17),(9, 17),(10, 17),(11, 17),(12, 17),(13, 17),(14, 17),(15, 17),(16, 17),(0, 18),(1, 18),(2, 18),(3, 18),(4, 18),(5, 18),(6, 18),(7, 18),(8, 18),(9, 18),(10, 18),(11, 18),(12, 18),(13, 18),(14, 18),(15, 18),(0, 19),(1, 19),(2, 19),(3, 19),(4, 19),(5, 19),(6, 19),(7, 19),(8, 19),(9, 19),(10, 19),(11, 19),(12, 19),(13, 19),(14, 19),(15, 19),(0, 20),(1, 20),(2, 20),(3, 20),(4, 20),(5, 20),(6, 20),(7, 20),(8, 20),(9, 20),(10, 20),(11, 20),(12, 20),(13, 20),(14, 20),(15, 20),(0, 21),(1, 21),(2, 21),(3, 21),(4, 21),(5, 21),(6, 21),(7, 21),(8, 21),(9, 21),(10, 21),(11, 21),(12, 21),(13, 21),(14, 21),(15, 21),(0, 22),(0, 23)]) (n:=26) (by kernel_rfl) (by kernel_rfl) F hl,D9,F7]
noncomputable def b5V (cb:Cb) (N:Nat) (call:j4) (xs0:List Value) (a0:Value) (v3:Value) (v4:Value) (vs5:List Value):M R2:=
 cb.bv R2 (bq .add 3 (.tmp 9) (.const (.int .i64 (.ofNat 1))) (d9 xs0 32) (.int .i64 (.ofNat 1))) fun v6=>
 M.pure (.normal, [(d9 xs0 32),a0,v3,v4,(d9 vs5 0),(d9 vs5 1),(d9 vs5 2),(d9 vs5 3),(d9 vs5 4),(d9 vs5 5),(d9 vs5 6),(d9 vs5 7),(d9 vs5 8),(d9 vs5 9),(d9 vs5 10),(d9 vs5 11),(d9 vs5 12),(d9 vs5 13),(d9 vs5 14),(d9 vs5 15),(d9 vs5 16),(d9 vs5 17),(d9 vs5 18),(d9 vs5 19),(d9 vs5 20),(d9 vs5 21),(d9 vs5 22),(d9 vs5 23),(d9 vs5 24),(d9 vs5 25),(d9 xs0 32),v6,v6])
theorem d0k (cb:Cb) (N:Nat) (call:j4) (xs0:List Value) (a0:Value) (v3:Value) (v4:Value) (vs5:List Value):c6H cb N call xs0 a0 v3 v4 vs5=b5V cb N call xs0 a0 v3 v4 vs5:=by
 simp only [c6H,b5V,l5]
noncomputable def b8w (cb:Cb) (N:Nat) (call:j4) (xs0:List Value) (a0:Value) (v3:Value) (v4:Value):M R2:=
 cb.bj R2 (c6o call (d9 xs0 29) (d9 xs0 5) (d9 xs0 6) (d9 xs0 7) (d9 xs0 8) (d9 xs0 10) (d9 xs0 11) (d9 xs0 12) (d9 xs0 13) (d9 xs0 15) (d9 xs0 16) (d9 xs0 17) (d9 xs0 18) a0 (d9 xs0 32) (d9 xs0 20) (d9 xs0 21) (d9 xs0 22) (d9 xs0 23) (d9 xs0 24) (d9 xs0 9) (d9 xs0 14) (d9 xs0 19) (d9 xs0 25) (d9 xs0 26) (d9 xs0 4) (d9 xs0 27) (d9 xs0 28)) fun _ vs5=>
 b5V cb N call xs0 a0 v3 v4 vs5
theorem c8t (cb:Cb) (N:Nat) (call:j4) (xs0:List Value) (a0:Value) (v3:Value) (v4:Value):c0C cb N call xs0 a0 v3 v4=b8w cb N call xs0 a0 v3 v4:=by
 simp only [c0C,b8w,d5Q,d4Y,d0k]
noncomputable def b8f (cb:Cb) (N:Nat) (call:j4) (a0:Value) (xs0:List Value):M R2:=
 cb.bv R2 (H6 a0) fun v3=>
 cb.bv R2 (bq .lss 3 (.tmp 5) (.tmp 7) (d9 xs0 32) v3) fun v4=>
 j6 v4 (
 b8w cb N call xs0 a0 v3 v4) (
 d6U cb N call xs0 a0 v3 v4)
theorem d0R (cb:Cb) (N:Nat) (call:j4) (a0:Value):c4B cb N call a0=b8f cb N call a0:=by
 funext xs0
 simp only [c4B,b8f,l5,c8t]
noncomputable def c4F (cb:Cb) (N:Nat) (call:j4) (a0:Value):M CR:=
 cb.bj CR (cb.lp (b8f cb N call a0) N [undef,undef,undef,undef,undef,undef,undef,undef,undef,undef,undef,undef,undef,undef,undef,undef,undef,undef,undef,undef,undef,undef,undef,undef,undef,undef,undef,undef,undef,(.slice none 0 0),undef,undef,(.int .i64 (.ofNat 0))]) fun x1 vs2=>
 l7 x1 (M.fail) (fun i7=>l8 (Nat.beq i7 0) (M.pure (.ret (d9 vs2 29))) (M.fail)) (M.fail) l6
theorem d3C (cb:Cb) (N:Nat) (call:j4) (a0:Value):d3z cb N call a0=c4F cb N call a0:=by
 simp only [d3z,c4F,d0R]
noncomputable def c3k (call:j4) (u0:Value) (u1:Value) (u2:Value) (u3:Value) (u4:Value) (u5:Value) (u6:Value) (u7:Value) (u8:Value) (u9:Value) (u10:Value) (u11:Value) (u12:Value) (u13:Value) (u14:Value) (u15:Value) (u16:Value) (u17:Value):M R2:=
 M.bind (M.foot (M.pure u3)) fun y0=>
 M.bind (M.foot (q8 y0.1)) fun y1=>
 M.bind (M.foot (l9 1 y1.1)) fun y2=>
 M.bind (M.foot (j5 y2.1)) fun y3=>
 M.bind (M.foot (M.pure u3)) fun y4=>
 M.bind (M.foot (q8 y4.1)) fun y5=>
 M.bind (M.foot (l9 1 y5.1)) fun y6=>
 M.bind (M.foot (j5 y6.1)) fun y7=>
 M.bind (M.foot (H6 y7.1)) fun y8=>
 M.bind (M.foot (bq .sub 3 (.tmp 33) (.const (.int .i64 (.ofNat 1))) y8.1 (.int .i64 (.ofNat 1)))) fun y9=>
 M.bind (M.foot (M.pure u9)) fun y10=>
 M.bind (M.foot (bq .sub 3 (.tmp 34) (.tmp 35) y9.1 y10.1)) fun y11=>
 M.bind (M.foot (F3 1 y3.1 y11.1)) fun y12=>
 M.bind (M.foot (j5 y12.1)) fun y13=>
 M.bind (M.foot (M.pure u15)) fun y14=>
 M.bind (M.foot (bq .eql 9 (.tmp 38) (.tmp 39) y13.1 y14.1)) fun y15=>
 M.guard (G9 [(0, 4),(1, 4),(2, 4),(3, 4),(0, 5),(1, 5),(2, 5),(3, 5),(0, 6),(1, 6),(2, 6),(3, 6),(0, 7),(1, 7),(2, 7),(3, 7),(0, 8),(1, 8),(2, 8),(3, 8),(0, 9),(1, 9),(2, 9),(3, 9),(0, 10),(1, 10),(2, 10),(3, 10),(4, 10),(5, 10),(6, 10),(7, 10),(8, 10),(9, 10),(0, 11),(1, 11),(2, 11),(3, 11),(0, 14),(1, 14),(2, 14),(3, 14),(4, 14),(5, 14),(6, 14),(7, 14),(8, 14),(9, 14),(10, 14),(11, 14),(12, 14),(13, 14)] [y0.2,y1.2,y2.2,y3.2,y4.2,y5.2,y6.2,y7.2,y8.2,y9.2,y10.2,y11.2,y12.2,y13.2,y14.2,y15.2]) (M.pure (.normal, [y0.1,y1.1,y2.1,y3.1,y4.1,y5.1,y6.1,y7.1,y8.1,y9.1,y10.1,y11.1,y12.1,y13.1,y14.1,y15.1]))
theorem d3x (call:j4) (u0:Value) (u1:Value) (u2:Value) (u3:Value) (u4:Value) (u5:Value) (u6:Value) (u7:Value) (u8:Value) (u9:Value) (u10:Value) (u11:Value) (u12:Value) (u13:Value) (u14:Value) (u15:Value) (u16:Value) (u17:Value):c2N call u0 u1 u2 u3 u4 u5 u6 u7 u8 u9 u10 u11 u12 u13 u14 u15 u16 u17=c3k call u0 u1 u2 u3 u4 u5 u6 u7 u8 u9 u10 u11 u12 u13 u14 u15 u16 u17:=by
 simp only [c2N,c3k,l5,fun F hl=>G6 (ops:=a5d) (L:=[(0, 4),(1, 4),(2, 4),(3, 4),(0, 5),(1, 5),(2, 5),(3, 5),(0, 6),(1, 6),(2, 6),(3, 6),(0, 7),(1, 7),(2, 7),(3, 7),(0, 8),(1, 8),(2, 8),(3, 8),(0, 9),(1, 9),(2, 9),(3, 9),(0, 10),(1, 10),(2, 10),(3, 10),(4, 10),(5, 10),(6, 10),(7, 10),(8, 10),(9, 10),(0, 11),(1, 11),(2, 11),(3, 11),(0, 14),(1, 14),(2, 14),(3, 14),(4, 14),(5, 14),(6, 14),(7, 14),(8, 14),(9, 14),(10, 14),(11, 14),(12, 14),(13, 14)]) (n:=16) (by kernel_rfl) (by kernel_rfl) F hl,D9,F7]
noncomputable def b7y (cb:Cb) (N:Nat) (call:j4) (xs11:List Value) (v14:Value) (vs15:List Value):M R2:=
 cb.bv R2 (bq .add 3 (.tmp 22) (.const (.int .i64 (.ofNat 1))) (d9 xs11 23) (.int .i64 (.ofNat 1))) fun v16=>
 M.pure (.normal, [v14,(d9 xs11 23),(d9 xs11 23),(d9 vs15 0),(d9 vs15 1),(d9 vs15 2),(d9 vs15 3),(d9 vs15 4),(d9 vs15 5),(d9 vs15 6),(d9 vs15 7),(d9 vs15 8),(d9 vs15 9),(d9 vs15 10),(d9 vs15 11),(d9 vs15 12),(d9 vs15 13),(d9 vs15 14),(d9 vs15 15),(d9 xs11 19),(d9 xs11 20),(d9 xs11 21),v16,v16])
theorem d0s (cb:Cb) (N:Nat) (call:j4) (xs11:List Value) (v14:Value) (vs15:List Value):c5V cb N call xs11 v14 vs15=b7y cb N call xs11 v14 vs15:=by
 simp only [c5V,b7y,l5]
noncomputable def b7Q (cb:Cb) (N:Nat) (call:j4) (xs11:List Value) (a0:Value) (a1:Value) (v14:Value):M R2:=
 cb.bj R2 (c3k call (d9 xs11 3) (d9 xs11 4) (d9 xs11 5) a0 (d9 xs11 7) (d9 xs11 8) (d9 xs11 9) (d9 xs11 10) (d9 xs11 11) (d9 xs11 23) (d9 xs11 12) (d9 xs11 13) (d9 xs11 6) (d9 xs11 14) (d9 xs11 15) a1 (d9 xs11 16) (d9 xs11 17)) fun _ vs15=>
 j6 (d9 vs15 15) (
 d6L cb N call v14 xs11 vs15) (
 b7y cb N call xs11 v14 vs15)
theorem d0b (cb:Cb) (N:Nat) (call:j4) (xs11:List Value) (a0:Value) (a1:Value) (v14:Value):c6s cb N call xs11 a0 a1 v14=b7Q cb N call xs11 a0 a1 v14:=by
 simp only [c6s,b7Q,d5s,d3x,d0s]
noncomputable def b8e (cb:Cb) (N:Nat) (call:j4) (v10:Value) (a0:Value) (a1:Value) (xs11:List Value):M R2:=
 cb.bv R2 (bq .lss 3 (.tmp 22) (.tmp 21) (d9 xs11 23) v10) fun v14=>
 j6 v14 (
 b7Q cb N call xs11 a0 a1 v14) (
 d7y cb N call v14 xs11)
theorem c8f (cb:Cb) (N:Nat) (call:j4) (v10:Value) (a0:Value) (a1:Value):c1o cb N call v10 a0 a1=b8e cb N call v10 a0 a1:=by
 funext xs11
 simp only [c1o,b8e,l5,d0b]
noncomputable def b1y (cb:Cb) (N:Nat) (call:j4) (v9:Value) (a0:Value) (a1:Value):M CR:=
 cb.bv CR (H6 v9) fun v10=>
 cb.bj CR (cb.lp (b8e cb N call v10 a0 a1) N [undef,undef,undef,undef,undef,undef,undef,undef,undef,undef,undef,undef,undef,undef,undef,undef,undef,undef,undef,undef,(.int .i64 (.ofNat 0)),(.int .i64 (.ofNat 0)),undef,(.int .i64 (.ofNat 0))]) fun x12 vs13=>
 l7 x12 (M.fail) (fun i17=>l8 (Nat.beq i17 0) (M.pure (.ret (.tuple ⟨[(.int .i64 (.ofNat 0)),(.int .i64 (.ofNat 24))]⟩))) (M.fail)) (M.pure (.ret (.tuple ⟨[(d9 vs13 20),(d9 vs13 21)]⟩))) l6
theorem d0Z (cb:Cb) (N:Nat) (call:j4) (v9:Value) (a0:Value) (a1:Value):c1x cb N call v9 a0 a1=b1y cb N call v9 a0 a1:=by
 simp only [c1x,b1y,c8f]
noncomputable def b5I (cb:Cb) (N:Nat) (call:j4) (a1:Value) (a0:Value):M CR:=
 cb.bc CR (call 80 [a1,(.string ⟨⟨[36]⟩⟩)]) (fun v2=>
 cb.bv CR (un .not v2) fun v3=>
 j6 v3 (
 d6P cb N call a1) (
 cb.bv CR (q8 a0) fun v7=>
 cb.bv CR (l9 1 v7) fun v8=>
 cb.bv CR (j5 v8) fun v9=>
 b1y cb N call v9 a0 a1)) l6
theorem d2M (cb:Cb) (N:Nat) (call:j4) (a1:Value) (a0:Value):c2X cb N call a1 a0=b5I cb N call a1 a0:=by
 simp only [c2X,b5I,d0Z]
noncomputable def c6G (cb:Cb) (N:Nat) (call:j4) (a0:Value) (a1:Value):M CR:=
 cb.bc CR (call 79 [a0]) (fun v0=>
 cb.bv CR (un .not v0) fun v1=>
 j6 v1 (
 M.pure (.ret (.tuple ⟨[(.int .i64 (.ofNat 0)),(.int .i64 (.ofNat 2))]⟩))) (
 b5I cb N call a1 a0)) l6
theorem d6p (cb:Cb) (N:Nat) (call:j4) (a0:Value) (a1:Value):d3G cb N call a0 a1=c6G cb N call a0 a1:=by
 simp only [d3G,c6G,d2M]
noncomputable def b5K (cb:Cb) (N:Nat) (call:j4) (a0:Value) (v2:Value):M R2:=
 cb.bv R2 (bq .eql 22 (.tmp 3) (.const (.int .i64 (.ofNat 3))) a0 (.int .i64 (.ofNat 3))) fun v3=>
 j6 v3 (
 M.pure (.normal, [v2,v3,undef,v3])) (
 cb.bv R2 (bq .eql 22 (.tmp 3) (.const (.int .i64 (.ofNat 4))) a0 (.int .i64 (.ofNat 4))) fun v4=>
 M.pure (.normal, [v2,v3,v4,v4]))
theorem d0q (cb:Cb) (N:Nat) (call:j4) (a0:Value) (v2:Value):c2a cb N call a0 v2=b5K cb N call a0 v2:=by
 simp only [c2a,b5K,l5]
noncomputable def b8i (cb:Cb) (N:Nat) (call:j4) (a0:Value) (v18:Value):M R2:=
 cb.bv R2 (bq .eql 22 (.tmp 3) (.const (.int .i64 (.ofNat 33))) a0 (.int .i64 (.ofNat 33))) fun v19=>
 j6 v19 (
 M.pure (.normal, [v18,v19,undef,v19])) (
 cb.bv R2 (bq .eql 22 (.tmp 3) (.const (.int .i64 (.ofNat 34))) a0 (.int .i64 (.ofNat 34))) fun v20=>
 M.pure (.normal, [v18,v19,v20,v20]))
theorem c9C (cb:Cb) (N:Nat) (call:j4) (a0:Value) (v18:Value):c3A cb N call a0 v18=b8i cb N call a0 v18:=by
 simp only [c3A,b8i,l5]
noncomputable def b6A (cb:Cb) (N:Nat) (call:j4) (a0:Value):M CR:=
 cb.bc CR (call 91 [a0]) (fun v28=>
 cb.bv CR (bq .gtr 3 (.tmp 34) (.const (.int .i64 (.ofNat 0))) v28 (.int .i64 (.ofNat 0))) fun v29=>
 j6 v29 (
 M.pure (.ret (.int .i64 (.ofNat 17)))) (
 cb.bc CR (call 92 [a0]) (fun v30=>
 M.pure (.ret v30)) l6)) l6
theorem d0v (cb:Cb) (N:Nat) (call:j4) (a0:Value):c3r cb N call a0=b6A cb N call a0:=by
 simp only [c3r,b6A,l5]
noncomputable def b1z (cb:Cb) (N:Nat) (call:j4) (a0:Value):M CR:=
 cb.bv CR (bq .eql 22 (.tmp 3) (.const (.int .i64 (.ofNat 208))) a0 (.int .i64 (.ofNat 208))) fun v27=>
 j6 v27 (
 M.pure (.ret (.int .i64 (.ofNat 20)))) (
 b6A cb N call a0)
theorem d1E (cb:Cb) (N:Nat) (call:j4) (a0:Value):c3P cb N call a0=b1z cb N call a0:=by
 simp only [c3P,b1z,l5,d0v]
noncomputable def b2P (cb:Cb) (N:Nat) (call:j4) (a0:Value):M CR:=
 cb.bv CR (bq .eql 22 (.tmp 3) (.const (.int .i64 (.ofNat 66))) a0 (.int .i64 (.ofNat 66))) fun v26=>
 j6 v26 (
 M.pure (.ret (.int .i64 (.ofNat 19)))) (
 b1z cb N call a0)
theorem c9q (cb:Cb) (N:Nat) (call:j4) (a0:Value):c5m cb N call a0=b2P cb N call a0:=by
 simp only [c5m,b2P,l5,d1E]
noncomputable def b5Z (cb:Cb) (N:Nat) (call:j4) (a0:Value):M CR:=
 cb.bv CR (bq .eql 22 (.tmp 3) (.const (.int .i64 (.ofNat 65))) a0 (.int .i64 (.ofNat 65))) fun v25=>
 j6 v25 (
 M.pure (.ret (.int .i64 (.ofNat 18)))) (
 b2P cb N call a0)
theorem d0t (cb:Cb) (N:Nat) (call:j4) (a0:Value):c6Q cb N call a0=b5Z cb N call a0:=by
 simp only [c6Q,b5Z,l5,c9q]
noncomputable def b6z (cb:Cb) (N:Nat) (call:j4) (a0:Value):M CR:=
 cb.bj CR (cb.bv R2 (bq .eql 22 (.tmp 3) (.const (.int .i64 (.ofNat 35))) a0 (.int .i64 (.ofNat 35))) fun v23=>
 j6 v23 (
 M.pure (.normal, [v23,undef,v23])) (
 cb.bv R2 (bq .eql 22 (.tmp 3) (.const (.int .i64 (.ofNat 36))) a0 (.int .i64 (.ofNat 36))) fun v24=>
 M.pure (.normal, [v23,v24,v24]))) fun x21 vs22=>
 l7 x21 (j6 (d9 vs22 2) (
 M.pure (.ret (.int .i64 (.ofNat 8)))) (
 b5Z cb N call a0)) (fun _=>M.fail) (M.fail) l6
theorem d0e (cb:Cb) (N:Nat) (call:j4) (a0:Value):c3w cb N call a0=b6z cb N call a0:=by
 simp only [c3w,b6z,l5,d0t]
noncomputable def b1X (cb:Cb) (N:Nat) (call:j4) (a0:Value):M CR:=
 cb.bj CR (cb.bv R2 (bq .eql 22 (.tmp 3) (.const (.int .i64 (.ofNat 32))) a0 (.int .i64 (.ofNat 32))) fun v18=>
 j6 v18 (
 M.pure (.normal, [v18,undef,undef,v18])) (
 b8i cb N call a0 v18)) fun x16 vs17=>
 l7 x16 (j6 (d9 vs17 3) (
 M.pure (.ret (.int .i64 (.ofNat 7)))) (
 b6z cb N call a0)) (fun _=>M.fail) (M.fail) l6
theorem d0O (cb:Cb) (N:Nat) (call:j4) (a0:Value):c5Z cb N call a0=b1X cb N call a0:=by
 simp only [c5Z,b1X,l5,c9C,d0e]
noncomputable def b7E (cb:Cb) (N:Nat) (call:j4) (a0:Value):M CR:=
 cb.bv CR (bq .eql 22 (.tmp 3) (.const (.int .i64 (.ofNat 28))) a0 (.int .i64 (.ofNat 28))) fun v15=>
 j6 v15 (
 M.pure (.ret (.int .i64 (.ofNat 6)))) (
 b1X cb N call a0)
theorem d1d (cb:Cb) (N:Nat) (call:j4) (a0:Value):c0B cb N call a0=b7E cb N call a0:=by
 simp only [c0B,b7E,l5,d0O]
noncomputable def b4i (cb:Cb) (N:Nat) (call:j4) (a0:Value):M CR:=
 cb.bv CR (bq .eql 22 (.tmp 3) (.const (.int .i64 (.ofNat 17))) a0 (.int .i64 (.ofNat 17))) fun v14=>
 j6 v14 (
 M.pure (.ret (.int .i64 (.ofNat 5)))) (
 b7E cb N call a0)
theorem d0p (cb:Cb) (N:Nat) (call:j4) (a0:Value):c5r cb N call a0=b4i cb N call a0:=by
 simp only [c5r,b4i,l5,d1d]
noncomputable def a7m (cb:Cb) (N:Nat) (call:j4) (a0:Value):M CR:=
 cb.bj CR (cb.bv R2 (bq .eql 22 (.tmp 3) (.const (.int .i64 (.ofNat 16))) a0 (.int .i64 (.ofNat 16))) fun v12=>
 j6 v12 (
 M.pure (.normal, [v12,undef,v12])) (
 cb.bv R2 (bq .eql 22 (.tmp 3) (.const (.int .i64 (.ofNat 210))) a0 (.int .i64 (.ofNat 210))) fun v13=>
 M.pure (.normal, [v12,v13,v13]))) fun x10 vs11=>
 l7 x10 (j6 (d9 vs11 2) (
 M.pure (.ret (.int .i64 (.ofNat 4)))) (
 b4i cb N call a0)) (fun _=>M.fail) (M.fail) l6
theorem c7z (cb:Cb) (N:Nat) (call:j4) (a0:Value):b5r cb N call a0=a7m cb N call a0:=by
 simp only [b5r,a7m,l5,d0p]
noncomputable def a9y (cb:Cb) (N:Nat) (call:j4) (a0:Value):M CR:=
 cb.bv CR (bq .eql 22 (.tmp 3) (.const (.int .i64 (.ofNat 14))) a0 (.int .i64 (.ofNat 14))) fun v9=>
 j6 v9 (
 M.pure (.ret (.int .i64 (.ofNat 3)))) (
 a7m cb N call a0)
theorem c1A (cb:Cb) (N:Nat) (call:j4) (a0:Value):b5R cb N call a0=a9y cb N call a0:=by
 simp only [b5R,a9y,l5,c7z]
noncomputable def a7R (cb:Cb) (N:Nat) (call:j4) (a0:Value):M CR:=
 cb.bj CR (cb.bv R2 (bq .eql 22 (.tmp 3) (.const (.int .i64 (.ofNat 12))) a0 (.int .i64 (.ofNat 12))) fun v7=>
 j6 v7 (
 M.pure (.normal, [v7,undef,v7])) (
 cb.bv R2 (bq .eql 22 (.tmp 3) (.const (.int .i64 (.ofNat 13))) a0 (.int .i64 (.ofNat 13))) fun v8=>
 M.pure (.normal, [v7,v8,v8]))) fun x5 vs6=>
 l7 x5 (j6 (d9 vs6 2) (
 M.pure (.ret (.int .i64 (.ofNat 2)))) (
 a9y cb N call a0)) (fun _=>M.fail) (M.fail) l6
theorem c2Q (cb:Cb) (N:Nat) (call:j4) (a0:Value):b7M cb N call a0=a7R cb N call a0:=by
 simp only [b7M,a7R,l5,c1A]
noncomputable def c4v (cb:Cb) (N:Nat) (call:j4) (a0:Value):M CR:=
 cb.bj CR (cb.bv R2 (bq .eql 22 (.tmp 3) (.const (.int .i64 (.ofNat 2))) a0 (.int .i64 (.ofNat 2))) fun v2=>
 j6 v2 (
 M.pure (.normal, [v2,undef,undef,v2])) (
 b5K cb N call a0 v2)) fun x0 vs1=>
 l7 x0 (j6 (d9 vs1 3) (
 M.pure (.ret (.int .i64 (.ofNat 1)))) (
 a7R cb N call a0)) (fun _=>M.fail) (M.fail) l6
theorem d3S (cb:Cb) (N:Nat) (call:j4) (a0:Value):d6E cb N call a0=c4v cb N call a0:=by
 simp only [d6E,c4v,l5,d0q,c2Q]
noncomputable def b3i (cb:Cb) (N:Nat) (call:j4) (a0:Value):M CR:=
 cb.bv CR (bq .eql 24 (.tmp 3) (.const (.int .i64 (.ofNat 4))) a0 (.int .i64 (.ofNat 4))) fun v3=>
 j6 v3 (
 M.pure (.ret (.string ⟨⟨[101, 120, 116, 101, 114, 110, 114, 101, 102]⟩⟩))) (
 M.pure (.ret (.string ⟨⟨[]⟩⟩)))
theorem c8Y (cb:Cb) (N:Nat) (call:j4) (a0:Value):c2q cb N call a0=b3i cb N call a0:=by
 simp only [c2q,b3i,l5]
noncomputable def b3u (cb:Cb) (N:Nat) (call:j4) (a0:Value):M CR:=
 cb.bv CR (bq .eql 24 (.tmp 3) (.const (.int .i64 (.ofNat 3))) a0 (.int .i64 (.ofNat 3))) fun v2=>
 j6 v2 (
 M.pure (.ret (.string ⟨⟨[102, 117, 110, 99, 114, 101, 102]⟩⟩))) (
 b3i cb N call a0)
theorem d2i (cb:Cb) (N:Nat) (call:j4) (a0:Value):c7a cb N call a0=b3u cb N call a0:=by
 simp only [c7a,b3u,l5,c8Y]
noncomputable def b5p (cb:Cb) (N:Nat) (call:j4) (a0:Value):M CR:=
 cb.bv CR (bq .eql 24 (.tmp 3) (.const (.int .i64 (.ofNat 2))) a0 (.int .i64 (.ofNat 2))) fun v1=>
 j6 v1 (
 M.pure (.ret (.string ⟨⟨[105, 54, 52]⟩⟩))) (
 b3u cb N call a0)
theorem c9v (cb:Cb) (N:Nat) (call:j4) (a0:Value):c5d cb N call a0=b5p cb N call a0:=by
 simp only [c5d,b5p,l5,d2i]
noncomputable def c5b (cb:Cb) (N:Nat) (call:j4) (a0:Value):M CR:=
 cb.bv CR (bq .eql 24 (.tmp 3) (.const (.int .i64 (.ofNat 1))) a0 (.int .i64 (.ofNat 1))) fun v0=>
 j6 v0 (
 M.pure (.ret (.string ⟨⟨[105, 51, 50]⟩⟩))) (
 b5p cb N call a0)
theorem d3F (cb:Cb) (N:Nat) (call:j4) (a0:Value):d4m cb N call a0=c5b cb N call a0:=by
 simp only [d4m,c5b,l5,c9v]
noncomputable def b2b (cb:Cb) (N:Nat) (call:j4) (a0:Value) (xs2:List Value) (v5:Value) (v6:Value) (v7:Value) (v8:Value) (v9:Value):M R2:=
 cb.bc R2 (call 105 [a0,(d9 xs2 38)]) (fun v10=>
 cb.bv R2 (z8 0 v10) fun v11=>
 cb.bv R2 (z8 1 v10) fun v12=>
 cb.bv R2 (z8 2 v10) fun v13=>
 cb.bv R2 (J6 [(.int .i64 (.ofNat 0)),(.int .i64 (.ofNat 0)),(.string ⟨⟨[]⟩⟩)]) fun v14=>
 cb.bv R2 (r9 3 v14 v11) fun v15=>
 cb.bv R2 (bq .neq 41 (.tmp 35) (.const (.int .i64 (.ofNat 0))) v13 (.int .i64 (.ofNat 0))) fun v16=>
 j6 v16 (
 d6V cb N call xs2 a0 v5 v6 v7 v8 v9 v10 v11 v12 v13 v14 v16) (
 d6Q cb N call v14 xs2 a0 v5 v6 v7 v8 v9 v10 v11 v12 v13 v16)) l6
theorem d0c (cb:Cb) (N:Nat) (call:j4) (a0:Value) (xs2:List Value) (v5:Value) (v6:Value) (v7:Value) (v8:Value) (v9:Value):c4E cb N call a0 xs2 v5 v6 v7 v8 v9=b2b cb N call a0 xs2 v5 v6 v7 v8 v9:=by
 simp only [c4E,b2b,l5]
noncomputable def b3x (cb:Cb) (N:Nat) (call:j4) (v7:Value) (xs2:List Value) (a0:Value) (v5:Value) (v6:Value) (v8:Value):M R2:=
 cb.bv R2 (bq .gtr 3 (.tmp 24) (.tmp 25) v7 (d9 xs2 38)) fun v9=>
 j6 v9 (
 d6R cb N call xs2 a0 v5 v6 v7 v8 v9) (
 b2b cb N call a0 xs2 v5 v6 v7 v8 v9)
theorem c8N (cb:Cb) (N:Nat) (call:j4) (v7:Value) (xs2:List Value) (a0:Value) (v5:Value) (v6:Value) (v8:Value):c6K cb N call v7 xs2 a0 v5 v6 v8=b3x cb N call v7 xs2 a0 v5 v6 v8:=by
 simp only [c6K,b3x,l5,d0c]
noncomputable def b6q (cb:Cb) (N:Nat) (call:j4) (a0:Value) (xs2:List Value) (v5:Value) (v6:Value):M R2:=
 cb.bc R2 (call 104 [a0,(d9 xs2 38)]) (fun v7=>
 cb.bv R2 (bq .lss 3 (.tmp 21) (.const (.int .i64 (.ofNat 0))) v7 (.int .i64 (.ofNat 0))) fun v8=>
 j6 v8 (
 d6J cb N call xs2 a0 v5 v6 v7 v8) (
 b3x cb N call v7 xs2 a0 v5 v6 v8)) l6
theorem d1V (cb:Cb) (N:Nat) (call:j4) (a0:Value) (xs2:List Value) (v5:Value) (v6:Value):c1i cb N call a0 xs2 v5 v6=b6q cb N call a0 xs2 v5 v6:=by
 simp only [c1i,b6q,l5,c8N]
noncomputable def b6o (cb:Cb) (N:Nat) (call:j4) (a0:Value) (xs2:List Value):M R2:=
 cb.bv R2 (K7 a0) fun v5=>
 cb.bv R2 (bq .lss 3 (.tmp 14) (.tmp 16) (d9 xs2 38) v5) fun v6=>
 j6 v6 (
 b6q cb N call a0 xs2 v5 v6) (
 d7F cb N call xs2 a0 v5 v6)
theorem d1y (cb:Cb) (N:Nat) (call:j4) (a0:Value):c0w cb N call a0=b6o cb N call a0:=by
 funext xs2
 simp only [c0w,b6o,l5,d1V]
noncomputable def b7b (cb:Cb) (N:Nat) (call:j4) (a0:Value):M CR:=
 cb.bj CR (cb.lp (b6o cb N call a0) N [undef,undef,undef,undef,undef,undef,undef,undef,undef,undef,undef,undef,undef,undef,undef,undef,undef,undef,undef,undef,undef,undef,undef,undef,undef,undef,undef,undef,undef,(.slice none 0 0),(.int .i64 (.ofNat 0)),(.int .i64 (.ofNat 0)),undef,undef,undef,undef,(.slice none 0 0),undef,(.int .i64 (.ofNat 0))]) fun x3 vs4=>
 l7 x3 (M.fail) (fun i20=>l8 (Nat.beq i20 0) (cb.bv CR (K7 a0) fun v21=>
 cb.bv CR (H7 [(0, 1),(1, 1)] [(.int .i64 (.ofNat 4)),v21] [(.int .i64 (.ofNat 0)),(.int .i64 (.ofNat 0)),(.string ⟨⟨[]⟩⟩)]) fun v22=>
 cb.bv CR (H8 3 1 [(0, 3)] [v22] [(.int .i64 (.ofNat 0)),(.int .i64 (.ofNat 0)),(.string ⟨⟨[]⟩⟩)]) fun v23=>
 cb.bv CR (Q9 b1n (d9 vs4 36) v23) fun v24=>
 M.pure (.ret (.tuple ⟨[v24,(.int .i64 (.ofNat 0)),(.int .i64 (.ofNat 0))]⟩))) (l8 (Nat.beq i20 1) (M.fail) (M.fail))) (M.pure (.ret (.tuple ⟨[(d9 vs4 29),(d9 vs4 30),(d9 vs4 31)]⟩))) l6
theorem c9a (cb:Cb) (N:Nat) (call:j4) (a0:Value):c7b cb N call a0=b7b cb N call a0:=by
 simp only [c7b,b7b,d1y]
noncomputable def c7g (cb:Cb) (N:Nat) (call:j4) (a0:Value):M CR:=
 cb.bv CR (K7 a0) fun v0=>
 cb.bv CR (bq .gtr 3 (.tmp 12) (.const (.int .i64 (.ofNat 1048576))) v0 (.int .i64 (.ofNat 1048576))) fun v1=>
 j6 v1 (
 M.pure (.ret (.tuple ⟨[(.slice none 0 0),(.int .i64 (.ofNat 0)),(.int .i64 (.ofNat 6))]⟩))) (
 b7b cb N call a0)
theorem d4n (cb:Cb) (N:Nat) (call:j4) (a0:Value):d6g cb N call a0=c7g cb N call a0:=by
 simp only [d6g,c7g,l5,c9a]
noncomputable def b6B (cb:Cb) (N:Nat) (call:j4) (xs1:List Value) (v0:Value) (a0:Value) (v4:Value) (v5:Value) (vs7:List Value) (v12:Value) (v13:Value) (v14:Value) (v15:Value) (v17:Value) (v18:Value) (v19:Value) (a2:Value) (v20:Value):M R2:=
 cb.bv R2 (bq .add 3 (.tmp 50) (.const (.int .i64 (.ofNat 1))) (d9 xs1 73) (.int .i64 (.ofNat 1))) fun v25=>
 cb.bv R2 (H7 [(0, 1),(1, 1)] [(d9 xs1 70),v25] [(.slice none 0 0),(.int .i64 (.ofNat 0)),(.int .i64 (.ofNat 0)),(.int .i64 (.ofNat 0))]) fun v26=>
 cb.bv R2 (r9 4 v0 v26) fun v27=>
 d6N cb N call xs1 a0 v4 v5 vs7 v12 v13 v14 v15 v17 v18 v19 a2 v20 v25 v26
theorem d2n (cb:Cb) (N:Nat) (call:j4) (xs1:List Value) (v0:Value) (a0:Value) (v4:Value) (v5:Value) (vs7:List Value) (v12:Value) (v13:Value) (v14:Value) (v15:Value) (v17:Value) (v18:Value) (v19:Value) (a2:Value) (v20:Value):c0I cb N call xs1 v0 a0 v4 v5 vs7 v12 v13 v14 v15 v17 v18 v19 a2 v20=b6B cb N call xs1 v0 a0 v4 v5 vs7 v12 v13 v14 v15 v17 v18 v19 a2 v20:=by
 simp only [c0I,b6B,l5]
noncomputable def b1T (cb:Cb) (N:Nat) (call:j4) (a2:Value) (v15:Value) (v0:Value) (xs1:List Value) (a0:Value) (v4:Value) (v5:Value) (vs7:List Value) (v12:Value) (v13:Value) (v14:Value) (v17:Value) (v18:Value) (v19:Value):M R2:=
 cb.bv R2 (bq .eql 3 (.tmp 44) (.const (.int .i64 (.ofNat 0))) a2 (.int .i64 (.ofNat 0))) fun v20=>
 j6 v20 (
 d7w cb N call v15 v0 xs1 a0 v4 v5 vs7 v12 v13 v14 v17 v18 v19 a2 v20) (
 b6B cb N call xs1 v0 a0 v4 v5 vs7 v12 v13 v14 v15 v17 v18 v19 a2 v20)
theorem d0I (cb:Cb) (N:Nat) (call:j4) (a2:Value) (v15:Value) (v0:Value) (xs1:List Value) (a0:Value) (v4:Value) (v5:Value) (vs7:List Value) (v12:Value) (v13:Value) (v14:Value) (v17:Value) (v18:Value) (v19:Value):c6I cb N call a2 v15 v0 xs1 a0 v4 v5 vs7 v12 v13 v14 v17 v18 v19=b1T cb N call a2 v15 v0 xs1 a0 v4 v5 vs7 v12 v13 v14 v17 v18 v19:=by
 simp only [c6I,b1T,l5,d2n]
noncomputable def a9k (cb:Cb) (N:Nat) (call:j4) (v38:Value) (v0:Value) (xs1:List Value) (a0:Value) (v4:Value) (v5:Value) (vs7:List Value) (v12:Value) (v13:Value) (v14:Value) (v15:Value) (v17:Value) (v18:Value) (v19:Value) (v28:Value) (a2:Value) (v29:Value) (v34:Value) (v35:Value) (v36:Value) (v37:Value):M R2:=
 cb.bv R2 (J6 [(.slice none 0 0),(.int .i64 (.ofNat 0)),(.int .i64 (.ofNat 0)),(.int .i64 (.ofNat 0))]) fun v39=>
 cb.bv R2 (r9 4 v39 v38) fun v40=>
 cb.bv R2 (l9 3 v39) fun v41=>
 cb.bv R2 (j5 v41) fun v42=>
 cb.bv R2 (bq .neq 41 (.tmp 69) (.const (.int .i64 (.ofNat 0))) v42 (.int .i64 (.ofNat 0))) fun v43=>
 j6 v43 (
 d7f cb N call v39 v0 xs1 a0 v4 v5 vs7 v12 v13 v14 v15 v17 v18 v19 v28 a2 v29 v34 v35 v36 v37 v38 v41 v42 v43) (
 d1D cb N call v15 v39 xs1 a0 v4 v5 vs7 v12 v13 v14 v17 v18 v19 v28 a2 v29 v34 v35 v36 v37 v38 v41 v42 v43)
theorem c5x (cb:Cb) (N:Nat) (call:j4) (v38:Value) (v0:Value) (xs1:List Value) (a0:Value) (v4:Value) (v5:Value) (vs7:List Value) (v12:Value) (v13:Value) (v14:Value) (v15:Value) (v17:Value) (v18:Value) (v19:Value) (v28:Value) (a2:Value) (v29:Value) (v34:Value) (v35:Value) (v36:Value) (v37:Value):b8K cb N call v38 v0 xs1 a0 v4 v5 vs7 v12 v13 v14 v15 v17 v18 v19 v28 a2 v29 v34 v35 v36 v37=a9k cb N call v38 v0 xs1 a0 v4 v5 vs7 v12 v13 v14 v15 v17 v18 v19 v28 a2 v29 v34 v35 v36 v37:=by
 simp only [b8K,a9k,l5]
noncomputable def a6v (cb:Cb) (N:Nat) (call:j4) (xs1:List Value) (a2:Value) (v15:Value) (a0:Value) (v0:Value) (v4:Value) (v5:Value) (vs7:List Value) (v12:Value) (v13:Value) (v14:Value) (v17:Value) (v18:Value) (v19:Value) (v28:Value) (v29:Value):M R2:=
 cb.bv R2 (bq .add 3 (.tmp 61) (.const (.int .i64 (.ofNat 1))) (d9 xs1 73) (.int .i64 (.ofNat 1))) fun v34=>
 cb.bv R2 (bq .add 3 (.tmp 63) (.const (.int .i64 (.ofNat 1))) a2 (.int .i64 (.ofNat 1))) fun v35=>
 cb.bv R2 (l9 1 v15) fun v36=>
 cb.bv R2 (j5 v36) fun v37=>
 cb.bc R2 (call 65 [a0,v34,v35,v37]) (fun v38=>
 a9k cb N call v38 v0 xs1 a0 v4 v5 vs7 v12 v13 v14 v15 v17 v18 v19 v28 a2 v29 v34 v35 v36 v37) l6
theorem c4e (cb:Cb) (N:Nat) (call:j4) (xs1:List Value) (a2:Value) (v15:Value) (a0:Value) (v0:Value) (v4:Value) (v5:Value) (vs7:List Value) (v12:Value) (v13:Value) (v14:Value) (v17:Value) (v18:Value) (v19:Value) (v28:Value) (v29:Value):b3v cb N call xs1 a2 v15 a0 v0 v4 v5 vs7 v12 v13 v14 v17 v18 v19 v28 v29=a6v cb N call xs1 a2 v15 a0 v0 v4 v5 vs7 v12 v13 v14 v17 v18 v19 v28 v29:=by
 simp only [b3v,a6v,l5,c5x]
noncomputable def a6e (cb:Cb) (N:Nat) (call:j4) (a2:Value) (v15:Value) (v0:Value) (xs1:List Value) (a0:Value) (v4:Value) (v5:Value) (vs7:List Value) (v12:Value) (v13:Value) (v14:Value) (v17:Value) (v18:Value) (v19:Value) (v28:Value):M R2:=
 cb.bv R2 (bq .eql 3 (.tmp 55) (.const (.int .i64 (.ofNat 200))) a2 (.int .i64 (.ofNat 200))) fun v29=>
 j6 v29 (
 d7o cb N call v15 v0 xs1 a0 v4 v5 vs7 v12 v13 v14 v17 v18 v19 v28 a2 v29) (
 a6v cb N call xs1 a2 v15 a0 v0 v4 v5 vs7 v12 v13 v14 v17 v18 v19 v28 v29)
theorem c7p (cb:Cb) (N:Nat) (call:j4) (a2:Value) (v15:Value) (v0:Value) (xs1:List Value) (a0:Value) (v4:Value) (v5:Value) (vs7:List Value) (v12:Value) (v13:Value) (v14:Value) (v17:Value) (v18:Value) (v19:Value) (v28:Value):b5k cb N call a2 v15 v0 xs1 a0 v4 v5 vs7 v12 v13 v14 v17 v18 v19 v28=a6e cb N call a2 v15 v0 xs1 a0 v4 v5 vs7 v12 v13 v14 v17 v18 v19 v28:=by
 simp only [b5k,a6e,l5,c4e]
noncomputable def a8G (cb:Cb) (N:Nat) (call:j4) (v56:Value) (v58:Value) (v60:Value) (xs1:List Value) (a0:Value) (v4:Value) (v5:Value) (vs7:List Value) (v12:Value) (v13:Value) (v14:Value) (v15:Value) (v17:Value) (v18:Value) (v19:Value) (v28:Value) (v55:Value) (v57:Value) (v59:Value):M R2:=
 cb.bv R2 (H7 [(0, 1),(1, 1),(2, 1)] [v56,v58,v60] [(.int .i64 (.ofNat 0)),(.int .i64 (.ofNat 0)),(.string ⟨⟨[]⟩⟩),(.slice none 0 0)]) fun v61=>
 cb.bv R2 (H8 4 1 [(0, 4)] [v61] [(.int .i64 (.ofNat 0)),(.int .i64 (.ofNat 0)),(.string ⟨⟨[]⟩⟩),(.slice none 0 0)]) fun v62=>
 cb.bv R2 (Q9 b1e (d9 xs1 70) v62) fun v63=>
 cb.bv R2 (bq .add 3 (.tmp 40) (.const (.int .i64 (.ofNat 1))) (d9 xs1 73) (.int .i64 (.ofNat 1))) fun v64=>
 d1f cb N call xs1 a0 v4 v5 vs7 v12 v13 v14 v15 v17 v18 v19 v28 v55 v56 v57 v58 v59 v60 v61 v62 v63 v64
theorem c7G (cb:Cb) (N:Nat) (call:j4) (v56:Value) (v58:Value) (v60:Value) (xs1:List Value) (a0:Value) (v4:Value) (v5:Value) (vs7:List Value) (v12:Value) (v13:Value) (v14:Value) (v15:Value) (v17:Value) (v18:Value) (v19:Value) (v28:Value) (v55:Value) (v57:Value) (v59:Value):b4Q cb N call v56 v58 v60 xs1 a0 v4 v5 vs7 v12 v13 v14 v15 v17 v18 v19 v28 v55 v57 v59=a8G cb N call v56 v58 v60 xs1 a0 v4 v5 vs7 v12 v13 v14 v15 v17 v18 v19 v28 v55 v57 v59:=by
 simp only [b4Q,a8G,l5]
noncomputable def a8T (cb:Cb) (N:Nat) (call:j4) (v15:Value) (xs1:List Value) (a0:Value) (v4:Value) (v5:Value) (vs7:List Value) (v12:Value) (v13:Value) (v14:Value) (v17:Value) (v18:Value) (v19:Value) (v28:Value):M R2:=
 cb.bv R2 (l9 0 v15) fun v55=>
 cb.bv R2 (j5 v55) fun v56=>
 cb.bv R2 (l9 1 v15) fun v57=>
 cb.bv R2 (j5 v57) fun v58=>
 cb.bv R2 (l9 2 v15) fun v59=>
 cb.bv R2 (j5 v59) fun v60=>
 a8G cb N call v56 v58 v60 xs1 a0 v4 v5 vs7 v12 v13 v14 v15 v17 v18 v19 v28 v55 v57 v59
theorem c5z (cb:Cb) (N:Nat) (call:j4) (v15:Value) (xs1:List Value) (a0:Value) (v4:Value) (v5:Value) (vs7:List Value) (v12:Value) (v13:Value) (v14:Value) (v17:Value) (v18:Value) (v19:Value) (v28:Value):b4r cb N call v15 xs1 a0 v4 v5 vs7 v12 v13 v14 v17 v18 v19 v28=a8T cb N call v15 xs1 a0 v4 v5 vs7 v12 v13 v14 v17 v18 v19 v28:=by
 simp only [b4r,a8T,c7G]
noncomputable def a8f (cb:Cb) (N:Nat) (call:j4) (v18:Value) (a2:Value) (v15:Value) (v0:Value) (xs1:List Value) (a0:Value) (v4:Value) (v5:Value) (vs7:List Value) (v12:Value) (v13:Value) (v14:Value) (v17:Value) (v19:Value):M R2:=
 cb.bv R2 (bq .eql 3 (.tmp 29) (.const (.int .i64 (.ofNat 0))) v18 (.int .i64 (.ofNat 0))) fun v28=>
 j6 v28 (
 a6e cb N call a2 v15 v0 xs1 a0 v4 v5 vs7 v12 v13 v14 v17 v18 v19 v28) (
 a8T cb N call v15 xs1 a0 v4 v5 vs7 v12 v13 v14 v17 v18 v19 v28)
theorem c5u (cb:Cb) (N:Nat) (call:j4) (v18:Value) (a2:Value) (v15:Value) (v0:Value) (xs1:List Value) (a0:Value) (v4:Value) (v5:Value) (vs7:List Value) (v12:Value) (v13:Value) (v14:Value) (v17:Value) (v19:Value):b5C cb N call v18 a2 v15 v0 xs1 a0 v4 v5 vs7 v12 v13 v14 v17 v19=a8f cb N call v18 a2 v15 v0 xs1 a0 v4 v5 vs7 v12 v13 v14 v17 v19:=by
 simp only [b5C,a8f,l5,c7p,c5z]
noncomputable def a8W (cb:Cb) (N:Nat) (call:j4) (a0:Value) (xs1:List Value) (a2:Value) (v0:Value) (v4:Value) (v5:Value) (vs7:List Value) (v12:Value):M R2:=
 cb.bv R2 (F3 3 a0 (d9 xs1 73)) fun v13=>
 cb.bv R2 (E8 3 v13) fun v14=>
 cb.bv R2 (J6 [(.int .i64 (.ofNat 0)),(.int .i64 (.ofNat 0)),(.string ⟨⟨[]⟩⟩)]) fun v15=>
 cb.bv R2 (r9 3 v15 v14) fun v16=>
 cb.bv R2 (l9 0 v15) fun v17=>
 cb.bv R2 (j5 v17) fun v18=>
 cb.bv R2 (bq .eql 3 (.tmp 29) (.const (.int .i64 (.ofNat 1))) v18 (.int .i64 (.ofNat 1))) fun v19=>
 j6 v19 (
 b1T cb N call a2 v15 v0 xs1 a0 v4 v5 vs7 v12 v13 v14 v17 v18 v19) (
 a8f cb N call v18 a2 v15 v0 xs1 a0 v4 v5 vs7 v12 v13 v14 v17 v19)
theorem c3y (cb:Cb) (N:Nat) (call:j4) (a0:Value) (xs1:List Value) (a2:Value) (v0:Value) (v4:Value) (v5:Value) (vs7:List Value) (v12:Value):b3Y cb N call a0 xs1 a2 v0 v4 v5 vs7 v12=a8W cb N call a0 xs1 a2 v0 v4 v5 vs7 v12:=by
 simp only [b3Y,a8W,l5,d0I,c5u]
noncomputable def a6O (cb:Cb) (N:Nat) (call:j4) (v5:Value) (a0:Value) (xs1:List Value) (a2:Value) (v0:Value) (v4:Value):M R2:=
 cb.bj R2 (l8 (o7 true v5) (cb.bv R2 (F3 3 a0 (d9 xs1 73)) fun v8=>
 cb.bv R2 (l9 0 v8) fun v9=>
 cb.bv R2 (j5 v9) fun v10=>
 cb.bv R2 (bq .neq 3 (.tmp 21) (.const (.int .i64 (.ofNat 4))) v10 (.int .i64 (.ofNat 4))) fun v11=>
 M.pure (.normal, [a0,(d9 xs1 73),v8,v9,v10,v11])) (M.pure (.normal, [undef,undef,undef,undef,undef,undef]))) fun x6 vs7=>l7 x6 (cb.bv R2 (q9 v5 (d9 vs7 5) (.bool false)) fun v12=>
 j6 v12 (
 a8W cb N call a0 xs1 a2 v0 v4 v5 vs7 v12) (
 d1o cb N call xs1 a0 v4 v5 vs7 v12)) (fun _=>M.fail) M.fail l6
theorem c3M (cb:Cb) (N:Nat) (call:j4) (v5:Value) (a0:Value) (xs1:List Value) (a2:Value) (v0:Value) (v4:Value):b1w cb N call v5 a0 xs1 a2 v0 v4=a6O cb N call v5 a0 xs1 a2 v0 v4:=by
 simp only [b1w,a6O,l5,c3y]
noncomputable def a9t (cb:Cb) (N:Nat) (call:j4) (a0:Value) (a2:Value) (v0:Value) (xs1:List Value):M R2:=
 cb.bv R2 (H6 a0) fun v4=>
 cb.bv R2 (bq .lss 3 (.tmp 12) (.tmp 14) (d9 xs1 73) v4) fun v5=>
 a6O cb N call v5 a0 xs1 a2 v0 v4
theorem c4w (cb:Cb) (N:Nat) (call:j4) (a0:Value) (a2:Value) (v0:Value):b3t cb N call a0 a2 v0=a9t cb N call a0 a2 v0:=by
 funext xs1
 simp only [b3t,a9t,l5,c3M]
noncomputable def a7N (cb:Cb) (N:Nat) (call:j4) (a0:Value) (a2:Value) (v0:Value) (a1:Value) (a3:Value):M CR:=
 cb.bj CR (cb.lp (a9t cb N call a0 a2 v0) N [undef,undef,undef,undef,undef,undef,undef,undef,undef,undef,undef,undef,undef,undef,undef,undef,undef,undef,undef,undef,undef,undef,undef,undef,undef,undef,undef,undef,undef,undef,undef,undef,undef,undef,undef,undef,undef,undef,undef,undef,undef,undef,undef,undef,undef,undef,undef,undef,undef,undef,undef,undef,undef,undef,undef,undef,undef,undef,undef,undef,undef,undef,undef,undef,undef,undef,undef,undef,undef,undef,(.slice none 0 0),undef,undef,a1]) fun x2 vs3=>
 l7 x2 (M.fail) (fun i65=>l8 (Nat.beq i65 0) (cb.bv CR (bq .gtr 3 (.tmp 82) (.const (.int .i64 (.ofNat 0))) a2 (.int .i64 (.ofNat 0))) fun v66=>
 j6 v66 (
 d2L cb N call a3 v0) (
 c9s cb N call vs3 v0)) (M.fail)) (K5 v0 fun ad76=>cb.bv CR (M.bind (loadN ad76 4) fun q=>M.pure (.agg ⟨q⟩)) fun v75=>
 M.pure (.ret v75)) l6
theorem c0D (cb:Cb) (N:Nat) (call:j4) (a0:Value) (a2:Value) (v0:Value) (a1:Value) (a3:Value):b7i cb N call a0 a2 v0 a1 a3=a7N cb N call a0 a2 v0 a1 a3:=by
 simp only [b7i,a7N,l5,c4w]
noncomputable def c3a (cb:Cb) (N:Nat) (call:j4) (a0:Value) (a1:Value) (a2:Value) (a3:Value):M CR:=
 cb.bv CR (J6 [(.slice none 0 0),(.int .i64 (.ofNat 0)),(.int .i64 (.ofNat 0)),(.int .i64 (.ofNat 0))]) fun v0=>
 a7N cb N call a0 a2 v0 a1 a3
theorem d6a (cb:Cb) (N:Nat) (call:j4) (a0:Value) (a1:Value) (a2:Value) (a3:Value):d3h cb N call a0 a1 a2 a3=c3a cb N call a0 a1 a2 a3:=by
 simp only [d3h,c3a,c0D]
noncomputable def b4B (call:j4) (u0:Value) (u1:Value) (u2:Value) (u3:Value) (u4:Value) (u5:Value) (u6:Value) (u7:Value):M R2:=
 M.bind (M.foot (j5 u0)) fun y0=>
 M.bind (M.foot (q8 y0.1)) fun y1=>
 M.bind (M.foot (l9 5 y1.1)) fun y2=>
 M.bind (M.foot (j5 y2.1)) fun y3=>
 M.bind (M.foot (E8 4 u4)) fun y4=>
 M.bind (M.foot (a1C y3.1 [y4.1] (D7 call))) fun y5=>
 M.bind (M.foot (un .not y5.1)) fun y6=>
 M.guard (G9 [(0, 4),(1, 4),(2, 4),(3, 4)] [y0.2,y1.2,y2.2,y3.2,y4.2,y5.2,y6.2]) (M.pure (.normal, [y0.1,y1.1,y2.1,y3.1,y4.1,y5.1,y6.1]))
theorem d2p (call:j4) (u0:Value) (u1:Value) (u2:Value) (u3:Value) (u4:Value) (u5:Value) (u6:Value) (u7:Value):b4S call u0 u1 u2 u3 u4 u5 u6 u7=b4B call u0 u1 u2 u3 u4 u5 u6 u7:=by
 simp only [b4S,b4B,l5,fun F hl=>G6 (ops:=a3y) (L:=[(0, 4),(1, 4),(2, 4),(3, 4)]) (n:=7) (by kernel_rfl) (by kernel_rfl) F hl,D9,F7]
noncomputable def b5s (call:j4) (u0:Value) (u1:Value) (u2:Value) (u3:Value) (u4:Value) (u5:Value) (u6:Value) (u7:Value) (u8:Value) (u9:Value) (u10:Value) (u11:Value):M R2:=
 M.bind (M.foot (j5 u0)) fun y0=>
 M.bind (M.foot (j5 u0)) fun y1=>
 M.bind (M.foot (q8 y1.1)) fun y2=>
 M.bind (M.foot (l9 1 y2.1)) fun y3=>
 M.bind (M.foot (j5 y3.1)) fun y4=>
 M.bind (M.foot (E8 9 u4)) fun y5=>
 M.bind (M.foot (H8 9 1 [(0, 9)] [y5.1] [(.int .i64 (.ofNat 0)),(.int .i64 (.ofNat 0)),(.int .i64 (.ofNat 0)),(.int .u64 (.ofNat 0)),(.int .i64 (.ofNat 0)),(.int .i64 (.ofNat 0)),(.int .i64 (.ofNat 0)),(.slice none 0 0),(.slice none 0 0)])) fun y6=>
 M.bind (M.foot (Q9 a0B y4.1 y6.1)) fun y7=>
 M.bind (M.foot (q8 y0.1)) fun y8=>
 M.bind (M.foot (l9 1 y8.1)) fun y9=>
 M.bind (M.foot (r9 1 y9.1 y7.1)) fun y10=>
 M.guard (G9 [(0, 1),(0, 2),(0, 3),(0, 4),(0, 5),(1, 5),(2, 5),(3, 5),(4, 5),(0, 6),(1, 6),(2, 6),(3, 6),(4, 6),(0, 7)] [y0.2,y1.2,y2.2,y3.2,y4.2,y5.2,y6.2,y7.2,y8.2,y9.2,y10.2]) (M.pure (.normal, [y0.1,y1.1,y2.1,y3.1,y4.1,y5.1,y6.1,y7.1,y8.1,y9.1]))
theorem d1z (call:j4) (u0:Value) (u1:Value) (u2:Value) (u3:Value) (u4:Value) (u5:Value) (u6:Value) (u7:Value) (u8:Value) (u9:Value) (u10:Value) (u11:Value):b3h call u0 u1 u2 u3 u4 u5 u6 u7 u8 u9 u10 u11=b5s call u0 u1 u2 u3 u4 u5 u6 u7 u8 u9 u10 u11:=by
 simp only [b3h,b5s,l5,fun F hl=>G6 (ops:=a3L) (L:=[(0, 1),(0, 2),(0, 3),(0, 4),(0, 5),(1, 5),(2, 5),(3, 5),(4, 5),(0, 6),(1, 6),(2, 6),(3, 6),(4, 6),(0, 7)]) (n:=11) (by kernel_rfl) (by kernel_rfl) F hl,D9,F7]
noncomputable def b6n (cb:Cb) (N:Nat) (call:j4) (xs72:List Value) (v75:Value) (v76:Value) (v77:Value) (v78:Value) (v80:Value) (v81:Value) (v82:Value) (vs87:List Value):M R2:=
 cb.bv R2 (bq .add 3 (.tmp 84) (.const (.int .i64 (.ofNat 1))) (d9 xs72 20) (.int .i64 (.ofNat 1))) fun v88=>
 M.pure (.normal, [v75,v76,v77,v78,v80,v81,v82,(d9 xs72 7),(d9 xs72 8),(d9 xs72 9),(d9 xs72 10),(d9 vs87 0),(d9 vs87 1),(d9 vs87 2),(d9 vs87 3),(d9 vs87 4),(d9 vs87 5),(d9 vs87 6),(d9 xs72 18),v88,v88])
theorem d1P (cb:Cb) (N:Nat) (call:j4) (xs72:List Value) (v75:Value) (v76:Value) (v77:Value) (v78:Value) (v80:Value) (v81:Value) (v82:Value) (vs87:List Value):c6E cb N call xs72 v75 v76 v77 v78 v80 v81 v82 vs87=b6n cb N call xs72 v75 v76 v77 v78 v80 v81 v82 vs87:=by
 simp only [c6E,b6n,l5]
noncomputable def b6a (cb:Cb) (N:Nat) (call:j4) (a1:Value) (xs72:List Value) (v78:Value) (v75:Value) (v76:Value) (v77:Value) (v80:Value) (v81:Value) (v82:Value):M R2:=
 cb.bj R2 (b4B call a1 (d9 xs72 11) (d9 xs72 12) (d9 xs72 13) v78 (d9 xs72 14) (d9 xs72 15) (d9 xs72 16)) fun _ vs87=>
 j6 (d9 vs87 6) (
 d6O cb N call v75 v76 v77 v78 v80 v81 v82 xs72 vs87) (
 b6n cb N call xs72 v75 v76 v77 v78 v80 v81 v82 vs87)
theorem c8s (cb:Cb) (N:Nat) (call:j4) (a1:Value) (xs72:List Value) (v78:Value) (v75:Value) (v76:Value) (v77:Value) (v80:Value) (v81:Value) (v82:Value):c1C cb N call a1 xs72 v78 v75 v76 v77 v80 v81 v82=b6a cb N call a1 xs72 v78 v75 v76 v77 v80 v81 v82:=by
 simp only [c1C,b6a,c8X,d2p,d1P]
noncomputable def b7Z (cb:Cb) (N:Nat) (call:j4) (v56:Value) (xs72:List Value) (a1:Value) (v75:Value):M R2:=
 cb.bv R2 (F3 4 v56 (d9 xs72 20)) fun v76=>
 cb.bv R2 (E8 4 v76) fun v77=>
 cb.bv R2 (J6 [(.int .i64 (.ofNat 0)),(.int .i64 (.ofNat 0)),(.string ⟨⟨[]⟩⟩),(.slice none 0 0)]) fun v78=>
 cb.bv R2 (r9 4 v78 v77) fun v79=>
 cb.bv R2 (l9 0 v78) fun v80=>
 cb.bv R2 (j5 v80) fun v81=>
 cb.bv R2 (bq .neq 117 (.tmp 89) (.const (.int .i64 (.ofNat 0))) v81 (.int .i64 (.ofNat 0))) fun v82=>
 j6 v82 (
 d7v cb N call a1 v78 v75 v76 v77 v80 v81 v82 xs72) (
 b6a cb N call a1 xs72 v78 v75 v76 v77 v80 v81 v82)
theorem c8x (cb:Cb) (N:Nat) (call:j4) (v56:Value) (xs72:List Value) (a1:Value) (v75:Value):c3s cb N call v56 xs72 a1 v75=b7Z cb N call v56 xs72 a1 v75:=by
 simp only [c3s,b7Z,l5,c8s]
noncomputable def b4l (cb:Cb) (N:Nat) (call:j4) (v71:Value) (v56:Value) (a1:Value) (xs72:List Value):M R2:=
 cb.bv R2 (bq .lss 3 (.tmp 84) (.tmp 83) (d9 xs72 20) v71) fun v75=>
 j6 v75 (
 b7Z cb N call v56 xs72 a1 v75) (
 d7A cb N call v75 xs72)
theorem c9f (cb:Cb) (N:Nat) (call:j4) (v71:Value) (v56:Value) (a1:Value):c3S cb N call v71 v56 a1=b4l cb N call v71 v56 a1:=by
 funext xs72
 simp only [c3S,b4l,l5,c8x]
noncomputable def a6J (cb:Cb) (N:Nat) (call:j4) (v71:Value) (v56:Value) (a1:Value) (v51:Value):M CR:=
 cb.bj CR (cb.lp (b4l cb N call v71 v56 a1) N [undef,undef,undef,undef,undef,undef,undef,undef,undef,undef,undef,undef,undef,undef,undef,undef,undef,undef,(.bool false),undef,(.int .i64 (.ofNat 0))]) fun x73 vs74=>
 l7 x73 (M.fail) (fun i89=>l8 (Nat.beq i89 1) (cb.bj CR (b5s call a1 undef undef undef v51 undef undef undef undef undef undef undef) fun _ vs90=>
 M.pure (.ret (.bool true))) (M.fail)) (M.pure (.ret (d9 vs74 18))) l6
theorem c2y (cb:Cb) (N:Nat) (call:j4) (v71:Value) (v56:Value) (a1:Value) (v51:Value):b6F cb N call v71 v56 a1 v51=a6J cb N call v71 v56 a1 v51:=by
 simp only [b6F,a6J,c9r,d1z,c9f]
noncomputable def a8y (cb:Cb) (N:Nat) (call:j4) (v58:Value) (a1:Value) (v28:Value) (v51:Value) (v48:Value) (v56:Value):M CR:=
 cb.bv CR (bq .eql 22 (.tmp 65) (.const (.int .i64 (.ofNat 4))) v58 (.int .i64 (.ofNat 4))) fun v66=>
 j6 v66 (
 d6S cb N call a1 v28 v51 v48 v56) (
 cb.bv CR (H6 v56) fun v71=>
 a6J cb N call v71 v56 a1 v51)
theorem c2s (cb:Cb) (N:Nat) (call:j4) (v58:Value) (a1:Value) (v28:Value) (v51:Value) (v48:Value) (v56:Value):b4A cb N call v58 a1 v28 v51 v48 v56=a8y cb N call v58 a1 v28 v51 v48 v56:=by
 simp only [b4A,a8y,l5,c2y]
noncomputable def a8R (cb:Cb) (N:Nat) (call:j4) (v58:Value) (a1:Value) (v51:Value) (v48:Value) (v56:Value) (v28:Value):M CR:=
 cb.bj CR (cb.bv R2 (bq .eql 22 (.tmp 65) (.const (.int .i64 (.ofNat 2))) v58 (.int .i64 (.ofNat 2))) fun v61=>
 j6 v61 (
 M.pure (.normal, [v61,undef,v61])) (
 cb.bv R2 (bq .eql 22 (.tmp 65) (.const (.int .i64 (.ofNat 3))) v58 (.int .i64 (.ofNat 3))) fun v62=>
 M.pure (.normal, [v61,v62,v62]))) fun x59 vs60=>
 l7 x59 (j6 (d9 vs60 2) (
 cb.bv CR (j5 a1) fun v63=>
 cb.bv CR (E8 9 v51) fun v64=>
 cb.bc CR (call 74 [v63,v64,v48,v56]) (fun v65=>
 M.pure (.ret v65)) l6) (
 a8y cb N call v58 a1 v28 v51 v48 v56)) (fun _=>M.fail) (M.fail) l6
theorem c6h (cb:Cb) (N:Nat) (call:j4) (v58:Value) (a1:Value) (v51:Value) (v48:Value) (v56:Value) (v28:Value):b1C cb N call v58 a1 v51 v48 v56 v28=a8R cb N call v58 a1 v51 v48 v56 v28:=by
 simp only [b1C,a8R,l5,c2s]
noncomputable def b0n (cb:Cb) (N:Nat) (call:j4) (v0:Value) (v49:Value) (v51:Value) (a1:Value) (v48:Value) (v28:Value):M CR:=
 cb.bv CR (l9 3 v0) fun v54=>
 cb.bv CR (j5 v54) fun v55=>
 cb.bv CR (Q8 4 v55 (some v49) none) fun v56=>
 cb.bv CR (l9 0 v51) fun v57=>
 cb.bv CR (j5 v57) fun v58=>
 a8R cb N call v58 a1 v51 v48 v56 v28
theorem c7n (cb:Cb) (N:Nat) (call:j4) (v0:Value) (v49:Value) (v51:Value) (a1:Value) (v48:Value) (v28:Value):b1M cb N call v0 v49 v51 a1 v48 v28=b0n cb N call v0 v49 v51 a1 v48 v28:=by
 simp only [b1M,b0n,c6h]
noncomputable def a7t (cb:Cb) (N:Nat) (call:j4) (v46:Value) (v0:Value) (a1:Value) (v28:Value):M CR:=
 cb.bv CR (z8 0 v46) fun v47=>
 cb.bv CR (z8 1 v46) fun v48=>
 cb.bv CR (z8 2 v46) fun v49=>
 cb.bv CR (z8 3 v46) fun v50=>
 cb.bv CR (J6 [(.int .i64 (.ofNat 0)),(.int .i64 (.ofNat 0)),(.int .i64 (.ofNat 0)),(.int .u64 (.ofNat 0)),(.int .i64 (.ofNat 0)),(.int .i64 (.ofNat 0)),(.int .i64 (.ofNat 0)),(.slice none 0 0),(.slice none 0 0)]) fun v51=>
 cb.bv CR (r9 9 v51 v47) fun v52=>
 cb.bv CR (un .not v50) fun v53=>
 j6 v53 (
 M.pure (.ret (.bool false))) (
 b0n cb N call v0 v49 v51 a1 v48 v28)
theorem c3e (cb:Cb) (N:Nat) (call:j4) (v46:Value) (v0:Value) (a1:Value) (v28:Value):b6d cb N call v46 v0 a1 v28=a7t cb N call v46 v0 a1 v28:=by
 simp only [b6d,a7t,c7n]
noncomputable def a9x (cb:Cb) (N:Nat) (call:j4) (a1:Value) (v0:Value) (v28:Value):M CR:=
 cb.bv CR (j5 a1) fun v43=>
 cb.bv CR (l9 3 v0) fun v44=>
 cb.bv CR (j5 v44) fun v45=>
 cb.bc CR (call 73 [v43,v45,(.int .i64 (.ofNat 0))]) (fun v46=>
 a7t cb N call v46 v0 a1 v28) l6
theorem c4J (cb:Cb) (N:Nat) (call:j4) (a1:Value) (v0:Value) (v28:Value):b3X cb N call a1 v0 v28=a9x cb N call a1 v0 v28:=by
 simp only [b3X,a9x,c3e]
noncomputable def a9v (cb:Cb) (N:Nat) (call:j4) (v31:Value) (v28:Value) (a1:Value) (v0:Value):M CR:=
 cb.bv CR (bq .eql 9 (.tmp 38) (.const (.string ⟨⟨[101, 108, 115, 101]⟩⟩)) v31 (.string ⟨⟨[101, 108, 115, 101]⟩⟩)) fun v32=>
 cb.bj CR (l8 (o7 false v32) (cb.bv R2 (l9 2 v28) fun v35=>
 cb.bv R2 (j5 v35) fun v36=>
 cb.bv R2 (bq .eql 9 (.tmp 42) (.const (.string ⟨⟨[101, 110, 100]⟩⟩)) v36 (.string ⟨⟨[101, 110, 100]⟩⟩)) fun v37=>
 M.pure (.normal, [v35,v36,v37])) (M.pure (.normal, [undef,undef,undef]))) fun x33 vs34=>l7 x33 (cb.bv CR (q9 v32 (.bool true) (d9 vs34 2)) fun v38=>
 j6 v38 (
 d7k cb N call a1 v28) (
 a9x cb N call a1 v0 v28)) (fun _=>M.fail) M.fail l6
theorem c5P (cb:Cb) (N:Nat) (call:j4) (v31:Value) (v28:Value) (a1:Value) (v0:Value):b3b cb N call v31 v28 a1 v0=a9v cb N call v31 v28 a1 v0:=by
 simp only [b3b,a9v,l5,c4J]
noncomputable def a7o (cb:Cb) (N:Nat) (call:j4) (v0:Value) (a1:Value):M CR:=
 cb.bv CR (l9 3 v0) fun v24=>
 cb.bv CR (j5 v24) fun v25=>
 cb.bv CR (F3 4 v25 (.int .i64 (.ofNat 0))) fun v26=>
 cb.bv CR (E8 4 v26) fun v27=>
 cb.bv CR (J6 [(.int .i64 (.ofNat 0)),(.int .i64 (.ofNat 0)),(.string ⟨⟨[]⟩⟩),(.slice none 0 0)]) fun v28=>
 cb.bv CR (r9 4 v28 v27) fun v29=>
 cb.bv CR (l9 2 v28) fun v30=>
 cb.bv CR (j5 v30) fun v31=>
 a9v cb N call v31 v28 a1 v0
theorem c6T (cb:Cb) (N:Nat) (call:j4) (v0:Value) (a1:Value):b6M cb N call v0 a1=a7o cb N call v0 a1:=by
 simp only [b6M,a7o,c5P]
noncomputable def a9l (cb:Cb) (N:Nat) (call:j4) (v10:Value) (v0:Value) (a1:Value):M CR:=
 cb.bj CR (l8 (o7 false v10) (cb.bv R2 (l9 3 v0) fun v13=>
 cb.bv R2 (j5 v13) fun v14=>
 cb.bv R2 (F3 4 v14 (.int .i64 (.ofNat 0))) fun v15=>
 cb.bv R2 (l9 0 v15) fun v16=>
 cb.bv R2 (j5 v16) fun v17=>
 cb.bv R2 (bq .neq 117 (.tmp 26) (.const (.int .i64 (.ofNat 2))) v17 (.int .i64 (.ofNat 2))) fun v18=>
 M.pure (.normal, [v13,v14,v15,v16,v17,v18])) (M.pure (.normal, [undef,undef,undef,undef,undef,undef]))) fun x11 vs12=>l7 x11 (cb.bv CR (q9 v10 (.bool true) (d9 vs12 5)) fun v19=>
 j6 v19 (
 d6Z cb N call a1 v0) (
 a7o cb N call v0 a1)) (fun _=>M.fail) M.fail l6
theorem c4X (cb:Cb) (N:Nat) (call:j4) (v10:Value) (v0:Value) (a1:Value):b7o cb N call v10 v0 a1=a9l cb N call v10 v0 a1:=by
 simp only [b7o,a9l,l5,c6T]
noncomputable def b0m (cb:Cb) (N:Nat) (call:j4) (v2:Value) (v0:Value) (a1:Value):M CR:=
 cb.bv CR (bq .neq 117 (.tmp 13) (.const (.int .i64 (.ofNat 0))) v2 (.int .i64 (.ofNat 0))) fun v3=>
 cb.bj CR (l8 (o7 false v3) (cb.bv R2 (l9 3 v0) fun v6=>
 cb.bv R2 (j5 v6) fun v7=>
 cb.bv R2 (H6 v7) fun v8=>
 cb.bv R2 (bq .eql 3 (.tmp 18) (.const (.int .i64 (.ofNat 0))) v8 (.int .i64 (.ofNat 0))) fun v9=>
 M.pure (.normal, [v6,v7,v8,v9])) (M.pure (.normal, [undef,undef,undef,undef]))) fun x4 vs5=>l7 x4 (cb.bv CR (q9 v3 (.bool true) (d9 vs5 3)) fun v10=>
 a9l cb N call v10 v0 a1) (fun _=>M.fail) M.fail l6
theorem c0F (cb:Cb) (N:Nat) (call:j4) (v2:Value) (v0:Value) (a1:Value):b8l cb N call v2 v0 a1=b0m cb N call v2 v0 a1:=by
 simp only [b8l,b0m,l5,c4X]
noncomputable def c0q (cb:Cb) (N:Nat) (call:j4) (a0:Value) (a1:Value):M CR:=
 cb.bv CR (U7 a0) fun v0=>
 cb.bv CR (l9 0 v0) fun v1=>
 cb.bv CR (j5 v1) fun v2=>
 b0m cb N call v2 v0 a1
theorem d5H (cb:Cb) (N:Nat) (call:j4) (a0:Value) (a1:Value):d3Z cb N call a0 a1=c0q cb N call a0 a1:=by
 simp only [d3Z,c0q,c0F]
noncomputable def c1v (call:j4) (u0:Value) (u1:Value) (u2:Value) (u3:Value) (u4:Value) (u5:Value) (u6:Value) (u7:Value) (u8:Value) (u9:Value) (u10:Value) (u11:Value) (u12:Value) (u13:Value) (u14:Value) (u15:Value):M R2:=
 M.bind (M.foot (M.pure u6)) fun y0=>
 M.bind (M.foot (q8 y0.1)) fun y1=>
 M.bind (M.foot (l9 4 y1.1)) fun y2=>
 M.bind (M.foot (E8 9 y2.1)) fun y3=>
 M.bind (M.foot (M.pure u6)) fun y4=>
 M.bind (M.foot (q8 y4.1)) fun y5=>
 M.bind (M.foot (l9 13 y5.1)) fun y6=>
 M.bind (M.foot (j5 y6.1)) fun y7=>
 M.bind (M.foot (M.pure u6)) fun y8=>
 M.bind (M.foot (q8 y8.1)) fun y9=>
 M.bind (M.foot (l9 2 y9.1)) fun y10=>
 M.bind (M.foot (j5 y10.1)) fun y11=>
 M.bind (M.foot (M.pure u10)) fun y12=>
 M.bind (M.foot (r9 9 u11 y3.1)) fun y13=>
 M.bind (M.foot (M.pure y7.1)) fun y14=>
 M.bind (M.foot (M.pure y11.1)) fun y15=>
 M.bind (M.foot (M.pure y12.1)) fun y16=>
 M.guard (G9 [(0, 4),(1, 4),(2, 4),(3, 4),(0, 5),(1, 5),(2, 5),(3, 5),(0, 6),(1, 6),(2, 6),(3, 6),(0, 7),(1, 7),(2, 7),(3, 7),(0, 8),(1, 8),(2, 8),(3, 8),(4, 8),(5, 8),(6, 8),(7, 8),(0, 9),(1, 9),(2, 9),(3, 9),(4, 9),(5, 9),(6, 9),(7, 9),(0, 10),(1, 10),(2, 10),(3, 10),(4, 10),(5, 10),(6, 10),(7, 10),(0, 11),(1, 11),(2, 11),(3, 11),(4, 11),(5, 11),(6, 11),(7, 11),(0, 12),(1, 12),(2, 12),(3, 12),(4, 12),(5, 12),(6, 12),(7, 12),(8, 12),(9, 12),(10, 12),(11, 12),(4, 13),(5, 13),(6, 13),(7, 13),(8, 13),(9, 13),(10, 13),(11, 13),(12, 13),(8, 14),(9, 14),(10, 14),(11, 14),(12, 14),(12, 15)] [y0.2,y1.2,y2.2,y3.2,y4.2,y5.2,y6.2,y7.2,y8.2,y9.2,y10.2,y11.2,y12.2,y13.2,y14.2,y15.2,y16.2]) (M.pure (.normal, [y0.1,y1.1,y2.1,y3.1,y4.1,y5.1,y6.1,y7.1,y8.1,y9.1,y10.1,y11.1,y12.1,y14.1,y15.1,y16.1]))
theorem d4O (call:j4) (u0:Value) (u1:Value) (u2:Value) (u3:Value) (u4:Value) (u5:Value) (u6:Value) (u7:Value) (u8:Value) (u9:Value) (u10:Value) (u11:Value) (u12:Value) (u13:Value) (u14:Value) (u15:Value):c5F call u0 u1 u2 u3 u4 u5 u6 u7 u8 u9 u10 u11 u12 u13 u14 u15=c1v call u0 u1 u2 u3 u4 u5 u6 u7 u8 u9 u10 u11 u12 u13 u14 u15:=by
 simp only [c5F,c1v,l5,fun F hl=>G6 (ops:=a5m) (L:=[(0, 4),(1, 4),(2, 4),(3, 4),(0, 5),(1, 5),(2, 5),(3, 5),(0, 6),(1, 6),(2, 6),(3, 6),(0, 7),(1, 7),(2, 7),(3, 7),(0, 8),(1, 8),(2, 8),(3, 8),(4, 8),(5, 8),(6, 8),(7, 8),(0, 9),(1, 9),(2, 9),(3, 9),(4, 9),(5, 9),(6, 9),(7, 9),(0, 10),(1, 10),(2, 10),(3, 10),(4, 10),(5, 10),(6, 10),(7, 10),(0, 11),(1, 11),(2, 11),(3, 11),(4, 11),(5, 11),(6, 11),(7, 11),(0, 12),(1, 12),(2, 12),(3, 12),(4, 12),(5, 12),(6, 12),(7, 12),(8, 12),(9, 12),(10, 12),(11, 12),(4, 13),(5, 13),(6, 13),(7, 13),(8, 13),(9, 13),(10, 13),(11, 13),(12, 13),(8, 14),(9, 14),(10, 14),(11, 14),(12, 14),(12, 15)]) (n:=17) (by kernel_rfl) (by kernel_rfl) F hl,D9,F7]
noncomputable def b6k (cb:Cb) (N:Nat) (call:j4) (v21:Value) (v0:Value):M CR:=
 cb.bv CR (U7 v21) fun v22=>
 cb.bc CR (call 110 [v22]) (fun v23=>
 cb.bj CR (c1v call undef undef undef undef undef undef v22 undef undef undef v23 v0 undef undef undef undef) fun _ vs24=>
 K5 v0 fun ad26=>cb.bv CR (M.bind (loadN ad26 9) fun q=>M.pure (.agg ⟨q⟩)) fun v25=>
 M.pure (.ret (.tuple ⟨[v25,(d9 vs24 13),(d9 vs24 14),(d9 vs24 15)]⟩))) l6
theorem d0g (cb:Cb) (N:Nat) (call:j4) (v21:Value) (v0:Value):c1K cb N call v21 v0=b6k cb N call v21 v0:=by
 simp only [c1K,b6k,d4d,d4O]
noncomputable def b5h (cb:Cb) (N:Nat) (call:j4) (v5:Value) (a0:Value) (a1:Value) (v16:Value) (v19:Value) (v0:Value):M CR:=
 cb.bv CR (H7 [(0, 1)] [v5] [(.int .i64 (.ofNat 0)),(.int .i64 (.ofNat 0)),(.int .i64 (.ofNat 0)),(.int .u64 (.ofNat 0)),(.int .i64 (.ofNat 0)),(.int .i64 (.ofNat 0)),(.int .i64 (.ofNat 0)),(.slice none 0 0),(.slice none 0 0)]) fun v20=>
 cb.bv CR (H7 [(0, 1),(1, 1),(2, 1),(3, 1),(4, 9)] [a0,a1,v16,v19,v20] [(.pointer none),(.slice none 0 0),(.int .i64 (.ofNat 0)),(.int .i64 (.ofNat 0)),(.int .i64 (.ofNat 0)),(.int .i64 (.ofNat 0)),(.int .i64 (.ofNat 0)),(.int .u64 (.ofNat 0)),(.int .i64 (.ofNat 0)),(.int .i64 (.ofNat 0)),(.int .i64 (.ofNat 0)),(.slice none 0 0),(.slice none 0 0),(.string ⟨⟨[]⟩⟩)]) fun v21=>
 b6k cb N call v21 v0
theorem c8A (cb:Cb) (N:Nat) (call:j4) (v5:Value) (a0:Value) (a1:Value) (v16:Value) (v19:Value) (v0:Value):c1z cb N call v5 a0 a1 v16 v19 v0=b5h cb N call v5 a0 a1 v16 v19 v0:=by
 simp only [c1z,b5h,d0g]
noncomputable def b3o (cb:Cb) (N:Nat) (call:j4) (a2:Value) (a1:Value) (v5:Value) (a0:Value) (v0:Value):M CR:=
 cb.bv CR (bq .add 3 (.tmp 35) (.const (.int .i64 (.ofNat 1))) a2 (.int .i64 (.ofNat 1))) fun v16=>
 cb.bv CR (F3 4 a1 a2) fun v17=>
 cb.bv CR (l9 1 v17) fun v18=>
 cb.bv CR (j5 v18) fun v19=>
 b5h cb N call v5 a0 a1 v16 v19 v0
theorem c8d (cb:Cb) (N:Nat) (call:j4) (a2:Value) (a1:Value) (v5:Value) (a0:Value) (v0:Value):c5n cb N call a2 a1 v5 a0 v0=b3o cb N call a2 a1 v5 a0 v0:=by
 simp only [c5n,b3o,l5,c8A]
noncomputable def c6i (cb:Cb) (N:Nat) (call:j4) (a0:Value) (a1:Value) (a2:Value):M CR:=
 cb.bv CR (J6 [(.int .i64 (.ofNat 0)),(.int .i64 (.ofNat 0)),(.int .i64 (.ofNat 0)),(.int .u64 (.ofNat 0)),(.int .i64 (.ofNat 0)),(.int .i64 (.ofNat 0)),(.int .i64 (.ofNat 0)),(.slice none 0 0),(.slice none 0 0)]) fun v0=>
 cb.bv CR (F3 4 a1 a2) fun v1=>
 cb.bv CR (l9 2 v1) fun v2=>
 cb.bv CR (j5 v2) fun v3=>
 cb.bc CR (call 109 [v3]) (fun v4=>
 cb.bv CR (z8 0 v4) fun v5=>
 cb.bv CR (z8 1 v4) fun v6=>
 cb.bv CR (un .not v6) fun v7=>
 j6 v7 (
 d6X cb N call a1 a2 a0 v0) (
 b3o cb N call a2 a1 v5 a0 v0)) l6
theorem d3j (cb:Cb) (N:Nat) (call:j4) (a0:Value) (a1:Value) (a2:Value):d3n cb N call a0 a1 a2=c6i cb N call a0 a1 a2:=by
 simp only [d3n,c6i,c8d]
noncomputable def c4K (call:j4) (u0:Value) (u1:Value) (u2:Value) (u3:Value) (u4:Value) (u5:Value) (u6:Value) (u7:Value) (u8:Value) (u9:Value) (u10:Value) (u11:Value):M R2:=
 M.bind (M.foot (M.pure u0)) fun y0=>
 M.bind (M.foot (M.pure u0)) fun y1=>
 M.bind (M.foot (q8 y1.1)) fun y2=>
 M.bind (M.foot (l9 1 y2.1)) fun y3=>
 M.bind (M.foot (j5 y3.1)) fun y4=>
 M.bind (M.foot (E8 9 u4)) fun y5=>
 M.bind (M.foot (H8 9 1 [(0, 9)] [y5.1] [(.int .i64 (.ofNat 0)),(.int .i64 (.ofNat 0)),(.int .i64 (.ofNat 0)),(.int .u64 (.ofNat 0)),(.int .i64 (.ofNat 0)),(.int .i64 (.ofNat 0)),(.int .i64 (.ofNat 0)),(.slice none 0 0),(.slice none 0 0)])) fun y6=>
 M.bind (M.foot (Q9 a0B y4.1 y6.1)) fun y7=>
 M.bind (M.foot (q8 y0.1)) fun y8=>
 M.bind (M.foot (l9 1 y8.1)) fun y9=>
 M.bind (M.foot (r9 1 y9.1 y7.1)) fun y10=>
 M.guard (G9 [(0, 1),(0, 2),(0, 3),(0, 4),(0, 5),(1, 5),(2, 5),(3, 5),(4, 5),(0, 6),(1, 6),(2, 6),(3, 6),(4, 6),(0, 7)] [y0.2,y1.2,y2.2,y3.2,y4.2,y5.2,y6.2,y7.2,y8.2,y9.2,y10.2]) (M.pure (.normal, [y0.1,y1.1,y2.1,y3.1,y4.1,y5.1,y6.1,y7.1,y8.1,y9.1]))
theorem d3M (call:j4) (u0:Value) (u1:Value) (u2:Value) (u3:Value) (u4:Value) (u5:Value) (u6:Value) (u7:Value) (u8:Value) (u9:Value) (u10:Value) (u11:Value):c1P call u0 u1 u2 u3 u4 u5 u6 u7 u8 u9 u10 u11=c4K call u0 u1 u2 u3 u4 u5 u6 u7 u8 u9 u10 u11:=by
 simp only [c1P,c4K,l5,fun F hl=>G6 (ops:=a5c) (L:=[(0, 1),(0, 2),(0, 3),(0, 4),(0, 5),(1, 5),(2, 5),(3, 5),(4, 5),(0, 6),(1, 6),(2, 6),(3, 6),(4, 6),(0, 7)]) (n:=11) (by kernel_rfl) (by kernel_rfl) F hl,D9,F7]
noncomputable def c4Y (cb:Cb) (N:Nat) (call:j4) (a0:Value) (a1:Value) (a2:Value) (a3:Value):M CR:=
 cb.bv CR (U7 a1) fun v0=>
 cb.bj CR (c4K call a0 undef undef undef v0 undef undef undef undef undef undef undef) fun _ vs1=>
 cb.bc CR (call 111 [a0,a2]) (fun v2=>
 cb.bc CR (call 76 [a0,a3]) (fun v3=>
 cb.bv CR (un .not v3) fun v4=>
 j6 v4 (
 M.pure (.ret (.bool false))) (
 d6I cb N call a0)) l6) l6
theorem d2S (cb:Cb) (N:Nat) (call:j4) (a0:Value) (a1:Value) (a2:Value) (a3:Value):d5X cb N call a0 a1 a2 a3=c4Y cb N call a0 a1 a2 a3:=by
 simp only [d5X,c4Y,d5r,d3M]
noncomputable def c2C (call:j4) (u0:Value) (u1:Value) (u2:Value) (u3:Value) (u4:Value) (u5:Value) (u6:Value) (u7:Value) (u8:Value) (u9:Value):M R2:=
 M.bind (M.foot (M.pure u0)) fun y0=>
 M.bind (M.foot (q8 y0.1)) fun y1=>
 M.bind (M.foot (l9 5 y1.1)) fun y2=>
 M.bind (M.foot (j5 y2.1)) fun y3=>
 M.bind (M.foot (M.pure u4)) fun y4=>
 M.bind (M.foot (F3 4 y4.1 (.int .i64 (.ofNat 0)))) fun y5=>
 M.bind (M.foot (E8 4 y5.1)) fun y6=>
 M.bind (M.foot (a1C y3.1 [y6.1] (D7 call))) fun y7=>
 M.bind (M.foot (un .not y7.1)) fun y8=>
 M.guard (G9 [(0, 4),(1, 4),(2, 4),(3, 4),(0, 5),(1, 5),(2, 5),(3, 5),(0, 6),(1, 6),(2, 6),(3, 6)] [y0.2,y1.2,y2.2,y3.2,y4.2,y5.2,y6.2,y7.2,y8.2]) (M.pure (.normal, [y0.1,y1.1,y2.1,y3.1,y4.1,y5.1,y6.1,y7.1,y8.1]))
theorem d3t (call:j4) (u0:Value) (u1:Value) (u2:Value) (u3:Value) (u4:Value) (u5:Value) (u6:Value) (u7:Value) (u8:Value) (u9:Value):c0Y call u0 u1 u2 u3 u4 u5 u6 u7 u8 u9=c2C call u0 u1 u2 u3 u4 u5 u6 u7 u8 u9:=by
 simp only [c0Y,c2C,l5,fun F hl=>G6 (ops:=a5h) (L:=[(0, 4),(1, 4),(2, 4),(3, 4),(0, 5),(1, 5),(2, 5),(3, 5),(0, 6),(1, 6),(2, 6),(3, 6)]) (n:=9) (by kernel_rfl) (by kernel_rfl) F hl,D9,F7]
noncomputable def c2e (call:j4) (u0:Value) (u1:Value) (u2:Value) (u3:Value) (u4:Value) (u5:Value) (u6:Value) (u7:Value) (u8:Value) (u9:Value) (u10:Value) (u11:Value):M R2:=
 M.bind (M.foot (M.pure u0)) fun y0=>
 M.bind (M.foot (M.pure u0)) fun y1=>
 M.bind (M.foot (q8 y1.1)) fun y2=>
 M.bind (M.foot (l9 1 y2.1)) fun y3=>
 M.bind (M.foot (j5 y3.1)) fun y4=>
 M.bind (M.foot (E8 9 u4)) fun y5=>
 M.bind (M.foot (H8 9 1 [(0, 9)] [y5.1] [(.int .i64 (.ofNat 0)),(.int .i64 (.ofNat 0)),(.int .i64 (.ofNat 0)),(.int .u64 (.ofNat 0)),(.int .i64 (.ofNat 0)),(.int .i64 (.ofNat 0)),(.int .i64 (.ofNat 0)),(.slice none 0 0),(.slice none 0 0)])) fun y6=>
 M.bind (M.foot (Q9 a0B y4.1 y6.1)) fun y7=>
 M.bind (M.foot (q8 y0.1)) fun y8=>
 M.bind (M.foot (l9 1 y8.1)) fun y9=>
 M.bind (M.foot (r9 1 y9.1 y7.1)) fun y10=>
 M.guard (G9 [(0, 1),(0, 2),(0, 3),(0, 4),(0, 5),(1, 5),(2, 5),(3, 5),(4, 5),(0, 6),(1, 6),(2, 6),(3, 6),(4, 6),(0, 7)] [y0.2,y1.2,y2.2,y3.2,y4.2,y5.2,y6.2,y7.2,y8.2,y9.2,y10.2]) (M.pure (.normal, [y0.1,y1.1,y2.1,y3.1,y4.1,y5.1,y6.1,y7.1,y8.1,y9.1]))
theorem d3O (call:j4) (u0:Value) (u1:Value) (u2:Value) (u3:Value) (u4:Value) (u5:Value) (u6:Value) (u7:Value) (u8:Value) (u9:Value) (u10:Value) (u11:Value):c0M call u0 u1 u2 u3 u4 u5 u6 u7 u8 u9 u10 u11=c2e call u0 u1 u2 u3 u4 u5 u6 u7 u8 u9 u10 u11:=by
 simp only [c0M,c2e,l5,fun F hl=>G6 (ops:=a5v) (L:=[(0, 1),(0, 2),(0, 3),(0, 4),(0, 5),(1, 5),(2, 5),(3, 5),(4, 5),(0, 6),(1, 6),(2, 6),(3, 6),(4, 6),(0, 7)]) (n:=11) (by kernel_rfl) (by kernel_rfl) F hl,D9,F7]
noncomputable def b7T (cb:Cb) (N:Nat) (call:j4) (a0:Value) (xs2:List Value) (v5:Value) (v6:Value) (vs8:List Value) (v13:Value) (v14:Value) (v15:Value) (v16:Value) (v17:Value):M R2:=
 cb.bj R2 (c2C call a0 (d9 xs2 21) (d9 xs2 22) (d9 xs2 23) (d9 xs2 33) (d9 xs2 25) (d9 xs2 26) (d9 xs2 24) (d9 xs2 27) (d9 xs2 28)) fun _ vs22=>
 j6 (d9 vs22 8) (
 d6M cb N call xs2 v5 v6 vs8 v13 v14 v15 v16 v17 vs22) (
 d7r cb N call xs2 v5 v6 vs8 v13 v14 v15 v16 v17 vs22)
theorem d2A (cb:Cb) (N:Nat) (call:j4) (a0:Value) (xs2:List Value) (v5:Value) (v6:Value) (vs8:List Value) (v13:Value) (v14:Value) (v15:Value) (v16:Value) (v17:Value):c1F cb N call a0 xs2 v5 v6 vs8 v13 v14 v15 v16 v17=b7T cb N call a0 xs2 v5 v6 vs8 v13 v14 v15 v16 v17:=by
 simp only [c1F,b7T,d4v,d3t]
noncomputable def b8u (cb:Cb) (N:Nat) (call:j4) (xs2:List Value) (a0:Value) (v5:Value) (v6:Value) (vs8:List Value) (v13:Value):M R2:=
 cb.bv R2 (F3 4 (d9 xs2 33) (.int .i64 (.ofNat 0))) fun v14=>
 cb.bv R2 (l9 0 v14) fun v15=>
 cb.bv R2 (j5 v15) fun v16=>
 cb.bv R2 (bq .neq 117 (.tmp 24) (.const (.int .i64 (.ofNat 0))) v16 (.int .i64 (.ofNat 0))) fun v17=>
 j6 v17 (
 cb.bv R2 (F3 4 (d9 xs2 33) (.int .i64 (.ofNat 0))) fun v18=>
 d7E cb N call v18 a0 xs2 v5 v6 vs8 v13 v14 v15 v16 v17) (
 b7T cb N call a0 xs2 v5 v6 vs8 v13 v14 v15 v16 v17)
theorem c8M (cb:Cb) (N:Nat) (call:j4) (xs2:List Value) (a0:Value) (v5:Value) (v6:Value) (vs8:List Value) (v13:Value):c6r cb N call xs2 a0 v5 v6 vs8 v13=b8u cb N call xs2 a0 v5 v6 vs8 v13:=by
 simp only [c6r,b8u,l5,d2A]
noncomputable def b2m (cb:Cb) (N:Nat) (call:j4) (v6:Value) (xs2:List Value) (a0:Value) (v5:Value):M R2:=
 cb.bj R2 (l8 (o7 true v6) (cb.bv R2 (F3 4 (d9 xs2 33) (.int .i64 (.ofNat 0))) fun v9=>
 cb.bv R2 (E8 4 v9) fun v10=>
 cb.bc R2 (call 113 [v10,(.string ⟨⟨[116, 104, 101, 110]⟩⟩)]) (fun v11=>
 cb.bv R2 (un .not v11) fun v12=>
 M.pure (.normal, [(d9 xs2 33),v9,v10,v11,v12])) l6) (M.pure (.normal, [undef,undef,undef,undef,undef]))) fun x7 vs8=>l7 x7 (cb.bv R2 (q9 v6 (d9 vs8 4) (.bool false)) fun v13=>
 j6 v13 (
 b8u cb N call xs2 a0 v5 v6 vs8 v13) (
 d7h cb N call xs2 v5 v6 vs8 v13)) (fun _=>M.fail) M.fail l6
theorem c9P (cb:Cb) (N:Nat) (call:j4) (v6:Value) (xs2:List Value) (a0:Value) (v5:Value):c5W cb N call v6 xs2 a0 v5=b2m cb N call v6 xs2 a0 v5:=by
 simp only [c5W,b2m,c8M]
noncomputable def b4k (cb:Cb) (N:Nat) (call:j4) (a0:Value) (xs2:List Value):M R2:=
 cb.bv R2 (H6 (d9 xs2 33)) fun v5=>
 cb.bv R2 (bq .gtr 3 (.tmp 12) (.const (.int .i64 (.ofNat 0))) v5 (.int .i64 (.ofNat 0))) fun v6=>
 b2m cb N call v6 xs2 a0 v5
theorem c9K (cb:Cb) (N:Nat) (call:j4) (a0:Value):c0W cb N call a0=b4k cb N call a0:=by
 funext xs2
 simp only [c0W,b4k,l5,c9P]
noncomputable def a8u (cb:Cb) (N:Nat) (call:j4) (v40:Value) (a0:Value) (vs4:List Value) (v41:Value) (v42:Value) (v43:Value) (v44:Value) (v45:Value) (v46:Value) (v51:Value) (v52:Value) (v53:Value) (v54:Value) (v55:Value) (v56:Value) (v57:Value) (v58:Value) (v60:Value) (v61:Value) (v62:Value) (v63:Value) (v64:Value) (v65:Value):M R2:=
 cb.bv R2 (H6 v40) fun v66=>
 cb.bv R2 (bq .gtr 3 (.tmp 106) (.const (.int .i64 (.ofNat 1))) v66 (.int .i64 (.ofNat 1))) fun v67=>
 j6 v67 (
 d0w cb N call v40 a0 vs4 v41 v42 v43 v44 v45 v46 v51 v52 v53 v54 v55 v56 v57 v58 v60 v61 v62 v63 v64 v65 v66 v67) (
 c7Z cb N call vs4 v40 v41 v42 v43 v44 v45 v46 a0 v51 v52 v53 v54 v55 v56 v57 v58 v60 v61 v62 v63 v64 v65 v66 v67)
theorem c6F (cb:Cb) (N:Nat) (call:j4) (v40:Value) (a0:Value) (vs4:List Value) (v41:Value) (v42:Value) (v43:Value) (v44:Value) (v45:Value) (v46:Value) (v51:Value) (v52:Value) (v53:Value) (v54:Value) (v55:Value) (v56:Value) (v57:Value) (v58:Value) (v60:Value) (v61:Value) (v62:Value) (v63:Value) (v64:Value) (v65:Value):b1u cb N call v40 a0 vs4 v41 v42 v43 v44 v45 v46 v51 v52 v53 v54 v55 v56 v57 v58 v60 v61 v62 v63 v64 v65=a8u cb N call v40 a0 vs4 v41 v42 v43 v44 v45 v46 v51 v52 v53 v54 v55 v56 v57 v58 v60 v61 v62 v63 v64 v65:=by
 simp only [b1u,a8u,l5]
noncomputable def a9c (cb:Cb) (N:Nat) (call:j4) (v40:Value) (a0:Value) (vs4:List Value) (v41:Value) (v42:Value) (v43:Value) (v44:Value) (v45:Value) (v46:Value) (v51:Value) (v52:Value) (v53:Value) (v54:Value) (v55:Value) (v56:Value) (v57:Value) (v58:Value):M R2:=
 cb.bv R2 (F3 4 v40 (.int .i64 (.ofNat 0))) fun v60=>
 cb.bv R2 (l9 3 v60) fun v61=>
 cb.bv R2 (j5 v61) fun v62=>
 cb.bv R2 (Q8 4 v62 (some (.int .i64 (.ofNat 1))) none) fun v63=>
 cb.bc R2 (call 76 [a0,v63]) (fun v64=>
 cb.bv R2 (un .not v64) fun v65=>
 j6 v65 (
 c8W cb N call vs4 v40 v41 v42 v43 v44 v45 v46 a0 v51 v52 v53 v54 v55 v56 v57 v58 v60 v61 v62 v63 v64 v65) (
 a8u cb N call v40 a0 vs4 v41 v42 v43 v44 v45 v46 v51 v52 v53 v54 v55 v56 v57 v58 v60 v61 v62 v63 v64 v65)) l6
theorem c4x (cb:Cb) (N:Nat) (call:j4) (v40:Value) (a0:Value) (vs4:List Value) (v41:Value) (v42:Value) (v43:Value) (v44:Value) (v45:Value) (v46:Value) (v51:Value) (v52:Value) (v53:Value) (v54:Value) (v55:Value) (v56:Value) (v57:Value) (v58:Value):b1V cb N call v40 a0 vs4 v41 v42 v43 v44 v45 v46 v51 v52 v53 v54 v55 v56 v57 v58=a9c cb N call v40 a0 vs4 v41 v42 v43 v44 v45 v46 v51 v52 v53 v54 v55 v56 v57 v58:=by
 simp only [b1V,a9c,c6F]
noncomputable def a6s (cb:Cb) (N:Nat) (call:j4) (v53:Value) (a0:Value) (v40:Value) (vs4:List Value) (v41:Value) (v42:Value) (v43:Value) (v44:Value) (v45:Value) (v46:Value) (v51:Value) (v52:Value):M R2:=
 cb.bv R2 (H7 [(0, 1)] [(.int .i64 (.ofNat 5))] [(.int .i64 (.ofNat 0)),(.int .i64 (.ofNat 0)),(.int .i64 (.ofNat 0)),(.int .u64 (.ofNat 0)),(.int .i64 (.ofNat 0)),(.int .i64 (.ofNat 0)),(.int .i64 (.ofNat 0)),(.slice none 0 0),(.slice none 0 0)]) fun v54=>
 cb.bv R2 (H8 9 1 [(0, 9)] [v54] [(.int .i64 (.ofNat 0)),(.int .i64 (.ofNat 0)),(.int .i64 (.ofNat 0)),(.int .u64 (.ofNat 0)),(.int .i64 (.ofNat 0)),(.int .i64 (.ofNat 0)),(.int .i64 (.ofNat 0)),(.slice none 0 0),(.slice none 0 0)]) fun v55=>
 cb.bv R2 (Q9 a0B v53 v55) fun v56=>
 cb.bv R2 (q8 a0) fun v57=>
 cb.bv R2 (l9 1 v57) fun v58=>
 cb.bv R2 (r9 1 v58 v56) fun v59=>
 a9c cb N call v40 a0 vs4 v41 v42 v43 v44 v45 v46 v51 v52 v53 v54 v55 v56 v57 v58
theorem c1H (cb:Cb) (N:Nat) (call:j4) (v53:Value) (a0:Value) (v40:Value) (vs4:List Value) (v41:Value) (v42:Value) (v43:Value) (v44:Value) (v45:Value) (v46:Value) (v51:Value) (v52:Value):b2N cb N call v53 a0 v40 vs4 v41 v42 v43 v44 v45 v46 v51 v52=a6s cb N call v53 a0 v40 vs4 v41 v42 v43 v44 v45 v46 v51 v52:=by
 simp only [b2N,a6s,c4x]
noncomputable def b0c (cb:Cb) (N:Nat) (call:j4) (a0:Value) (v40:Value) (vs4:List Value) (v41:Value) (v42:Value) (v43:Value) (v44:Value) (v45:Value) (v46:Value):M R2:=
 cb.bv R2 (q8 a0) fun v51=>
 cb.bv R2 (l9 1 v51) fun v52=>
 cb.bv R2 (j5 v52) fun v53=>
 a6s cb N call v53 a0 v40 vs4 v41 v42 v43 v44 v45 v46 v51 v52
theorem c6U (cb:Cb) (N:Nat) (call:j4) (a0:Value) (v40:Value) (vs4:List Value) (v41:Value) (v42:Value) (v43:Value) (v44:Value) (v45:Value) (v46:Value):b3l cb N call a0 v40 vs4 v41 v42 v43 v44 v45 v46=b0c cb N call a0 v40 vs4 v41 v42 v43 v44 v45 v46:=by
 simp only [b3l,b0c,c1H]
noncomputable def a9g (cb:Cb) (N:Nat) (call:j4) (v40:Value) (a0:Value) (vs4:List Value) (v41:Value) (v42:Value):M R2:=
 cb.bv R2 (F3 4 v40 (.int .i64 (.ofNat 0))) fun v43=>
 cb.bv R2 (E8 4 v43) fun v44=>
 cb.bc R2 (call 113 [v44,(.string ⟨⟨[101, 108, 115, 101]⟩⟩)]) (fun v45=>
 cb.bv R2 (un .not v45) fun v46=>
 j6 v46 (
 d7b cb N call v40 a0 vs4 v41 v42 v43 v44 v45 v46) (
 b0c cb N call a0 v40 vs4 v41 v42 v43 v44 v45 v46)) l6
theorem c6J (cb:Cb) (N:Nat) (call:j4) (v40:Value) (a0:Value) (vs4:List Value) (v41:Value) (v42:Value):b3g cb N call v40 a0 vs4 v41 v42=a9g cb N call v40 a0 vs4 v41 v42:=by
 simp only [b3g,a9g,c6U]
noncomputable def a6B (cb:Cb) (N:Nat) (call:j4) (vs4:List Value) (a0:Value):M CR:=
 cb.bj CR (cb.bv R2 (Q8 4 (d9 vs4 33) (some (.int .i64 (.ofNat 1))) none) fun v40=>
 cb.bv R2 (H6 v40) fun v41=>
 cb.bv R2 (bq .gtr 3 (.tmp 74) (.const (.int .i64 (.ofNat 0))) v41 (.int .i64 (.ofNat 0))) fun v42=>
 j6 v42 (
 a9g cb N call v40 a0 vs4 v41 v42) (
 c8a cb N call vs4 v40 v41 v42)) fun x38 vs39=>
 l7 x38 (cb.bc CR (call 112 [a0]) (fun v72=>
 cb.bv CR (q8 a0) fun v73=>
 cb.bv CR (l9 1 v73) fun v74=>
 cb.bv CR (j5 v74) fun v75=>
 c8O cb N call v75 a0) l6) (fun _=>M.fail) (M.pure (.ret (d9 vs39 44))) l6
theorem c2g (cb:Cb) (N:Nat) (call:j4) (vs4:List Value) (a0:Value):b8r cb N call vs4 a0=a6B cb N call vs4 a0:=by
 simp only [b8r,a6B,l5,c6J]
noncomputable def a8t (cb:Cb) (N:Nat) (call:j4) (a0:Value) (v1:Value) (a3:Value) (vs4:List Value):M CR:=
 cb.bj CR (c2e call a0 undef undef undef v1 undef undef undef undef undef undef undef) fun _ vs30=>
 cb.bc CR (call 111 [a0,a3]) (fun v31=>
 cb.bv CR (F3 4 (d9 vs4 33) (.int .i64 (.ofNat 0))) fun v32=>
 cb.bv CR (l9 3 v32) fun v33=>
 cb.bv CR (j5 v33) fun v34=>
 cb.bv CR (Q8 4 v34 (some (.int .i64 (.ofNat 1))) none) fun v35=>
 cb.bc CR (call 76 [a0,v35]) (fun v36=>
 cb.bv CR (un .not v36) fun v37=>
 j6 v37 (
 M.pure (.ret (.bool false))) (
 a6B cb N call vs4 a0)) l6) l6
theorem c0E (cb:Cb) (N:Nat) (call:j4) (a0:Value) (v1:Value) (a3:Value) (vs4:List Value):b3z cb N call a0 v1 a3 vs4=a8t cb N call a0 v1 a3 vs4:=by
 simp only [b3z,a8t,d6v,d3O,c2g]
noncomputable def a6E (cb:Cb) (N:Nat) (call:j4) (a0:Value) (a4:Value) (v0:Value) (v1:Value) (a3:Value):M CR:=
 cb.bj CR (cb.lp (b4k cb N call a0) N [undef,undef,undef,undef,undef,undef,undef,undef,undef,undef,undef,undef,undef,undef,undef,undef,undef,undef,undef,undef,undef,undef,undef,undef,undef,undef,undef,undef,undef,undef,(.bool false),undef,undef,a4]) fun x3 vs4=>
 l7 x3 (M.fail) (fun i24=>l8 (Nat.beq i24 0) (cb.bv CR (H6 (d9 vs4 33)) fun v25=>
 cb.bv CR (bq .eql 3 (.tmp 44) (.const (.int .i64 (.ofNat 0))) v25 (.int .i64 (.ofNat 0))) fun v26=>
 j6 v26 (
 d7l cb N call v0 a0) (
 a8t cb N call a0 v1 a3 vs4)) (M.fail)) (M.pure (.ret (d9 vs4 30))) l6
theorem c6z (cb:Cb) (N:Nat) (call:j4) (a0:Value) (a4:Value) (v0:Value) (v1:Value) (a3:Value):b4C cb N call a0 a4 v0 v1 a3=a6E cb N call a0 a4 v0 v1 a3:=by
 simp only [b4C,a6E,l5,c9K,c0E]
noncomputable def c4U (cb:Cb) (N:Nat) (call:j4) (a0:Value) (a1:Value) (a2:Value) (a3:Value) (a4:Value):M CR:=
 cb.bv CR (U7 a1) fun v0=>
 cb.bv CR (U7 a2) fun v1=>
 a6E cb N call a0 a4 v0 v1 a3
theorem d4a (cb:Cb) (N:Nat) (call:j4) (a0:Value) (a1:Value) (a2:Value) (a3:Value) (a4:Value):d4h cb N call a0 a1 a2 a3 a4=c4U cb N call a0 a1 a2 a3 a4:=by
 simp only [d4h,c4U,c6z]
noncomputable def c6v (call:j4) (u0:Value) (u1:Value) (u2:Value) (u3:Value) (u4:Value) (u5:Value) (u6:Value) (u7:Value):M R2:=
 M.bind (M.foot (M.pure u0)) fun y0=>
 M.bind (M.foot (q8 y0.1)) fun y1=>
 M.bind (M.foot (l9 5 y1.1)) fun y2=>
 M.bind (M.foot (j5 y2.1)) fun y3=>
 M.bind (M.foot (E8 4 u4)) fun y4=>
 M.bind (M.foot (a1C y3.1 [y4.1] (D7 call))) fun y5=>
 M.bind (M.foot (un .not y5.1)) fun y6=>
 M.guard (G9 [(0, 4),(1, 4),(2, 4),(3, 4)] [y0.2,y1.2,y2.2,y3.2,y4.2,y5.2,y6.2]) (M.pure (.normal, [y0.1,y1.1,y2.1,y3.1,y4.1,y5.1,y6.1]))
theorem d5Y (call:j4) (u0:Value) (u1:Value) (u2:Value) (u3:Value) (u4:Value) (u5:Value) (u6:Value) (u7:Value):c2r call u0 u1 u2 u3 u4 u5 u6 u7=c6v call u0 u1 u2 u3 u4 u5 u6 u7:=by
 simp only [c2r,c6v,l5,fun F hl=>G6 (ops:=a5J) (L:=[(0, 4),(1, 4),(2, 4),(3, 4)]) (n:=7) (by kernel_rfl) (by kernel_rfl) F hl,D9,F7]
noncomputable def b6P (call:j4) (u0:Value) (u1:Value) (u2:Value) (u3:Value) (u4:Value) (u5:Value) (u6:Value) (u7:Value) (u8:Value) (u9:Value) (u10:Value) (u11:Value):M R2:=
 M.bind (M.foot (M.pure u0)) fun y0=>
 M.bind (M.foot (M.pure u0)) fun y1=>
 M.bind (M.foot (q8 y1.1)) fun y2=>
 M.bind (M.foot (l9 1 y2.1)) fun y3=>
 M.bind (M.foot (j5 y3.1)) fun y4=>
 M.bind (M.foot (E8 9 u4)) fun y5=>
 M.bind (M.foot (H8 9 1 [(0, 9)] [y5.1] [(.int .i64 (.ofNat 0)),(.int .i64 (.ofNat 0)),(.int .i64 (.ofNat 0)),(.int .u64 (.ofNat 0)),(.int .i64 (.ofNat 0)),(.int .i64 (.ofNat 0)),(.int .i64 (.ofNat 0)),(.slice none 0 0),(.slice none 0 0)])) fun y6=>
 M.bind (M.foot (Q9 a0B y4.1 y6.1)) fun y7=>
 M.bind (M.foot (q8 y0.1)) fun y8=>
 M.bind (M.foot (l9 1 y8.1)) fun y9=>
 M.bind (M.foot (r9 1 y9.1 y7.1)) fun y10=>
 M.guard (G9 [(0, 1),(0, 2),(0, 3),(0, 4),(0, 5),(1, 5),(2, 5),(3, 5),(4, 5),(0, 6),(1, 6),(2, 6),(3, 6),(4, 6),(0, 7)] [y0.2,y1.2,y2.2,y3.2,y4.2,y5.2,y6.2,y7.2,y8.2,y9.2,y10.2]) (M.pure (.normal, [y0.1,y1.1,y2.1,y3.1,y4.1,y5.1,y6.1,y7.1,y8.1,y9.1]))
theorem d1c (call:j4) (u0:Value) (u1:Value) (u2:Value) (u3:Value) (u4:Value) (u5:Value) (u6:Value) (u7:Value) (u8:Value) (u9:Value) (u10:Value) (u11:Value):b2O call u0 u1 u2 u3 u4 u5 u6 u7 u8 u9 u10 u11=b6P call u0 u1 u2 u3 u4 u5 u6 u7 u8 u9 u10 u11:=by
 simp only [b2O,b6P,l5,fun F hl=>G6 (ops:=a3o) (L:=[(0, 1),(0, 2),(0, 3),(0, 4),(0, 5),(1, 5),(2, 5),(3, 5),(4, 5),(0, 6),(1, 6),(2, 6),(3, 6),(4, 6),(0, 7)]) (n:=11) (by kernel_rfl) (by kernel_rfl) F hl,D9,F7]
noncomputable def b7S (call:j4) (u0:Value) (u1:Value) (u2:Value) (u3:Value) (u4:Value) (u5:Value) (u6:Value) (u7:Value) (u8:Value) (u9:Value) (u10:Value) (u11:Value):M R2:=
 M.bind (M.foot (M.pure u0)) fun y0=>
 M.bind (M.foot (M.pure u0)) fun y1=>
 M.bind (M.foot (q8 y1.1)) fun y2=>
 M.bind (M.foot (l9 1 y2.1)) fun y3=>
 M.bind (M.foot (j5 y3.1)) fun y4=>
 M.bind (M.foot (E8 9 u4)) fun y5=>
 M.bind (M.foot (H8 9 1 [(0, 9)] [y5.1] [(.int .i64 (.ofNat 0)),(.int .i64 (.ofNat 0)),(.int .i64 (.ofNat 0)),(.int .u64 (.ofNat 0)),(.int .i64 (.ofNat 0)),(.int .i64 (.ofNat 0)),(.int .i64 (.ofNat 0)),(.slice none 0 0),(.slice none 0 0)])) fun y6=>
 M.bind (M.foot (Q9 a0B y4.1 y6.1)) fun y7=>
 M.bind (M.foot (q8 y0.1)) fun y8=>
 M.bind (M.foot (l9 1 y8.1)) fun y9=>
 M.bind (M.foot (r9 1 y9.1 y7.1)) fun y10=>
 M.guard (G9 [(0, 1),(0, 2),(0, 3),(0, 4),(0, 5),(1, 5),(2, 5),(3, 5),(4, 5),(0, 6),(1, 6),(2, 6),(3, 6),(4, 6),(0, 7)] [y0.2,y1.2,y2.2,y3.2,y4.2,y5.2,y6.2,y7.2,y8.2,y9.2,y10.2]) (M.pure (.normal, [y0.1,y1.1,y2.1,y3.1,y4.1,y5.1,y6.1,y7.1,y8.1,y9.1]))
theorem d1b (call:j4) (u0:Value) (u1:Value) (u2:Value) (u3:Value) (u4:Value) (u5:Value) (u6:Value) (u7:Value) (u8:Value) (u9:Value) (u10:Value) (u11:Value):b1A call u0 u1 u2 u3 u4 u5 u6 u7 u8 u9 u10 u11=b7S call u0 u1 u2 u3 u4 u5 u6 u7 u8 u9 u10 u11:=by
 simp only [b1A,b7S,l5,fun F hl=>G6 (ops:=a3H) (L:=[(0, 1),(0, 2),(0, 3),(0, 4),(0, 5),(1, 5),(2, 5),(3, 5),(4, 5),(0, 6),(1, 6),(2, 6),(3, 6),(4, 6),(0, 7)]) (n:=11) (by kernel_rfl) (by kernel_rfl) F hl,D9,F7]
noncomputable def b3U (cb:Cb) (N:Nat) (call:j4) (xs0:List Value) (a1:Value) (v3:Value) (v4:Value) (v5:Value) (v6:Value) (v7:Value) (v9:Value) (v10:Value) (v11:Value) (vs12:List Value):M R2:=
 cb.bv R2 (bq .add 3 (.tmp 34) (.const (.int .i64 (.ofNat 1))) (d9 xs0 148) (.int .i64 (.ofNat 1))) fun v13=>
 d7d cb N call xs0 a1 v3 v4 v5 v6 v7 v9 v10 v11 vs12 v13
theorem c9L (cb:Cb) (N:Nat) (call:j4) (xs0:List Value) (a1:Value) (v3:Value) (v4:Value) (v5:Value) (v6:Value) (v7:Value) (v9:Value) (v10:Value) (v11:Value) (vs12:List Value):c2F cb N call xs0 a1 v3 v4 v5 v6 v7 v9 v10 v11 vs12=b3U cb N call xs0 a1 v3 v4 v5 v6 v7 v9 v10 v11 vs12:=by
 simp only [c2F,b3U,l5]
noncomputable def b7X (cb:Cb) (N:Nat) (call:j4) (a0:Value) (xs0:List Value) (v7:Value) (a1:Value) (v3:Value) (v4:Value) (v5:Value) (v6:Value) (v9:Value) (v10:Value) (v11:Value):M R2:=
 cb.bj R2 (c6v call a0 (d9 xs0 13) (d9 xs0 14) (d9 xs0 15) v7 (d9 xs0 16) (d9 xs0 17) (d9 xs0 18)) fun _ vs12=>
 j6 (d9 vs12 6) (
 d7n cb N call xs0 a1 v3 v4 v5 v6 v7 v9 v10 v11 vs12) (
 b3U cb N call xs0 a1 v3 v4 v5 v6 v7 v9 v10 v11 vs12)
theorem d1F (cb:Cb) (N:Nat) (call:j4) (a0:Value) (xs0:List Value) (v7:Value) (a1:Value) (v3:Value) (v4:Value) (v5:Value) (v6:Value) (v9:Value) (v10:Value) (v11:Value):c5y cb N call a0 xs0 v7 a1 v3 v4 v5 v6 v9 v10 v11=b7X cb N call a0 xs0 v7 a1 v3 v4 v5 v6 v9 v10 v11:=by
 simp only [c5y,b7X,d4l,d5Y,c9L]
noncomputable def b0j (cb:Cb) (N:Nat) (call:j4) (a0:Value) (xs0:List Value) (v59:Value) (a1:Value) (v3:Value) (v4:Value) (v5:Value) (v6:Value) (v7:Value) (v9:Value) (v10:Value) (v11:Value) (v14:Value) (v15:Value) (v16:Value) (v20:Value) (v21:Value) (v22:Value) (vs24:List Value) (v28:Value) (v29:Value) (v30:Value) (v31:Value) (vs33:List Value) (vs38:List Value) (vs44:List Value) (vs49:List Value) (vs52:List Value) (v54:Value) (v58:Value) (v61:Value) (v62:Value) (vs65:List Value):M R2:=
 cb.bj R2 (b6P call a0 (d9 xs0 85) (d9 xs0 86) (d9 xs0 87) v59 (d9 xs0 89) (d9 xs0 88) (d9 xs0 90) (d9 xs0 84) (d9 xs0 92) (d9 xs0 93) (d9 xs0 91)) fun _ vs73=>
 cb.bv R2 (bq .add 3 (.tmp 106) (.const (.int .i64 (.ofNat 1))) (d9 xs0 148) (.int .i64 (.ofNat 1))) fun v74=>
 d7z cb N call xs0 a1 v3 v4 v5 v6 v7 v9 v10 v11 v14 v15 v16 v20 v21 v22 vs24 v28 v29 v30 v31 vs33 vs38 vs44 vs49 vs52 v54 v58 v59 v61 v62 vs65 vs73 v74
theorem c7J (cb:Cb) (N:Nat) (call:j4) (a0:Value) (xs0:List Value) (v59:Value) (a1:Value) (v3:Value) (v4:Value) (v5:Value) (v6:Value) (v7:Value) (v9:Value) (v10:Value) (v11:Value) (v14:Value) (v15:Value) (v16:Value) (v20:Value) (v21:Value) (v22:Value) (vs24:List Value) (v28:Value) (v29:Value) (v30:Value) (v31:Value) (vs33:List Value) (vs38:List Value) (vs44:List Value) (vs49:List Value) (vs52:List Value) (v54:Value) (v58:Value) (v61:Value) (v62:Value) (vs65:List Value):b5e cb N call a0 xs0 v59 a1 v3 v4 v5 v6 v7 v9 v10 v11 v14 v15 v16 v20 v21 v22 vs24 v28 v29 v30 v31 vs33 vs38 vs44 vs49 vs52 v54 v58 v61 v62 vs65=b0j cb N call a0 xs0 v59 a1 v3 v4 v5 v6 v7 v9 v10 v11 v14 v15 v16 v20 v21 v22 vs24 v28 v29 v30 v31 vs33 vs38 vs44 vs49 vs52 v54 v58 v61 v62 vs65:=by
 simp only [b5e,b0j,l5,c8i,d1c]
noncomputable def b0h (cb:Cb) (N:Nat) (call:j4) (v7:Value) (v59:Value) (xs0:List Value) (v30:Value) (a0:Value) (a1:Value) (v3:Value) (v4:Value) (v5:Value) (v6:Value) (v9:Value) (v10:Value) (v11:Value) (v14:Value) (v15:Value) (v16:Value) (v20:Value) (v21:Value) (v22:Value) (vs24:List Value) (v28:Value) (v29:Value) (v31:Value) (vs33:List Value) (vs38:List Value) (vs44:List Value) (vs49:List Value) (vs52:List Value) (v54:Value) (v58:Value) (v61:Value) (v62:Value):M R2:=
 cb.bj R2 (cb.bv R2 (l9 2 v7) fun v66=>
 cb.bv R2 (j5 v66) fun v67=>
 cb.bv R2 (bq .eql 9 (.tmp 88) (.const (.string ⟨⟨[101, 110, 100]⟩⟩)) v67 (.string ⟨⟨[101, 110, 100]⟩⟩)) fun v68=>
 j6 v68 (
 d7x cb N call v59 xs0 v30 a0 v66 v67 v68) (
 M.pure (.normal, [v66,v67,v68,(d9 xs0 78),(d9 xs0 79),(d9 xs0 80),(d9 xs0 81),(d9 xs0 143),(d9 xs0 82),(d9 xs0 83)]))) fun x64 vs65=>
 l7 x64 (b0j cb N call a0 xs0 v59 a1 v3 v4 v5 v6 v7 v9 v10 v11 v14 v15 v16 v20 v21 v22 vs24 v28 v29 v30 v31 vs33 vs38 vs44 vs49 vs52 v54 v58 v61 v62 vs65) (fun _=>M.fail) (M.fail) l6
theorem c7h (cb:Cb) (N:Nat) (call:j4) (v7:Value) (v59:Value) (xs0:List Value) (v30:Value) (a0:Value) (a1:Value) (v3:Value) (v4:Value) (v5:Value) (v6:Value) (v9:Value) (v10:Value) (v11:Value) (v14:Value) (v15:Value) (v16:Value) (v20:Value) (v21:Value) (v22:Value) (vs24:List Value) (v28:Value) (v29:Value) (v31:Value) (vs33:List Value) (vs38:List Value) (vs44:List Value) (vs49:List Value) (vs52:List Value) (v54:Value) (v58:Value) (v61:Value) (v62:Value):b5L cb N call v7 v59 xs0 v30 a0 a1 v3 v4 v5 v6 v9 v10 v11 v14 v15 v16 v20 v21 v22 vs24 v28 v29 v31 vs33 vs38 vs44 vs49 vs52 v54 v58 v61 v62=b0h cb N call v7 v59 xs0 v30 a0 a1 v3 v4 v5 v6 v9 v10 v11 v14 v15 v16 v20 v21 v22 vs24 v28 v29 v31 vs33 vs38 vs44 vs49 vs52 v54 v58 v61 v62:=by
 simp only [b5L,b0h,l5,c7J]
noncomputable def a6Z (cb:Cb) (N:Nat) (call:j4) (v58:Value) (xs0:List Value) (v30:Value) (v7:Value) (a0:Value) (a1:Value) (v3:Value) (v4:Value) (v5:Value) (v6:Value) (v9:Value) (v10:Value) (v11:Value) (v14:Value) (v15:Value) (v16:Value) (v20:Value) (v21:Value) (v22:Value) (vs24:List Value) (v28:Value) (v29:Value) (v31:Value) (vs33:List Value) (vs38:List Value) (vs44:List Value) (vs49:List Value) (vs52:List Value) (v54:Value):M R2:=
 cb.bv R2 (J6 [(.int .i64 (.ofNat 0)),(.int .i64 (.ofNat 0)),(.int .i64 (.ofNat 0)),(.int .u64 (.ofNat 0)),(.int .i64 (.ofNat 0)),(.int .i64 (.ofNat 0)),(.int .i64 (.ofNat 0)),(.slice none 0 0),(.slice none 0 0)]) fun v59=>
 cb.bv R2 (r9 9 v59 v58) fun v60=>
 cb.bv R2 (F3 3 (d9 xs0 143) v30) fun v61=>
 cb.bv R2 (l9 2 v61) fun v62=>
 cb.bv R2 (r9 1 v62 (.bool true)) fun v63=>
 b0h cb N call v7 v59 xs0 v30 a0 a1 v3 v4 v5 v6 v9 v10 v11 v14 v15 v16 v20 v21 v22 vs24 v28 v29 v31 vs33 vs38 vs44 vs49 vs52 v54 v58 v61 v62
theorem c7l (cb:Cb) (N:Nat) (call:j4) (v58:Value) (xs0:List Value) (v30:Value) (v7:Value) (a0:Value) (a1:Value) (v3:Value) (v4:Value) (v5:Value) (v6:Value) (v9:Value) (v10:Value) (v11:Value) (v14:Value) (v15:Value) (v16:Value) (v20:Value) (v21:Value) (v22:Value) (vs24:List Value) (v28:Value) (v29:Value) (v31:Value) (vs33:List Value) (vs38:List Value) (vs44:List Value) (vs49:List Value) (vs52:List Value) (v54:Value):b2p cb N call v58 xs0 v30 v7 a0 a1 v3 v4 v5 v6 v9 v10 v11 v14 v15 v16 v20 v21 v22 vs24 v28 v29 v31 vs33 vs38 vs44 vs49 vs52 v54=a6Z cb N call v58 xs0 v30 v7 a0 a1 v3 v4 v5 v6 v9 v10 v11 v14 v15 v16 v20 v21 v22 vs24 v28 v29 v31 vs33 vs38 vs44 vs49 vs52 v54:=by
 simp only [b2p,a6Z,c7h]
noncomputable def a6y (cb:Cb) (N:Nat) (call:j4) (xs0:List Value) (v30:Value) (v7:Value) (a0:Value) (a1:Value) (v3:Value) (v4:Value) (v5:Value) (v6:Value) (v9:Value) (v10:Value) (v11:Value) (v14:Value) (v15:Value) (v16:Value) (v20:Value) (v21:Value) (v22:Value) (vs24:List Value) (v28:Value) (v29:Value) (v31:Value) (vs33:List Value) (vs38:List Value) (vs44:List Value) (vs49:List Value) (vs52:List Value) (v54:Value):M R2:=
 cb.bv R2 (H7 [(0, 1)] [(.int .i64 (.ofNat 5))] [(.int .i64 (.ofNat 0)),(.int .i64 (.ofNat 0)),(.int .i64 (.ofNat 0)),(.int .u64 (.ofNat 0)),(.int .i64 (.ofNat 0)),(.int .i64 (.ofNat 0)),(.int .i64 (.ofNat 0)),(.slice none 0 0),(.slice none 0 0)]) fun v58=>
 a6Z cb N call v58 xs0 v30 v7 a0 a1 v3 v4 v5 v6 v9 v10 v11 v14 v15 v16 v20 v21 v22 vs24 v28 v29 v31 vs33 vs38 vs44 vs49 vs52 v54
theorem c7T (cb:Cb) (N:Nat) (call:j4) (xs0:List Value) (v30:Value) (v7:Value) (a0:Value) (a1:Value) (v3:Value) (v4:Value) (v5:Value) (v6:Value) (v9:Value) (v10:Value) (v11:Value) (v14:Value) (v15:Value) (v16:Value) (v20:Value) (v21:Value) (v22:Value) (vs24:List Value) (v28:Value) (v29:Value) (v31:Value) (vs33:List Value) (vs38:List Value) (vs44:List Value) (vs49:List Value) (vs52:List Value) (v54:Value):b8q cb N call xs0 v30 v7 a0 a1 v3 v4 v5 v6 v9 v10 v11 v14 v15 v16 v20 v21 v22 vs24 v28 v29 v31 vs33 vs38 vs44 vs49 vs52 v54=a6y cb N call xs0 v30 v7 a0 a1 v3 v4 v5 v6 v9 v10 v11 v14 v15 v16 v20 v21 v22 vs24 v28 v29 v31 vs33 vs38 vs44 vs49 vs52 v54:=by
 simp only [b8q,a6y,c7l]
noncomputable def a9e (cb:Cb) (N:Nat) (call:j4) (v31:Value) (vs33:List Value) (vs49:List Value) (v7:Value) (a0:Value) (xs0:List Value) (a1:Value) (v3:Value) (v4:Value) (v5:Value) (v6:Value) (v9:Value) (v10:Value) (v11:Value) (v14:Value) (v15:Value) (v16:Value) (v20:Value) (v21:Value) (v22:Value) (vs24:List Value) (v28:Value) (v29:Value) (v30:Value) (vs38:List Value) (vs44:List Value):M R2:=
 cb.bj R2 (l8 (o7 false v31) (cb.bv R2 (q9 (d9 vs33 3) (d9 vs49 0) (.bool false)) fun v53=>
 M.pure (.normal, [v53])) (M.pure (.normal, [undef]))) fun x51 vs52=>l7 x51 (cb.bv R2 (q9 v31 (.bool true) (d9 vs52 0)) fun v54=>
 j6 v54 (
 d7c cb N call v7 a0 xs0 a1 v3 v4 v5 v6 v9 v10 v11 v14 v15 v16 v20 v21 v22 vs24 v28 v29 v30 v31 vs33 vs38 vs44 vs49 vs52 v54) (
 a6y cb N call xs0 v30 v7 a0 a1 v3 v4 v5 v6 v9 v10 v11 v14 v15 v16 v20 v21 v22 vs24 v28 v29 v31 vs33 vs38 vs44 vs49 vs52 v54)) (fun _=>M.fail) M.fail l6
theorem c5M (cb:Cb) (N:Nat) (call:j4) (v31:Value) (vs33:List Value) (vs49:List Value) (v7:Value) (a0:Value) (xs0:List Value) (a1:Value) (v3:Value) (v4:Value) (v5:Value) (v6:Value) (v9:Value) (v10:Value) (v11:Value) (v14:Value) (v15:Value) (v16:Value) (v20:Value) (v21:Value) (v22:Value) (vs24:List Value) (v28:Value) (v29:Value) (v30:Value) (vs38:List Value) (vs44:List Value):b8y cb N call v31 vs33 vs49 v7 a0 xs0 a1 v3 v4 v5 v6 v9 v10 v11 v14 v15 v16 v20 v21 v22 vs24 v28 v29 v30 vs38 vs44=a9e cb N call v31 vs33 vs49 v7 a0 xs0 a1 v3 v4 v5 v6 v9 v10 v11 v14 v15 v16 v20 v21 v22 vs24 v28 v29 v30 vs38 vs44:=by
 simp only [b8y,a9e,c7T]
noncomputable def a8B (cb:Cb) (N:Nat) (call:j4) (vs38:List Value) (xs0:List Value) (v30:Value) (vs33:List Value) (v31:Value) (v7:Value) (a0:Value) (a1:Value) (v3:Value) (v4:Value) (v5:Value) (v6:Value) (v9:Value) (v10:Value) (v11:Value) (v14:Value) (v15:Value) (v16:Value) (v20:Value) (v21:Value) (v22:Value) (vs24:List Value) (v28:Value) (v29:Value):M R2:=
 cb.bj R2 (l8 (o7 false (d9 vs38 6)) (cb.bv R2 (F3 3 (d9 xs0 143) v30) fun v45=>
 cb.bv R2 (l9 2 v45) fun v46=>
 cb.bv R2 (j5 v46) fun v47=>
 M.pure (.normal, [(d9 xs0 143),v30,v45,v46,v47])) (M.pure (.normal, [undef,undef,undef,undef,undef]))) fun x43 vs44=>l7 x43 (cb.bj R2 (l8 (o7 true (d9 vs33 3)) (cb.bv R2 (q9 (d9 vs38 6) (.bool true) (d9 vs44 4)) fun v50=>
 M.pure (.normal, [v50])) (M.pure (.normal, [undef]))) fun x48 vs49=>l7 x48 (a9e cb N call v31 vs33 vs49 v7 a0 xs0 a1 v3 v4 v5 v6 v9 v10 v11 v14 v15 v16 v20 v21 v22 vs24 v28 v29 v30 vs38 vs44) (fun _=>M.fail) M.fail l6) (fun _=>M.fail) M.fail l6
theorem c5T (cb:Cb) (N:Nat) (call:j4) (vs38:List Value) (xs0:List Value) (v30:Value) (vs33:List Value) (v31:Value) (v7:Value) (a0:Value) (a1:Value) (v3:Value) (v4:Value) (v5:Value) (v6:Value) (v9:Value) (v10:Value) (v11:Value) (v14:Value) (v15:Value) (v16:Value) (v20:Value) (v21:Value) (v22:Value) (vs24:List Value) (v28:Value) (v29:Value):b2E cb N call vs38 xs0 v30 vs33 v31 v7 a0 a1 v3 v4 v5 v6 v9 v10 v11 v14 v15 v16 v20 v21 v22 vs24 v28 v29=a8B cb N call vs38 xs0 v30 vs33 v31 v7 a0 a1 v3 v4 v5 v6 v9 v10 v11 v14 v15 v16 v20 v21 v22 vs24 v28 v29:=by
 simp only [b2E,a8B,c5M]
noncomputable def a7O (cb:Cb) (N:Nat) (call:j4) (vs33:List Value) (xs0:List Value) (v30:Value) (v31:Value) (v7:Value) (a0:Value) (a1:Value) (v3:Value) (v4:Value) (v5:Value) (v6:Value) (v9:Value) (v10:Value) (v11:Value) (v14:Value) (v15:Value) (v16:Value) (v20:Value) (v21:Value) (v22:Value) (vs24:List Value) (v28:Value) (v29:Value):M R2:=
 cb.bj R2 (l8 (o7 true (d9 vs33 3)) (cb.bv R2 (F3 3 (d9 xs0 143) v30) fun v39=>
 cb.bv R2 (l9 1 v39) fun v40=>
 cb.bv R2 (j5 v40) fun v41=>
 cb.bv R2 (bq .neq 22 (.tmp 67) (.const (.int .i64 (.ofNat 4))) v41 (.int .i64 (.ofNat 4))) fun v42=>
 M.pure (.normal, [(d9 xs0 143),v30,v39,v40,v41,v42,v42])) (M.pure (.normal, [undef,undef,undef,undef,undef,undef,undef]))) fun x37 vs38=>l7 x37 (a8B cb N call vs38 xs0 v30 vs33 v31 v7 a0 a1 v3 v4 v5 v6 v9 v10 v11 v14 v15 v16 v20 v21 v22 vs24 v28 v29) (fun _=>M.fail) M.fail l6
theorem c6f (cb:Cb) (N:Nat) (call:j4) (vs33:List Value) (xs0:List Value) (v30:Value) (v31:Value) (v7:Value) (a0:Value) (a1:Value) (v3:Value) (v4:Value) (v5:Value) (v6:Value) (v9:Value) (v10:Value) (v11:Value) (v14:Value) (v15:Value) (v16:Value) (v20:Value) (v21:Value) (v22:Value) (vs24:List Value) (v28:Value) (v29:Value):b5w cb N call vs33 xs0 v30 v31 v7 a0 a1 v3 v4 v5 v6 v9 v10 v11 v14 v15 v16 v20 v21 v22 vs24 v28 v29=a7O cb N call vs33 xs0 v30 v31 v7 a0 a1 v3 v4 v5 v6 v9 v10 v11 v14 v15 v16 v20 v21 v22 vs24 v28 v29:=by
 simp only [b5w,a7O,l5,c5T]
noncomputable def a7H (cb:Cb) (N:Nat) (call:j4) (v30:Value) (v7:Value) (xs0:List Value) (a0:Value) (a1:Value) (v3:Value) (v4:Value) (v5:Value) (v6:Value) (v9:Value) (v10:Value) (v11:Value) (v14:Value) (v15:Value) (v16:Value) (v20:Value) (v21:Value) (v22:Value) (vs24:List Value) (v28:Value) (v29:Value):M R2:=
 cb.bv R2 (bq .lss 3 (.tmp 56) (.const (.int .i64 (.ofNat 0))) v30 (.int .i64 (.ofNat 0))) fun v31=>
 cb.bj R2 (l8 (o7 false v31) (cb.bv R2 (l9 2 v7) fun v34=>
 cb.bv R2 (j5 v34) fun v35=>
 cb.bv R2 (bq .eql 9 (.tmp 60) (.const (.string ⟨⟨[101, 108, 115, 101]⟩⟩)) v35 (.string ⟨⟨[101, 108, 115, 101]⟩⟩)) fun v36=>
 M.pure (.normal, [v34,v35,v36,v36])) (M.pure (.normal, [undef,undef,undef,undef]))) fun x32 vs33=>l7 x32 (a7O cb N call vs33 xs0 v30 v31 v7 a0 a1 v3 v4 v5 v6 v9 v10 v11 v14 v15 v16 v20 v21 v22 vs24 v28 v29) (fun _=>M.fail) M.fail l6
theorem c0S (cb:Cb) (N:Nat) (call:j4) (v30:Value) (v7:Value) (xs0:List Value) (a0:Value) (a1:Value) (v3:Value) (v4:Value) (v5:Value) (v6:Value) (v9:Value) (v10:Value) (v11:Value) (v14:Value) (v15:Value) (v16:Value) (v20:Value) (v21:Value) (v22:Value) (vs24:List Value) (v28:Value) (v29:Value):b4t cb N call v30 v7 xs0 a0 a1 v3 v4 v5 v6 v9 v10 v11 v14 v15 v16 v20 v21 v22 vs24 v28 v29=a7H cb N call v30 v7 xs0 a0 a1 v3 v4 v5 v6 v9 v10 v11 v14 v15 v16 v20 v21 v22 vs24 v28 v29:=by
 simp only [b4t,a7H,l5,c6f]
noncomputable def a7r (cb:Cb) (N:Nat) (call:j4) (xs0:List Value) (v7:Value) (a0:Value) (a1:Value) (v3:Value) (v4:Value) (v5:Value) (v6:Value) (v9:Value) (v10:Value) (v11:Value) (v14:Value) (v15:Value) (v16:Value) (v20:Value) (v21:Value) (v22:Value) (vs24:List Value) (v28:Value):M R2:=
 cb.bv R2 (H6 (d9 xs0 143)) fun v29=>
 cb.bv R2 (bq .sub 3 (.tmp 54) (.const (.int .i64 (.ofNat 1))) v29 (.int .i64 (.ofNat 1))) fun v30=>
 a7H cb N call v30 v7 xs0 a0 a1 v3 v4 v5 v6 v9 v10 v11 v14 v15 v16 v20 v21 v22 vs24 v28 v29
theorem c5w (cb:Cb) (N:Nat) (call:j4) (xs0:List Value) (v7:Value) (a0:Value) (a1:Value) (v3:Value) (v4:Value) (v5:Value) (v6:Value) (v9:Value) (v10:Value) (v11:Value) (v14:Value) (v15:Value) (v16:Value) (v20:Value) (v21:Value) (v22:Value) (vs24:List Value) (v28:Value):b6I cb N call xs0 v7 a0 a1 v3 v4 v5 v6 v9 v10 v11 v14 v15 v16 v20 v21 v22 vs24 v28=a7r cb N call xs0 v7 a0 a1 v3 v4 v5 v6 v9 v10 v11 v14 v15 v16 v20 v21 v22 vs24 v28:=by
 simp only [b6I,a7r,l5,c0S]
noncomputable def a6b (cb:Cb) (N:Nat) (call:j4) (v92:Value) (v80:Value) (v7:Value) (xs0:List Value) (a0:Value) (v77:Value) (a1:Value) (v3:Value) (v4:Value) (v5:Value) (v6:Value) (v9:Value) (v10:Value) (v11:Value) (v14:Value) (v15:Value) (v16:Value) (v20:Value) (v21:Value) (v22:Value) (vs24:List Value) (v28:Value) (v75:Value) (v76:Value) (v78:Value) (v79:Value) (v82:Value) (vs83:List Value) (v84:Value) (v85:Value) (v86:Value) (vs88:List Value):M R2:=
 cb.bj R2 (l8 (o7 false v92) (cb.bv R2 (l9 0 v80) fun v95=>
 cb.bv R2 (j5 v95) fun v96=>
 cb.bv R2 (bq .eql 22 (.tmp 139) (.const (.int .i64 (.ofNat 4))) v96 (.int .i64 (.ofNat 4))) fun v97=>
 M.pure (.normal, [v95,v96,v97])) (M.pure (.normal, [undef,undef,undef]))) fun x93 vs94=>l7 x93 (cb.bv R2 (q9 v92 (.bool true) (d9 vs94 2)) fun v98=>
 j6 v98 (
 c7V cb N call v7 v80 xs0 a0 v77 a1 v3 v4 v5 v6 v9 v10 v11 v14 v15 v16 v20 v21 v22 vs24 v28 v75 v76 v78 v79 v82 vs83 v84 v85 v86 vs88 v92 vs94 v98) (
 d0D cb N call xs0 a1 v3 v4 v5 v6 v7 v9 v10 v11 v14 v15 v16 v20 v21 v22 vs24 v28 a0 v75 v76 v77 v78 v79 v80 v82 vs83 v84 v85 v86 vs88 v92 vs94 v98)) (fun _=>M.fail) M.fail l6
theorem c5i (cb:Cb) (N:Nat) (call:j4) (v92:Value) (v80:Value) (v7:Value) (xs0:List Value) (a0:Value) (v77:Value) (a1:Value) (v3:Value) (v4:Value) (v5:Value) (v6:Value) (v9:Value) (v10:Value) (v11:Value) (v14:Value) (v15:Value) (v16:Value) (v20:Value) (v21:Value) (v22:Value) (vs24:List Value) (v28:Value) (v75:Value) (v76:Value) (v78:Value) (v79:Value) (v82:Value) (vs83:List Value) (v84:Value) (v85:Value) (v86:Value) (vs88:List Value):b1o cb N call v92 v80 v7 xs0 a0 v77 a1 v3 v4 v5 v6 v9 v10 v11 v14 v15 v16 v20 v21 v22 vs24 v28 v75 v76 v78 v79 v82 vs83 v84 v85 v86 vs88=a6b cb N call v92 v80 v7 xs0 a0 v77 a1 v3 v4 v5 v6 v9 v10 v11 v14 v15 v16 v20 v21 v22 vs24 v28 v75 v76 v78 v79 v82 vs83 v84 v85 v86 vs88:=by
 simp only [b1o,a6b,l5]
noncomputable def a9M (cb:Cb) (N:Nat) (call:j4) (v86:Value) (v80:Value) (v7:Value) (xs0:List Value) (a0:Value) (v77:Value) (a1:Value) (v3:Value) (v4:Value) (v5:Value) (v6:Value) (v9:Value) (v10:Value) (v11:Value) (v14:Value) (v15:Value) (v16:Value) (v20:Value) (v21:Value) (v22:Value) (vs24:List Value) (v28:Value) (v75:Value) (v76:Value) (v78:Value) (v79:Value) (v82:Value) (vs83:List Value) (v84:Value) (v85:Value):M R2:=
 cb.bj R2 (l8 (o7 false v86) (cb.bv R2 (l9 0 v80) fun v89=>
 cb.bv R2 (j5 v89) fun v90=>
 cb.bv R2 (bq .eql 22 (.tmp 134) (.const (.int .i64 (.ofNat 3))) v90 (.int .i64 (.ofNat 3))) fun v91=>
 M.pure (.normal, [v89,v90,v91])) (M.pure (.normal, [undef,undef,undef]))) fun x87 vs88=>l7 x87 (cb.bv R2 (q9 v86 (.bool true) (d9 vs88 2)) fun v92=>
 a6b cb N call v92 v80 v7 xs0 a0 v77 a1 v3 v4 v5 v6 v9 v10 v11 v14 v15 v16 v20 v21 v22 vs24 v28 v75 v76 v78 v79 v82 vs83 v84 v85 v86 vs88) (fun _=>M.fail) M.fail l6
theorem c7L (cb:Cb) (N:Nat) (call:j4) (v86:Value) (v80:Value) (v7:Value) (xs0:List Value) (a0:Value) (v77:Value) (a1:Value) (v3:Value) (v4:Value) (v5:Value) (v6:Value) (v9:Value) (v10:Value) (v11:Value) (v14:Value) (v15:Value) (v16:Value) (v20:Value) (v21:Value) (v22:Value) (vs24:List Value) (v28:Value) (v75:Value) (v76:Value) (v78:Value) (v79:Value) (v82:Value) (vs83:List Value) (v84:Value) (v85:Value):b4m cb N call v86 v80 v7 xs0 a0 v77 a1 v3 v4 v5 v6 v9 v10 v11 v14 v15 v16 v20 v21 v22 vs24 v28 v75 v76 v78 v79 v82 vs83 v84 v85=a9M cb N call v86 v80 v7 xs0 a0 v77 a1 v3 v4 v5 v6 v9 v10 v11 v14 v15 v16 v20 v21 v22 vs24 v28 v75 v76 v78 v79 v82 vs83 v84 v85:=by
 simp only [b4m,a9M,l5,c5i]
noncomputable def a8C (cb:Cb) (N:Nat) (call:j4) (a0:Value) (xs0:List Value) (v80:Value) (v7:Value) (v77:Value) (a1:Value) (v3:Value) (v4:Value) (v5:Value) (v6:Value) (v9:Value) (v10:Value) (v11:Value) (v14:Value) (v15:Value) (v16:Value) (v20:Value) (v21:Value) (v22:Value) (vs24:List Value) (v28:Value) (v75:Value) (v76:Value) (v78:Value) (v79:Value) (v82:Value):M R2:=
 cb.bj R2 (b7S call a0 (d9 xs0 113) (d9 xs0 114) (d9 xs0 115) v80 (d9 xs0 117) (d9 xs0 116) (d9 xs0 118) (d9 xs0 112) (d9 xs0 120) (d9 xs0 121) (d9 xs0 119)) fun _ vs83=>
 cb.bv R2 (l9 0 v80) fun v84=>
 cb.bv R2 (j5 v84) fun v85=>
 cb.bv R2 (bq .eql 22 (.tmp 130) (.const (.int .i64 (.ofNat 2))) v85 (.int .i64 (.ofNat 2))) fun v86=>
 a9M cb N call v86 v80 v7 xs0 a0 v77 a1 v3 v4 v5 v6 v9 v10 v11 v14 v15 v16 v20 v21 v22 vs24 v28 v75 v76 v78 v79 v82 vs83 v84 v85
theorem c6l (cb:Cb) (N:Nat) (call:j4) (a0:Value) (xs0:List Value) (v80:Value) (v7:Value) (v77:Value) (a1:Value) (v3:Value) (v4:Value) (v5:Value) (v6:Value) (v9:Value) (v10:Value) (v11:Value) (v14:Value) (v15:Value) (v16:Value) (v20:Value) (v21:Value) (v22:Value) (vs24:List Value) (v28:Value) (v75:Value) (v76:Value) (v78:Value) (v79:Value) (v82:Value):b1H cb N call a0 xs0 v80 v7 v77 a1 v3 v4 v5 v6 v9 v10 v11 v14 v15 v16 v20 v21 v22 vs24 v28 v75 v76 v78 v79 v82=a8C cb N call a0 xs0 v80 v7 v77 a1 v3 v4 v5 v6 v9 v10 v11 v14 v15 v16 v20 v21 v22 vs24 v28 v75 v76 v78 v79 v82:=by
 simp only [b1H,a8C,l5,c9Y,d1b,c7L]
noncomputable def b0l (cb:Cb) (N:Nat) (call:j4) (v76:Value) (v79:Value) (xs0:List Value) (a1:Value) (v3:Value) (v4:Value) (v5:Value) (v6:Value) (v7:Value) (v9:Value) (v10:Value) (v11:Value) (v14:Value) (v15:Value) (v16:Value) (v20:Value) (v21:Value) (v22:Value) (vs24:List Value) (v28:Value) (a0:Value) (v75:Value) (v77:Value) (v78:Value):M R2:=
 cb.bv R2 (J6 [(.int .i64 (.ofNat 0)),(.int .i64 (.ofNat 0)),(.int .i64 (.ofNat 0)),(.int .u64 (.ofNat 0)),(.int .i64 (.ofNat 0)),(.int .i64 (.ofNat 0)),(.int .i64 (.ofNat 0)),(.slice none 0 0),(.slice none 0 0)]) fun v80=>
 cb.bv R2 (r9 9 v80 v76) fun v81=>
 cb.bv R2 (un .not v79) fun v82=>
 j6 v82 (
 c8c cb N call xs0 a1 v3 v4 v5 v6 v7 v9 v10 v11 v14 v15 v16 v20 v21 v22 vs24 v28 a0 v75 v76 v77 v78 v79 v80 v82) (
 a8C cb N call a0 xs0 v80 v7 v77 a1 v3 v4 v5 v6 v9 v10 v11 v14 v15 v16 v20 v21 v22 vs24 v28 v75 v76 v78 v79 v82)
theorem c2V (cb:Cb) (N:Nat) (call:j4) (v76:Value) (v79:Value) (xs0:List Value) (a1:Value) (v3:Value) (v4:Value) (v5:Value) (v6:Value) (v7:Value) (v9:Value) (v10:Value) (v11:Value) (v14:Value) (v15:Value) (v16:Value) (v20:Value) (v21:Value) (v22:Value) (vs24:List Value) (v28:Value) (a0:Value) (v75:Value) (v77:Value) (v78:Value):b2t cb N call v76 v79 xs0 a1 v3 v4 v5 v6 v7 v9 v10 v11 v14 v15 v16 v20 v21 v22 vs24 v28 a0 v75 v77 v78=b0l cb N call v76 v79 xs0 a1 v3 v4 v5 v6 v7 v9 v10 v11 v14 v15 v16 v20 v21 v22 vs24 v28 a0 v75 v77 v78:=by
 simp only [b2t,b0l,c6l]
noncomputable def a9f (cb:Cb) (N:Nat) (call:j4) (a0:Value) (a1:Value) (xs0:List Value) (v3:Value) (v4:Value) (v5:Value) (v6:Value) (v7:Value) (v9:Value) (v10:Value) (v11:Value) (v14:Value) (v15:Value) (v16:Value) (v20:Value) (v21:Value) (v22:Value) (vs24:List Value) (v28:Value):M R2:=
 cb.bc R2 (call 73 [a0,a1,(d9 xs0 148)]) (fun v75=>
 cb.bv R2 (z8 0 v75) fun v76=>
 cb.bv R2 (z8 1 v75) fun v77=>
 cb.bv R2 (z8 2 v75) fun v78=>
 cb.bv R2 (z8 3 v75) fun v79=>
 b0l cb N call v76 v79 xs0 a1 v3 v4 v5 v6 v7 v9 v10 v11 v14 v15 v16 v20 v21 v22 vs24 v28 a0 v75 v77 v78) l6
theorem c5Q (cb:Cb) (N:Nat) (call:j4) (a0:Value) (a1:Value) (xs0:List Value) (v3:Value) (v4:Value) (v5:Value) (v6:Value) (v7:Value) (v9:Value) (v10:Value) (v11:Value) (v14:Value) (v15:Value) (v16:Value) (v20:Value) (v21:Value) (v22:Value) (vs24:List Value) (v28:Value):b3D cb N call a0 a1 xs0 v3 v4 v5 v6 v7 v9 v10 v11 v14 v15 v16 v20 v21 v22 vs24 v28=a9f cb N call a0 a1 xs0 v3 v4 v5 v6 v7 v9 v10 v11 v14 v15 v16 v20 v21 v22 vs24 v28:=by
 simp only [b3D,a9f,c2V]
noncomputable def a6K (cb:Cb) (N:Nat) (call:j4) (v22:Value) (v7:Value) (xs0:List Value) (a0:Value) (a1:Value) (v3:Value) (v4:Value) (v5:Value) (v6:Value) (v9:Value) (v10:Value) (v11:Value) (v14:Value) (v15:Value) (v16:Value) (v20:Value) (v21:Value):M R2:=
 cb.bj R2 (l8 (o7 false v22) (cb.bv R2 (l9 2 v7) fun v25=>
 cb.bv R2 (j5 v25) fun v26=>
 cb.bv R2 (bq .eql 9 (.tmp 50) (.const (.string ⟨⟨[101, 110, 100]⟩⟩)) v26 (.string ⟨⟨[101, 110, 100]⟩⟩)) fun v27=>
 M.pure (.normal, [v25,v26,v27])) (M.pure (.normal, [undef,undef,undef]))) fun x23 vs24=>l7 x23 (cb.bv R2 (q9 v22 (.bool true) (d9 vs24 2)) fun v28=>
 j6 v28 (
 a7r cb N call xs0 v7 a0 a1 v3 v4 v5 v6 v9 v10 v11 v14 v15 v16 v20 v21 v22 vs24 v28) (
 a9f cb N call a0 a1 xs0 v3 v4 v5 v6 v7 v9 v10 v11 v14 v15 v16 v20 v21 v22 vs24 v28)) (fun _=>M.fail) M.fail l6
theorem c3N (cb:Cb) (N:Nat) (call:j4) (v22:Value) (v7:Value) (xs0:List Value) (a0:Value) (a1:Value) (v3:Value) (v4:Value) (v5:Value) (v6:Value) (v9:Value) (v10:Value) (v11:Value) (v14:Value) (v15:Value) (v16:Value) (v20:Value) (v21:Value):b4x cb N call v22 v7 xs0 a0 a1 v3 v4 v5 v6 v9 v10 v11 v14 v15 v16 v20 v21=a6K cb N call v22 v7 xs0 a0 a1 v3 v4 v5 v6 v9 v10 v11 v14 v15 v16 v20 v21:=by
 simp only [b4x,a6K,l5,c5w,c5Q]
noncomputable def a9Q (cb:Cb) (N:Nat) (call:j4) (v7:Value) (xs0:List Value) (a0:Value) (a1:Value) (v3:Value) (v4:Value) (v5:Value) (v6:Value) (v9:Value) (v10:Value) (v11:Value) (v14:Value) (v15:Value) (v16:Value):M R2:=
 cb.bv R2 (l9 2 v7) fun v20=>
 cb.bv R2 (j5 v20) fun v21=>
 cb.bv R2 (bq .eql 9 (.tmp 46) (.const (.string ⟨⟨[101, 108, 115, 101]⟩⟩)) v21 (.string ⟨⟨[101, 108, 115, 101]⟩⟩)) fun v22=>
 a6K cb N call v22 v7 xs0 a0 a1 v3 v4 v5 v6 v9 v10 v11 v14 v15 v16 v20 v21
theorem c2L (cb:Cb) (N:Nat) (call:j4) (v7:Value) (xs0:List Value) (a0:Value) (a1:Value) (v3:Value) (v4:Value) (v5:Value) (v6:Value) (v9:Value) (v10:Value) (v11:Value) (v14:Value) (v15:Value) (v16:Value):b3V cb N call v7 xs0 a0 a1 v3 v4 v5 v6 v9 v10 v11 v14 v15 v16=a9Q cb N call v7 xs0 a0 a1 v3 v4 v5 v6 v9 v10 v11 v14 v15 v16:=by
 simp only [b3V,a9Q,l5,c3N]
noncomputable def a9W (cb:Cb) (N:Nat) (call:j4) (v7:Value) (a0:Value) (xs0:List Value) (a1:Value) (v3:Value) (v4:Value) (v5:Value) (v6:Value) (v9:Value) (v10:Value) (v11:Value):M R2:=
 cb.bv R2 (l9 0 v7) fun v14=>
 cb.bv R2 (j5 v14) fun v15=>
 cb.bv R2 (bq .neq 117 (.tmp 38) (.const (.int .i64 (.ofNat 2))) v15 (.int .i64 (.ofNat 2))) fun v16=>
 j6 v16 (
 d7a cb N call v7 a0 xs0 a1 v3 v4 v5 v6 v9 v10 v11 v14 v15 v16) (
 a9Q cb N call v7 xs0 a0 a1 v3 v4 v5 v6 v9 v10 v11 v14 v15 v16)
theorem c2b (cb:Cb) (N:Nat) (call:j4) (v7:Value) (a0:Value) (xs0:List Value) (a1:Value) (v3:Value) (v4:Value) (v5:Value) (v6:Value) (v9:Value) (v10:Value) (v11:Value):b7m cb N call v7 a0 xs0 a1 v3 v4 v5 v6 v9 v10 v11=a9W cb N call v7 a0 xs0 a1 v3 v4 v5 v6 v9 v10 v11:=by
 simp only [b7m,a9W,l5,c2L]
noncomputable def a9E (cb:Cb) (N:Nat) (call:j4) (a1:Value) (xs0:List Value) (a0:Value) (v3:Value) (v4:Value):M R2:=
 cb.bv R2 (F3 4 a1 (d9 xs0 148)) fun v5=>
 cb.bv R2 (E8 4 v5) fun v6=>
 cb.bv R2 (J6 [(.int .i64 (.ofNat 0)),(.int .i64 (.ofNat 0)),(.string ⟨⟨[]⟩⟩),(.slice none 0 0)]) fun v7=>
 cb.bv R2 (r9 4 v7 v6) fun v8=>
 cb.bv R2 (l9 0 v7) fun v9=>
 cb.bv R2 (j5 v9) fun v10=>
 cb.bv R2 (bq .eql 117 (.tmp 25) (.const (.int .i64 (.ofNat 0))) v10 (.int .i64 (.ofNat 0))) fun v11=>
 j6 v11 (
 b7X cb N call a0 xs0 v7 a1 v3 v4 v5 v6 v9 v10 v11) (
 a9W cb N call v7 a0 xs0 a1 v3 v4 v5 v6 v9 v10 v11)
theorem c2R (cb:Cb) (N:Nat) (call:j4) (a1:Value) (xs0:List Value) (a0:Value) (v3:Value) (v4:Value):b5N cb N call a1 xs0 a0 v3 v4=a9E cb N call a1 xs0 a0 v3 v4:=by
 simp only [b5N,a9E,l5,d1F,c2b]
noncomputable def a8b (cb:Cb) (N:Nat) (call:j4) (a1:Value) (a0:Value) (xs0:List Value):M R2:=
 cb.bv R2 (H6 a1) fun v3=>
 cb.bv R2 (bq .lss 3 (.tmp 15) (.tmp 17) (d9 xs0 148) v3) fun v4=>
 j6 v4 (
 a9E cb N call a1 xs0 a0 v3 v4) (
 d1H cb N call xs0 a1 v3 v4)
theorem c0t (cb:Cb) (N:Nat) (call:j4) (a1:Value) (a0:Value):b2d cb N call a1 a0=a8b cb N call a1 a0:=by
 funext xs0
 simp only [b2d,a8b,l5,c2R]
noncomputable def c0R (cb:Cb) (N:Nat) (call:j4) (a0:Value) (a1:Value):M CR:=
 cb.bj CR (cb.lp (a8b cb N call a1 a0) N [undef,undef,undef,undef,undef,undef,undef,undef,undef,undef,undef,undef,undef,undef,undef,undef,undef,undef,undef,undef,undef,undef,undef,undef,undef,undef,undef,undef,undef,undef,undef,undef,undef,undef,undef,undef,undef,undef,undef,undef,undef,undef,undef,undef,undef,undef,undef,undef,undef,undef,undef,undef,undef,undef,undef,undef,undef,undef,undef,undef,undef,undef,undef,undef,undef,undef,undef,undef,undef,undef,undef,undef,undef,undef,undef,undef,undef,undef,undef,undef,undef,undef,undef,undef,undef,undef,undef,undef,undef,undef,undef,undef,undef,undef,undef,undef,undef,undef,undef,undef,undef,undef,undef,undef,undef,undef,undef,undef,undef,undef,undef,(.bool false),undef,undef,undef,undef,undef,undef,undef,undef,undef,undef,undef,undef,undef,undef,undef,undef,undef,undef,undef,undef,undef,undef,undef,undef,undef,undef,undef,undef,undef,undef,undef,(.slice none 0 0),undef,undef,undef,undef,(.int .i64 (.ofNat 0))]) fun x1 vs2=>
 l7 x1 (M.fail) (fun i107=>l8 (Nat.beq i107 0) (cb.bv CR (H6 (d9 vs2 143)) fun v108=>
 cb.bv CR (bq .sub 3 (.tmp 155) (.const (.int .i64 (.ofNat 1))) v108 (.int .i64 (.ofNat 1))) fun v109=>
 cb.bv CR (bq .geq 3 (.tmp 157) (.const (.int .i64 (.ofNat 0))) v109 (.int .i64 (.ofNat 0))) fun v110=>
 j6 v110 (
 d1r cb N call vs2 v109 a0) (
 M.pure (.ret (.bool true)))) (l8 (Nat.beq i107 1) (M.fail) (M.fail))) (M.pure (.ret (d9 vs2 111))) l6
theorem d3V (cb:Cb) (N:Nat) (call:j4) (a0:Value) (a1:Value):d5P cb N call a0 a1=c0R cb N call a0 a1:=by
 simp only [d5P,c0R,l5,c0t]
noncomputable def c3h (call:j4) (u0:Value) (u1:Value) (u2:Value) (u3:Value) (u4:Value) (u5:Value) (u6:Value) (u7:Value) (u8:Value) (u9:Value) (u10:Value) (u11:Value) (u12:Value) (u13:Value) (u14:Value):M R2:=
 M.bind (M.foot (M.pure u3)) fun y0=>
 M.bind (M.foot (M.pure u3)) fun y1=>
 M.bind (M.foot (q8 y1.1)) fun y2=>
 M.bind (M.foot (l9 1 y2.1)) fun y3=>
 M.bind (M.foot (j5 y3.1)) fun y4=>
 M.bind (M.foot (M.pure u3)) fun y5=>
 M.bind (M.foot (q8 y5.1)) fun y6=>
 M.bind (M.foot (l9 1 y6.1)) fun y7=>
 M.bind (M.foot (j5 y7.1)) fun y8=>
 M.bind (M.foot (H6 y8.1)) fun y9=>
 M.bind (M.foot (bq .sub 3 (.tmp 21) (.const (.int .i64 (.ofNat 1))) y9.1 (.int .i64 (.ofNat 1)))) fun y10=>
 M.bind (M.foot (Q8 1 y4.1 none (some y10.1))) fun y11=>
 M.bind (M.foot (q8 y0.1)) fun y12=>
 M.bind (M.foot (l9 1 y12.1)) fun y13=>
 M.bind (M.foot (r9 1 y13.1 y11.1)) fun y14=>
 M.guard (G9 [(0, 1),(0, 2),(0, 3),(0, 4),(0, 5),(1, 5),(2, 5),(3, 5),(4, 5),(0, 6),(1, 6),(2, 6),(3, 6),(4, 6),(0, 7),(1, 7),(2, 7),(3, 7),(4, 7),(0, 8),(1, 8),(2, 8),(3, 8),(4, 8),(0, 9),(1, 9),(2, 9),(3, 9),(4, 9),(0, 10),(1, 10),(2, 10),(3, 10),(4, 10),(0, 11)] [y0.2,y1.2,y2.2,y3.2,y4.2,y5.2,y6.2,y7.2,y8.2,y9.2,y10.2,y11.2,y12.2,y13.2,y14.2]) (M.pure (.normal, [y0.1,y1.1,y2.1,y3.1,y4.1,y5.1,y6.1,y7.1,y8.1,y9.1,y10.1,y11.1,y12.1,y13.1]))
theorem d6z (call:j4) (u0:Value) (u1:Value) (u2:Value) (u3:Value) (u4:Value) (u5:Value) (u6:Value) (u7:Value) (u8:Value) (u9:Value) (u10:Value) (u11:Value) (u12:Value) (u13:Value) (u14:Value):c4i call u0 u1 u2 u3 u4 u5 u6 u7 u8 u9 u10 u11 u12 u13 u14=c3h call u0 u1 u2 u3 u4 u5 u6 u7 u8 u9 u10 u11 u12 u13 u14:=by
 simp only [c4i,c3h,l5,fun F hl=>G6 (ops:=a5Z) (L:=[(0, 1),(0, 2),(0, 3),(0, 4),(0, 5),(1, 5),(2, 5),(3, 5),(4, 5),(0, 6),(1, 6),(2, 6),(3, 6),(4, 6),(0, 7),(1, 7),(2, 7),(3, 7),(4, 7),(0, 8),(1, 8),(2, 8),(3, 8),(4, 8),(0, 9),(1, 9),(2, 9),(3, 9),(4, 9),(0, 10),(1, 10),(2, 10),(3, 10),(4, 10),(0, 11)]) (n:=15) (by kernel_rfl) (by kernel_rfl) F hl,D9,F7]
noncomputable def b6e (cb:Cb) (N:Nat) (call:j4) (a0:Value):M CR:=
 cb.bj CR (c3h call undef undef undef a0 undef undef undef undef undef undef undef undef undef undef undef) fun _ vs9=>
 M.pure (.ret (.tuple ⟨[]⟩))
theorem d0d (cb:Cb) (N:Nat) (call:j4) (a0:Value):c4d cb N call a0=b6e cb N call a0:=by
 simp only [c4d,b6e,d5k,d6z]
noncomputable def b7z (cb:Cb) (N:Nat) (call:j4) (v0:Value) (a0:Value):M CR:=
 cb.bj CR (l8 (o7 true v0) (cb.bv R2 (q8 a0) fun v3=>
 cb.bv R2 (l9 1 v3) fun v4=>
 cb.bv R2 (j5 v4) fun v5=>
 cb.bv R2 (H6 v5) fun v6=>
 cb.bv R2 (bq .gtr 3 (.tmp 9) (.const (.int .i64 (.ofNat 0))) v6 (.int .i64 (.ofNat 0))) fun v7=>
 M.pure (.normal, [a0,v3,v4,v5,v6,v7])) (M.pure (.normal, [undef,undef,undef,undef,undef,undef]))) fun x1 vs2=>l7 x1 (cb.bv CR (q9 v0 (d9 vs2 5) (.bool false)) fun v8=>
 j6 v8 (
 b6e cb N call a0) (
 M.pure (.ret (.tuple ⟨[]⟩)))) (fun _=>M.fail) M.fail l6
theorem d2z (cb:Cb) (N:Nat) (call:j4) (v0:Value) (a0:Value):c1J cb N call v0 a0=b7z cb N call v0 a0:=by
 simp only [c1J,b7z,l5,d0d]
noncomputable def c4k (cb:Cb) (N:Nat) (call:j4) (a0:Value):M CR:=
 cb.bc CR (call 79 [a0]) (fun v0=>
 b7z cb N call v0 a0) l6
theorem d4s (cb:Cb) (N:Nat) (call:j4) (a0:Value):d3f cb N call a0=c4k cb N call a0:=by
 simp only [d3f,c4k,d2z]
noncomputable def c5S (cb:Cb) (N:Nat) (call:j4) (a0:Value):M CR:=
 cb.bv CR (bq .neq 44 (.tmp 3) (.const (.pointer none)) a0 (.pointer none)) fun v0=>
 cb.bj CR (l8 (o7 true v0) (cb.bv R2 (q8 a0) fun v3=>
 cb.bv R2 (l9 0 v3) fun v4=>
 cb.bv R2 (j5 v4) fun v5=>
 cb.bv R2 (bq .neq 90 (.tmp 9) (.const (.map none)) v5 (.map none)) fun v6=>
 M.pure (.normal, [a0,v3,v4,v5,v6])) (M.pure (.normal, [undef,undef,undef,undef,undef]))) fun x1 vs2=>l7 x1 (cb.bv CR (q9 v0 (d9 vs2 4) (.bool false)) fun v7=>
 M.pure (.ret v7)) (fun _=>M.fail) M.fail l6
theorem d3Y (cb:Cb) (N:Nat) (call:j4) (a0:Value):d5o cb N call a0=c5S cb N call a0:=by
 simp only [d5o,c5S,l5]
noncomputable def b4Y (cb:Cb) (N:Nat) (call:j4) (v8:Value) (a1:Value) (v1:Value):M CR:=
 cb.bj CR (l8 (o7 false v8) (cb.bv R2 (I7 .u64 a1) fun v11=>
 cb.bv R2 (bq .gtr 23 (.tmp 25) (.tmp 27) v1 v11) fun v12=>
 M.pure (.normal, [v1,a1,v11,v12])) (M.pure (.normal, [undef,undef,undef,undef]))) fun x9 vs10=>l7 x9 (cb.bv CR (q9 v8 (.bool true) (d9 vs10 3)) fun v13=>
 j6 v13 (
 M.pure (.ret (.tuple ⟨[(.int .i64 (.ofNat 0)),(.int .i64 (.ofNat 6))]⟩))) (
 cb.bv CR (I7 .i64 v1) fun v14=>
 M.pure (.ret (.tuple ⟨[v14,(.int .i64 (.ofNat 0))]⟩)))) (fun _=>M.fail) M.fail l6
theorem d1t (cb:Cb) (N:Nat) (call:j4) (v8:Value) (a1:Value) (v1:Value):c3u cb N call v8 a1 v1=b4Y cb N call v8 a1 v1:=by
 simp only [c3u,b4Y,l5]
noncomputable def b7p (cb:Cb) (N:Nat) (call:j4) (v2:Value) (a1:Value) (v1:Value):M CR:=
 cb.bj CR (l8 (o7 false v2) (cb.bv R2 (bq .lss 3 (.tmp 21) (.const (.int .i64 (.ofNat 0))) a1 (.int .i64 (.ofNat 0))) fun v7=>
 M.pure (.normal, [a1,v7])) (M.pure (.normal, [undef,undef]))) fun x5 vs6=>l7 x5 (cb.bv CR (q9 v2 (.bool true) (d9 vs6 1)) fun v8=>
 b4Y cb N call v8 a1 v1) (fun _=>M.fail) M.fail l6
theorem c9l (cb:Cb) (N:Nat) (call:j4) (v2:Value) (a1:Value) (v1:Value):c6k cb N call v2 a1 v1=b7p cb N call v2 a1 v1:=by
 simp only [c6k,b7p,l5,d1t]
noncomputable def c7B (cb:Cb) (N:Nat) (call:j4) (a0:Value) (a1:Value):M CR:=
 cb.bc CR (call 118 [a0]) (fun v0=>
 cb.bv CR (z8 0 v0) fun v1=>
 cb.bv CR (z8 1 v0) fun v2=>
 cb.bv CR (z8 2 v0) fun v3=>
 cb.bv CR (un .not v3) fun v4=>
 j6 v4 (
 M.pure (.ret (.tuple ⟨[(.int .i64 (.ofNat 0)),(.int .i64 (.ofNat 4))]⟩))) (
 b7p cb N call v2 a1 v1)) l6
theorem d6F (cb:Cb) (N:Nat) (call:j4) (a0:Value) (a1:Value):d3g cb N call a0 a1=c7B cb N call a0 a1:=by
 simp only [d3g,c7B,c9l]
noncomputable def c2o (cb:Cb) (N:Nat) (call:j4) (a0:Value):M CR:=
 cb.bc CR (call 35 [a0]) (fun v0=>
 cb.bv CR (bq .neq 9 (.tmp 4) (.const (.string ⟨⟨[]⟩⟩)) v0 (.string ⟨⟨[]⟩⟩)) fun v1=>
 M.pure (.ret v1)) l6
theorem d4c (cb:Cb) (N:Nat) (call:j4) (a0:Value):d3d cb N call a0=c2o cb N call a0:=by
 simp only [d3d,c2o,l5]
noncomputable def c3C (call:j4) (u0:Value) (u1:Value) (u2:Value) (u3:Value) (u4:Value) (u5:Value) (u6:Value) (u7:Value) (u8:Value):M R2:=
 M.bind (M.foot (M.pure u0)) fun y0=>
 M.bind (M.foot (J4 y0.1 (some (.int .i64 (.ofNat 4))) none)) fun y1=>
 M.bind (M.foot (H8 1 3 [(0, 1),(1, 1),(2, 1)] [(.string ⟨⟨[56]⟩⟩),(.string ⟨⟨[49, 54]⟩⟩),(.string ⟨⟨[51, 50]⟩⟩)] [(.string ⟨⟨[]⟩⟩),(.string ⟨⟨[]⟩⟩),(.string ⟨⟨[]⟩⟩)])) fun y2=>
 M.bind (M.foot (M.pure u2)) fun y3=>
 M.bind (M.foot (bq .quo 3 (.tmp 20) (.const (.int .i64 (.ofNat 16))) y3.1 (.int .i64 (.ofNat 16)))) fun y4=>
 M.bind (M.foot (F3 1 y2.1 y4.1)) fun y5=>
 M.bind (M.foot (j5 y5.1)) fun y6=>
 M.bind (M.foot (D7 call 125 [y1.1,y6.1])) fun y7=>
 M.guard (G9 [(0, 2),(1, 2),(0, 3),(1, 3),(2, 3),(0, 4),(1, 4),(2, 4),(0, 5),(1, 5),(0, 6),(1, 6)] [y0.2,y1.2,y2.2,y3.2,y4.2,y5.2,y6.2,y7.2]) (M.pure (.normal, [y0.1,y1.1,y2.1,y3.1,y4.1,y5.1,y6.1,y7.1]))
theorem d3W (call:j4) (u0:Value) (u1:Value) (u2:Value) (u3:Value) (u4:Value) (u5:Value) (u6:Value) (u7:Value) (u8:Value):c4M call u0 u1 u2 u3 u4 u5 u6 u7 u8=c3C call u0 u1 u2 u3 u4 u5 u6 u7 u8:=by
 simp only [c4M,c3C,l5,fun F hl=>G6 (ops:=a5D) (L:=[(0, 2),(1, 2),(0, 3),(1, 3),(2, 3),(0, 4),(1, 4),(2, 4),(0, 5),(1, 5),(0, 6),(1, 6)]) (n:=8) (by kernel_rfl) (by kernel_rfl) F hl,D9,F7]
noncomputable def b7H (cb:Cb) (N:Nat) (call:j4) (v10:Value) (v8:Value) (v9:Value) (vs11:List Value) (xs5:List Value):M R2:=
 cb.bv R2 (bq .quo 3 (.tmp 25) (.const (.int .i64 (.ofNat 8))) v10 (.int .i64 (.ofNat 8))) fun v12=>
 M.pure (.ret, [v8,v9,v10,v10,(d9 vs11 0),(d9 vs11 1),(d9 vs11 2),(d9 vs11 3),(d9 vs11 4),(d9 vs11 5),(d9 vs11 6),(d9 vs11 7),v10,v12,v12,(d9 xs5 15),(d9 xs5 16)])
theorem d0G (cb:Cb) (N:Nat) (call:j4) (v10:Value) (v8:Value) (v9:Value) (vs11:List Value) (xs5:List Value):c0p cb N call v10 v8 v9 vs11 xs5=b7H cb N call v10 v8 v9 vs11 xs5:=by
 simp only [c0p,b7H,l5]
noncomputable def b7R (cb:Cb) (N:Nat) (call:j4) (xs5:List Value) (v8:Value) (v9:Value) (v10:Value) (vs11:List Value):M R2:=
 cb.bv R2 (bq .add 3 (.tmp 13) (.const (.int .i64 (.ofNat 1))) (d9 xs5 16) (.int .i64 (.ofNat 1))) fun v13=>
 M.pure (.normal, [v8,v9,v10,v10,(d9 vs11 0),(d9 vs11 1),(d9 vs11 2),(d9 vs11 3),(d9 vs11 4),(d9 vs11 5),(d9 vs11 6),(d9 vs11 7),(d9 xs5 12),(d9 xs5 13),(d9 xs5 14),v13,v13])
theorem d2c (cb:Cb) (N:Nat) (call:j4) (xs5:List Value) (v8:Value) (v9:Value) (v10:Value) (vs11:List Value):c1X cb N call xs5 v8 v9 v10 vs11=b7R cb N call xs5 v8 v9 v10 vs11:=by
 simp only [c1X,b7R,l5]
noncomputable def b7B (cb:Cb) (N:Nat) (call:j4) (v3:Value) (xs5:List Value) (v2:Value) (v8:Value):M R2:=
 cb.bv R2 (F3 1 v3 (d9 xs5 16)) fun v9=>
 cb.bv R2 (j5 v9) fun v10=>
 cb.bj R2 (c3C call v2 (d9 xs5 4) v10 (d9 xs5 7) (d9 xs5 6) (d9 xs5 8) (d9 xs5 9) (d9 xs5 5) (d9 xs5 10)) fun _ vs11=>
 j6 (d9 vs11 7) (
 b7H cb N call v10 v8 v9 vs11 xs5) (
 b7R cb N call xs5 v8 v9 v10 vs11)
theorem d2f (cb:Cb) (N:Nat) (call:j4) (v3:Value) (xs5:List Value) (v2:Value) (v8:Value):c2u cb N call v3 xs5 v2 v8=b7B cb N call v3 xs5 v2 v8:=by
 simp only [c2u,b7B,d5q,d3W,d0G,d2c]
noncomputable def b8p (cb:Cb) (N:Nat) (call:j4) (v4:Value) (v3:Value) (v2:Value) (xs5:List Value):M R2:=
 cb.bv R2 (bq .lss 3 (.tmp 13) (.tmp 12) (d9 xs5 16) v4) fun v8=>
 j6 v8 (
 b7B cb N call v3 xs5 v2 v8) (
 d6K cb N call v8 xs5)
theorem d0Y (cb:Cb) (N:Nat) (call:j4) (v4:Value) (v3:Value) (v2:Value):c3B cb N call v4 v3 v2=b8p cb N call v4 v3 v2:=by
 funext xs5
 simp only [c3B,b8p,l5,d2f]
noncomputable def b6W (cb:Cb) (N:Nat) (call:j4) (v4:Value) (v3:Value) (v2:Value):M CR:=
 cb.bj CR (cb.lp (b8p cb N call v4 v3 v2) N [undef,undef,undef,undef,undef,undef,undef,undef,undef,undef,undef,undef,undef,undef,(.int .i64 (.ofNat 0)),undef,(.int .i64 (.ofNat 0))]) fun x6 vs7=>
 l7 x6 (M.fail) (fun i14=>l8 (Nat.beq i14 0) (cb.bv CR (J4 v2 none (some (.int .i64 (.ofNat 3)))) fun v15=>
 cb.bv CR (bq .eql 9 (.tmp 29) (.const (.string ⟨⟨[105, 51, 50]⟩⟩)) v15 (.string ⟨⟨[105, 51, 50]⟩⟩)) fun v16=>
 j6 v16 (
 M.pure (.ret (.int .i64 (.ofNat 4)))) (
 M.pure (.ret (.int .i64 (.ofNat 8))))) (M.fail)) (M.pure (.ret (d9 vs7 14))) l6
theorem d0B (cb:Cb) (N:Nat) (call:j4) (v4:Value) (v3:Value) (v2:Value):c4y cb N call v4 v3 v2=b6W cb N call v4 v3 v2:=by
 simp only [c4y,b6W,l5,d0Y]
noncomputable def b4G (cb:Cb) (N:Nat) (call:j4) (a0:Value):M CR:=
 cb.bc CR (call 35 [a0]) (fun v2=>
 cb.bv CR (H8 1 3 [(0, 1),(1, 1),(2, 1)] [(.int .i64 (.ofNat 8)),(.int .i64 (.ofNat 16)),(.int .i64 (.ofNat 32))] [(.int .i64 (.ofNat 0)),(.int .i64 (.ofNat 0)),(.int .i64 (.ofNat 0))]) fun v3=>
 cb.bv CR (H6 v3) fun v4=>
 b6W cb N call v4 v3 v2) l6
theorem c8J (cb:Cb) (N:Nat) (call:j4) (a0:Value):c5f cb N call a0=b4G cb N call a0:=by
 simp only [c5f,b4G,d0B]
noncomputable def c5D (cb:Cb) (N:Nat) (call:j4) (a0:Value):M CR:=
 cb.bc CR (call 124 [a0]) (fun v0=>
 cb.bv CR (un .not v0) fun v1=>
 j6 v1 (
 M.pure (.ret (.int .i64 (.ofNat 0)))) (
 b4G cb N call a0)) l6
theorem d6r (cb:Cb) (N:Nat) (call:j4) (a0:Value):d3H cb N call a0=c5D cb N call a0:=by
 simp only [d3H,c5D,c8J]
noncomputable def b4y (cb:Cb) (N:Nat) (call:j4) (a0:Value) (v2:Value) (v3:Value) (v4:Value):M R2:=
 cb.bv R2 (bq .eql 22 (.tmp 3) (.const (.int .i64 (.ofNat 64527))) a0 (.int .i64 (.ofNat 64527))) fun v5=>
 j6 v5 (
 M.pure (.normal, [v2,v3,v4,v5,undef,v5])) (
 cb.bv R2 (bq .eql 22 (.tmp 3) (.const (.int .i64 (.ofNat 64529))) a0 (.int .i64 (.ofNat 64529))) fun v6=>
 M.pure (.normal, [v2,v3,v4,v5,v6,v6]))
theorem c9E (cb:Cb) (N:Nat) (call:j4) (a0:Value) (v2:Value) (v3:Value) (v4:Value):c6P cb N call a0 v2 v3 v4=b4y cb N call a0 v2 v3 v4:=by
 simp only [c6P,b4y,l5]
noncomputable def b7K (cb:Cb) (N:Nat) (call:j4) (a0:Value) (v2:Value) (v3:Value):M R2:=
 cb.bv R2 (bq .eql 22 (.tmp 3) (.const (.int .i64 (.ofNat 64528))) a0 (.int .i64 (.ofNat 64528))) fun v4=>
 j6 v4 (
 M.pure (.normal, [v2,v3,v4,undef,undef,v4])) (
 b4y cb N call a0 v2 v3 v4)
theorem c9u (cb:Cb) (N:Nat) (call:j4) (a0:Value) (v2:Value) (v3:Value):c0Q cb N call a0 v2 v3=b7K cb N call a0 v2 v3:=by
 simp only [c0Q,b7K,l5,c9E]
noncomputable def b6N (cb:Cb) (N:Nat) (call:j4) (a0:Value) (v2:Value):M R2:=
 cb.bv R2 (bq .eql 22 (.tmp 3) (.const (.int .i64 (.ofNat 38))) a0 (.int .i64 (.ofNat 38))) fun v3=>
 j6 v3 (
 M.pure (.normal, [v2,v3,undef,undef,undef,v3])) (
 b7K cb N call a0 v2 v3)
theorem d2I (cb:Cb) (N:Nat) (call:j4) (a0:Value) (v2:Value):c1N cb N call a0 v2=b6N cb N call a0 v2:=by
 simp only [c1N,b6N,l5,c9u]
noncomputable def b2a (cb:Cb) (N:Nat) (call:j4) (a0:Value) (v12:Value):M R2:=
 cb.bv R2 (bq .eql 22 (.tmp 3) (.const (.int .i64 (.ofNat 64))) a0 (.int .i64 (.ofNat 64))) fun v13=>
 j6 v13 (
 M.pure (.normal, [v12,v13,undef,v13])) (
 cb.bv R2 (bq .eql 22 (.tmp 3) (.const (.int .i64 (.ofNat 64523))) a0 (.int .i64 (.ofNat 64523))) fun v14=>
 M.pure (.normal, [v12,v13,v14,v14]))
theorem d1X (cb:Cb) (N:Nat) (call:j4) (a0:Value) (v12:Value):c3V cb N call a0 v12=b2a cb N call a0 v12:=by
 simp only [c3V,b2a,l5]
noncomputable def b4K (cb:Cb) (N:Nat) (call:j4) (a0:Value):M CR:=
 cb.bv CR (bq .eql 22 (.tmp 3) (.const (.int .i64 (.ofNat 64521))) a0 (.int .i64 (.ofNat 64521))) fun v17=>
 j6 v17 (
 M.pure (.ret (.int .i64 (.ofNat 16)))) (
 M.pure (.ret (.int .i64 (.ofNat 0))))
theorem c9y (cb:Cb) (N:Nat) (call:j4) (a0:Value):c1l cb N call a0=b4K cb N call a0:=by
 simp only [c1l,b4K,l5]
noncomputable def b1q (cb:Cb) (N:Nat) (call:j4) (a0:Value):M CR:=
 cb.bv CR (bq .eql 22 (.tmp 3) (.const (.int .i64 (.ofNat 64520))) a0 (.int .i64 (.ofNat 64520))) fun v16=>
 j6 v16 (
 M.pure (.ret (.int .i64 (.ofNat 15)))) (
 b4K cb N call a0)
theorem d1U (cb:Cb) (N:Nat) (call:j4) (a0:Value):c7P cb N call a0=b1q cb N call a0:=by
 simp only [c7P,b1q,l5,c9y]
noncomputable def b7A (cb:Cb) (N:Nat) (call:j4) (a0:Value):M CR:=
 cb.bv CR (bq .eql 22 (.tmp 3) (.const (.int .i64 (.ofNat 64522))) a0 (.int .i64 (.ofNat 64522))) fun v15=>
 j6 v15 (
 M.pure (.ret (.int .i64 (.ofNat 14)))) (
 b1q cb N call a0)
theorem c9e (cb:Cb) (N:Nat) (call:j4) (a0:Value):c7A cb N call a0=b7A cb N call a0:=by
 simp only [c7A,b7A,l5,d1U]
noncomputable def b5o (cb:Cb) (N:Nat) (call:j4) (a0:Value):M CR:=
 cb.bj CR (cb.bv R2 (bq .eql 22 (.tmp 3) (.const (.int .i64 (.ofNat 63))) a0 (.int .i64 (.ofNat 63))) fun v12=>
 j6 v12 (
 M.pure (.normal, [v12,undef,undef,v12])) (
 b2a cb N call a0 v12)) fun x10 vs11=>
 l7 x10 (j6 (d9 vs11 3) (
 M.pure (.ret (.int .i64 (.ofNat 13)))) (
 b7A cb N call a0)) (fun _=>M.fail) (M.fail) l6
theorem c8V (cb:Cb) (N:Nat) (call:j4) (a0:Value):c1e cb N call a0=b5o cb N call a0:=by
 simp only [c1e,b5o,l5,d1X,c9e]
noncomputable def b1s (cb:Cb) (N:Nat) (call:j4) (a0:Value):M CR:=
 cb.bv CR (bq .eql 22 (.tmp 3) (.const (.int .i64 (.ofNat 64525))) a0 (.int .i64 (.ofNat 64525))) fun v9=>
 j6 v9 (
 M.pure (.ret (.int .i64 (.ofNat 12)))) (
 b5o cb N call a0)
theorem c9g (cb:Cb) (N:Nat) (call:j4) (a0:Value):c2J cb N call a0=b1s cb N call a0:=by
 simp only [c2J,b1s,l5,c8V]
noncomputable def b1t (cb:Cb) (N:Nat) (call:j4) (a0:Value):M CR:=
 cb.bv CR (bq .eql 22 (.tmp 3) (.const (.int .i64 (.ofNat 64524))) a0 (.int .i64 (.ofNat 64524))) fun v8=>
 j6 v8 (
 M.pure (.ret (.int .i64 (.ofNat 11)))) (
 b1s cb N call a0)
theorem c9F (cb:Cb) (N:Nat) (call:j4) (a0:Value):c3t cb N call a0=b1t cb N call a0:=by
 simp only [c3t,b1t,l5,c9g]
noncomputable def a9D (cb:Cb) (N:Nat) (call:j4) (a0:Value):M CR:=
 cb.bv CR (bq .eql 22 (.tmp 3) (.const (.int .i64 (.ofNat 64526))) a0 (.int .i64 (.ofNat 64526))) fun v7=>
 j6 v7 (
 M.pure (.ret (.int .i64 (.ofNat 10)))) (
 b1t cb N call a0)
theorem c7j (cb:Cb) (N:Nat) (call:j4) (a0:Value):b5f cb N call a0=a9D cb N call a0:=by
 simp only [b5f,a9D,l5,c9F]
noncomputable def c7K (cb:Cb) (N:Nat) (call:j4) (a0:Value):M CR:=
 cb.bj CR (cb.bv R2 (bq .eql 22 (.tmp 3) (.const (.int .i64 (.ofNat 37))) a0 (.int .i64 (.ofNat 37))) fun v2=>
 j6 v2 (
 M.pure (.normal, [v2,undef,undef,undef,undef,v2])) (
 b6N cb N call a0 v2)) fun x0 vs1=>
 l7 x0 (j6 (d9 vs1 5) (
 M.pure (.ret (.int .i64 (.ofNat 9)))) (
 a9D cb N call a0)) (fun _=>M.fail) (M.fail) l6
theorem d2Z (cb:Cb) (N:Nat) (call:j4) (a0:Value):d5n cb N call a0=c7K cb N call a0:=by
 simp only [d5n,c7K,l5,d2I,c7j]
noncomputable def b5J (cb:Cb) (N:Nat) (call:j4) (xs1:List Value) (v4:Value):M R2:=
 cb.bv R2 (bq .add 3 (.tmp 11) (.const (.int .i64 (.ofNat 1))) (d9 xs1 4) (.int .i64 (.ofNat 1))) fun v5=>
 cb.bv R2 (bq .quo 3 (.tmp 9) (.const (.int .i64 (.ofNat 2))) (d9 xs1 7) (.int .i64 (.ofNat 2))) fun v6=>
 M.pure (.normal, [(d9 xs1 7),v4,(d9 xs1 4),v5,v5,(d9 xs1 7),v6,v6])
theorem d2r (cb:Cb) (N:Nat) (call:j4) (xs1:List Value) (v4:Value):c6M cb N call xs1 v4=b5J cb N call xs1 v4:=by
 simp only [c6M,b5J,l5]
noncomputable def b4F (cb:Cb) (N:Nat) (call:j4) (xs1:List Value):M R2:=
 cb.bv R2 (bq .gtr 3 (.tmp 7) (.const (.int .i64 (.ofNat 1))) (d9 xs1 7) (.int .i64 (.ofNat 1))) fun v4=>
 j6 v4 (
 b5J cb N call xs1 v4) (
 M.pure (.exit 0, [(d9 xs1 7),v4,(d9 xs1 2),(d9 xs1 3),(d9 xs1 4),(d9 xs1 5),(d9 xs1 6),(d9 xs1 7)]))
theorem d2K (cb:Cb) (N:Nat) (call:j4):c6N cb N call=b4F cb N call:=by
 funext xs1
 simp only [c6N,b4F,l5,d2r]
noncomputable def c5X (cb:Cb) (N:Nat) (call:j4) (a0:Value):M CR:=
 cb.bc CR (call 91 [a0]) (fun v0=>
 cb.bj CR (cb.lp (b4F cb N call) N [undef,undef,undef,undef,(.int .i64 (.ofNat 0)),undef,undef,v0]) fun x2 vs3=>
 l7 x2 (M.fail) (fun i7=>l8 (Nat.beq i7 0) (M.pure (.ret (d9 vs3 4))) (M.fail)) (M.fail) l6) l6
theorem d6e (cb:Cb) (N:Nat) (call:j4) (a0:Value):d3w cb N call a0=c5X cb N call a0:=by
 simp only [d3w,c5X,d2K]
noncomputable def a7Z (cb:Cb) (N:Nat) (call:j4) (v30:Value) (a1:Value) (a0:Value):M CR:=
 cb.bj CR (l8 (o7 true v30) (cb.bv R2 (bq .add 3 (.tmp 53) (.const (.int .i64 (.ofNat 2))) a1 (.int .i64 (.ofNat 2))) fun v33=>
 cb.bv R2 (J4 a0 (some a1) (some v33)) fun v34=>
 cb.bv R2 (bq .eql 9 (.tmp 55) (.const (.string ⟨⟨[40, 59]⟩⟩)) v34 (.string ⟨⟨[40, 59]⟩⟩)) fun v35=>
 M.pure (.normal, [a0,a1,a1,v33,v34,v35])) (M.pure (.normal, [undef,undef,undef,undef,undef,undef]))) fun x31 vs32=>l7 x31 (cb.bv CR (q9 v30 (d9 vs32 5) (.bool false)) fun v36=>
 j6 v36 (
 cb.bc CR (call 134 [a0,a1]) (fun v37=>
 M.pure (.ret v37)) l6) (
 M.pure (.ret a1))) (fun _=>M.fail) M.fail l6
theorem c5L (cb:Cb) (N:Nat) (call:j4) (v30:Value) (a1:Value) (a0:Value):b3P cb N call v30 a1 a0=a7Z cb N call v30 a1 a0:=by
 simp only [b3P,a7Z,l5]
noncomputable def b0f (cb:Cb) (N:Nat) (call:j4) (a1:Value) (a0:Value):M CR:=
 cb.bv CR (bq .add 3 (.tmp 45) (.const (.int .i64 (.ofNat 1))) a1 (.int .i64 (.ofNat 1))) fun v28=>
 cb.bv CR (K7 a0) fun v29=>
 cb.bv CR (bq .lss 3 (.tmp 46) (.tmp 48) v28 v29) fun v30=>
 a7Z cb N call v30 a1 a0
theorem c1k (cb:Cb) (N:Nat) (call:j4) (a1:Value) (a0:Value):b2S cb N call a1 a0=b0f cb N call a1 a0:=by
 simp only [b2S,b0f,l5,c5L]
noncomputable def a8M (cb:Cb) (N:Nat) (call:j4) (v20:Value) (a1:Value) (a0:Value):M CR:=
 cb.bj CR (l8 (o7 true v20) (cb.bv R2 (bq .add 3 (.tmp 37) (.const (.int .i64 (.ofNat 2))) a1 (.int .i64 (.ofNat 2))) fun v23=>
 cb.bv R2 (J4 a0 (some a1) (some v23)) fun v24=>
 cb.bv R2 (bq .eql 9 (.tmp 39) (.const (.string ⟨⟨[59, 59]⟩⟩)) v24 (.string ⟨⟨[59, 59]⟩⟩)) fun v25=>
 M.pure (.normal, [a0,a1,a1,v23,v24,v25])) (M.pure (.normal, [undef,undef,undef,undef,undef,undef]))) fun x21 vs22=>l7 x21 (cb.bv CR (q9 v20 (d9 vs22 5) (.bool false)) fun v26=>
 j6 v26 (
 cb.bc CR (call 133 [a0,a1]) (fun v27=>
 M.pure (.ret v27)) l6) (
 b0f cb N call a1 a0)) (fun _=>M.fail) M.fail l6
theorem c0s (cb:Cb) (N:Nat) (call:j4) (v20:Value) (a1:Value) (a0:Value):b2G cb N call v20 a1 a0=a8M cb N call v20 a1 a0:=by
 simp only [b2G,a8M,l5,c1k]
noncomputable def a8Y (cb:Cb) (N:Nat) (call:j4) (a1:Value) (a0:Value):M CR:=
 cb.bv CR (bq .add 3 (.tmp 29) (.const (.int .i64 (.ofNat 1))) a1 (.int .i64 (.ofNat 1))) fun v18=>
 cb.bv CR (K7 a0) fun v19=>
 cb.bv CR (bq .lss 3 (.tmp 30) (.tmp 32) v18 v19) fun v20=>
 a8M cb N call v20 a1 a0
theorem c5l (cb:Cb) (N:Nat) (call:j4) (a1:Value) (a0:Value):b5x cb N call a1 a0=a8Y cb N call a1 a0:=by
 simp only [b5x,a8Y,l5,c0s]
noncomputable def a6a (cb:Cb) (N:Nat) (call:j4) (v11:Value) (a0:Value) (a1:Value):M CR:=
 cb.bj CR (l8 (o7 false v11) (cb.bv R2 (J5 a0 a1) fun v14=>
 cb.bv R2 (bq .eql 5 (.tmp 24) (.const (.int .u8 (.ofNat 13))) v14 (.int .u8 (.ofNat 13))) fun v15=>
 M.pure (.normal, [a0,a1,v14,v15])) (M.pure (.normal, [undef,undef,undef,undef]))) fun x12 vs13=>l7 x12 (cb.bv CR (q9 v11 (.bool true) (d9 vs13 3)) fun v16=>
 j6 v16 (
 cb.bv CR (bq .add 3 (.tmp 27) (.const (.int .i64 (.ofNat 1))) a1 (.int .i64 (.ofNat 1))) fun v17=>
 M.pure (.ret v17)) (
 a8Y cb N call a1 a0)) (fun _=>M.fail) M.fail l6
theorem c2Y (cb:Cb) (N:Nat) (call:j4) (v11:Value) (a0:Value) (a1:Value):b4T cb N call v11 a0 a1=a6a cb N call v11 a0 a1:=by
 simp only [b4T,a6a,l5,c5l]
noncomputable def a8o (cb:Cb) (N:Nat) (call:j4) (v1:Value) (a0:Value) (a1:Value):M CR:=
 cb.bj CR (l8 (o7 false v1) (cb.bv R2 (J5 a0 a1) fun v4=>
 cb.bv R2 (bq .eql 5 (.tmp 12) (.const (.int .u8 (.ofNat 9))) v4 (.int .u8 (.ofNat 9))) fun v5=>
 M.pure (.normal, [a0,a1,v4,v5])) (M.pure (.normal, [undef,undef,undef,undef]))) fun x2 vs3=>l7 x2 (cb.bv CR (q9 v1 (.bool true) (d9 vs3 3)) fun v6=>
 cb.bj CR (l8 (o7 false v6) (cb.bv R2 (J5 a0 a1) fun v9=>
 cb.bv R2 (bq .eql 5 (.tmp 18) (.const (.int .u8 (.ofNat 10))) v9 (.int .u8 (.ofNat 10))) fun v10=>
 M.pure (.normal, [a0,a1,v9,v10])) (M.pure (.normal, [undef,undef,undef,undef]))) fun x7 vs8=>l7 x7 (cb.bv CR (q9 v6 (.bool true) (d9 vs8 3)) fun v11=>
 a6a cb N call v11 a0 a1) (fun _=>M.fail) M.fail l6) (fun _=>M.fail) M.fail l6
theorem c1I (cb:Cb) (N:Nat) (call:j4) (v1:Value) (a0:Value) (a1:Value):b2K cb N call v1 a0 a1=a8o cb N call v1 a0 a1:=by
 simp only [b2K,a8o,l5,c2Y]
noncomputable def b4O (cb:Cb) (N:Nat) (call:j4) (a0:Value) (a1:Value):M CR:=
 cb.bv CR (J5 a0 a1) fun v0=>
 cb.bv CR (bq .eql 5 (.tmp 7) (.const (.int .u8 (.ofNat 32))) v0 (.int .u8 (.ofNat 32))) fun v1=>
 a8o cb N call v1 a0 a1
theorem c8e (cb:Cb) (N:Nat) (call:j4) (a0:Value) (a1:Value):c4h cb N call a0 a1=b4O cb N call a0 a1:=by
 simp only [c4h,b4O,l5,c1I]
noncomputable def a6T (cb:Cb) (N:Nat) (call:j4) (a1:Value) (v0:Value):M CR:=
 cb.bv CR (H7 [(0, 1),(1, 1)] [(.int .i64 (.ofNat 0)),a1] [(.int .i64 (.ofNat 0)),(.int .i64 (.ofNat 0)),(.string ⟨⟨[]⟩⟩)]) fun v3=>
 cb.bv CR (bq .add 3 (.tmp 18) (.const (.int .i64 (.ofNat 1))) a1 (.int .i64 (.ofNat 1))) fun v4=>
 cb.bv CR (r9 3 v0 v3) fun v5=>
 K5 v0 fun ad7=>cb.bv CR (M.bind (loadN ad7 3) fun q=>M.pure (.agg ⟨q⟩)) fun v6=>
 M.pure (.ret (.tuple ⟨[v6,v4,(.int .i64 (.ofNat 0))]⟩))
theorem c5B (cb:Cb) (N:Nat) (call:j4) (a1:Value) (v0:Value):b2H cb N call a1 v0=a6T cb N call a1 v0:=by
 simp only [b2H,a6T,l5]
noncomputable def a8k (cb:Cb) (N:Nat) (call:j4) (a1:Value) (v0:Value):M CR:=
 cb.bv CR (H7 [(0, 1),(1, 1)] [(.int .i64 (.ofNat 1)),a1] [(.int .i64 (.ofNat 0)),(.int .i64 (.ofNat 0)),(.string ⟨⟨[]⟩⟩)]) fun v9=>
 cb.bv CR (bq .add 3 (.tmp 24) (.const (.int .i64 (.ofNat 1))) a1 (.int .i64 (.ofNat 1))) fun v10=>
 cb.bv CR (r9 3 v0 v9) fun v11=>
 K5 v0 fun ad13=>cb.bv CR (M.bind (loadN ad13 3) fun q=>M.pure (.agg ⟨q⟩)) fun v12=>
 M.pure (.ret (.tuple ⟨[v12,v10,(.int .i64 (.ofNat 0))]⟩))
theorem c1r (cb:Cb) (N:Nat) (call:j4) (a1:Value) (v0:Value):b1Q cb N call a1 v0=a8k cb N call a1 v0:=by
 simp only [b1Q,a8k,l5]
noncomputable def a7F (cb:Cb) (N:Nat) (call:j4) (a1:Value) (v16:Value) (a0:Value) (v0:Value):M CR:=
 cb.bv CR (bq .add 3 (.tmp 41) (.const (.int .i64 (.ofNat 1))) a1 (.int .i64 (.ofNat 1))) fun v23=>
 cb.bv CR (bq .sub 3 (.tmp 43) (.const (.int .i64 (.ofNat 1))) v16 (.int .i64 (.ofNat 1))) fun v24=>
 cb.bv CR (J4 a0 (some v23) (some v24)) fun v25=>
 cb.bv CR (H7 [(0, 1),(1, 1),(2, 1)] [(.int .i64 (.ofNat 3)),a1,v25] [(.int .i64 (.ofNat 0)),(.int .i64 (.ofNat 0)),(.string ⟨⟨[]⟩⟩)]) fun v26=>
 cb.bv CR (r9 3 v0 v26) fun v27=>
 K5 v0 fun ad29=>cb.bv CR (M.bind (loadN ad29 3) fun q=>M.pure (.agg ⟨q⟩)) fun v28=>
 M.pure (.ret (.tuple ⟨[v28,v16,(.int .i64 (.ofNat 0))]⟩))
theorem c7D (cb:Cb) (N:Nat) (call:j4) (a1:Value) (v16:Value) (a0:Value) (v0:Value):b2B cb N call a1 v16 a0 v0=a7F cb N call a1 v16 a0 v0:=by
 simp only [b2B,a7F,l5]
noncomputable def a9V (cb:Cb) (N:Nat) (call:j4) (a0:Value) (a1:Value) (v0:Value):M CR:=
 cb.bc CR (call 135 [a0,a1]) (fun v15=>
 cb.bv CR (z8 0 v15) fun v16=>
 cb.bv CR (z8 1 v15) fun v17=>
 cb.bv CR (bq .neq 41 (.tmp 34) (.const (.int .i64 (.ofNat 0))) v17 (.int .i64 (.ofNat 0))) fun v18=>
 j6 v18 (
 c8p cb N call v0 v16 v17) (
 a7F cb N call a1 v16 a0 v0)) l6
theorem c6R (cb:Cb) (N:Nat) (call:j4) (a0:Value) (a1:Value) (v0:Value):b8t cb N call a0 a1 v0=a9V cb N call a0 a1 v0:=by
 simp only [b8t,a9V,l5,c7D]
noncomputable def a8L (cb:Cb) (N:Nat) (call:j4) (xs30:List Value) (a0:Value) (v33:Value) (v34:Value) (vs36:List Value) (v39:Value):M R2:=
 cb.bv R2 (bq .add 3 (.tmp 59) (.const (.int .i64 (.ofNat 1))) (d9 xs30 12) (.int .i64 (.ofNat 1))) fun v40=>
 M.pure (.normal, [(d9 xs30 12),a0,v33,v34,v34,(d9 vs36 0),(d9 vs36 1),(d9 vs36 2),(d9 vs36 3),v39,(d9 xs30 12),v40,v40])
theorem c2j (cb:Cb) (N:Nat) (call:j4) (xs30:List Value) (a0:Value) (v33:Value) (v34:Value) (vs36:List Value) (v39:Value):b5Q cb N call xs30 a0 v33 v34 vs36 v39=a8L cb N call xs30 a0 v33 v34 vs36 v39:=by
 simp only [b5Q,a8L,l5]
noncomputable def a6P (cb:Cb) (N:Nat) (call:j4) (xs30:List Value) (v33:Value) (a0:Value):M R2:=
 cb.bv R2 (bq .lss 3 (.tmp 49) (.tmp 51) (d9 xs30 12) v33) fun v34=>
 cb.bj R2 (l8 (o7 true v34) (cb.bv R2 (J5 a0 (d9 xs30 12)) fun v37=>
 cb.bc R2 (call 136 [v37]) (fun v38=>
 M.pure (.normal, [a0,(d9 xs30 12),v37,v38])) l6) (M.pure (.normal, [undef,undef,undef,undef]))) fun x35 vs36=>l7 x35 (cb.bv R2 (q9 v34 (d9 vs36 3) (.bool false)) fun v39=>
 j6 v39 (
 a8L cb N call xs30 a0 v33 v34 vs36 v39) (
 c9N cb N call xs30 a0 v33 v34 vs36 v39)) (fun _=>M.fail) M.fail l6
theorem c0U (cb:Cb) (N:Nat) (call:j4) (xs30:List Value) (v33:Value) (a0:Value):b5l cb N call xs30 v33 a0=a6P cb N call xs30 v33 a0:=by
 simp only [b5l,a6P,l5,c2j]
noncomputable def a8X (cb:Cb) (N:Nat) (call:j4) (a0:Value) (xs30:List Value):M R2:=
 cb.bv R2 (K7 a0) fun v33=>
 a6P cb N call xs30 v33 a0
theorem c6W (cb:Cb) (N:Nat) (call:j4) (a0:Value):b2q cb N call a0=a8X cb N call a0:=by
 funext xs30
 simp only [b2q,a8X,c0U]
noncomputable def a4M (cb:Cb) (N:Nat) (call:j4) (a0:Value) (a1:Value) (v0:Value):M CR:=
 cb.bj CR (cb.lp (a8X cb N call a0) N [undef,undef,undef,undef,undef,undef,undef,undef,undef,undef,undef,undef,a1]) fun x31 vs32=>
 l7 x31 (M.fail) (fun i41=>l8 (Nat.beq i41 0) (cb.bv CR (bq .eql 3 (.tmp 61) (.tmp 62) (d9 vs32 12) a1) fun v42=>
 j6 v42 (
 c9i cb N call v0 a1) (
 b9R cb N call a0 a1 vs32 v0)) (M.fail)) (M.fail) l6
theorem b9D (cb:Cb) (N:Nat) (call:j4) (a0:Value) (a1:Value) (v0:Value):a8n cb N call a0 a1 v0=a4M cb N call a0 a1 v0:=by
 simp only [a8n,a4M,l5,c6W]
noncomputable def a4A (cb:Cb) (N:Nat) (call:j4) (v1:Value) (a0:Value) (a1:Value) (v0:Value):M CR:=
 cb.bv CR (bq .eql 5 (.tmp 26) (.const (.int .u8 (.ofNat 34))) v1 (.int .u8 (.ofNat 34))) fun v14=>
 j6 v14 (
 a9V cb N call a0 a1 v0) (
 a4M cb N call a0 a1 v0)
theorem b9n (cb:Cb) (N:Nat) (call:j4) (v1:Value) (a0:Value) (a1:Value) (v0:Value):a7T cb N call v1 a0 a1 v0=a4A cb N call v1 a0 a1 v0:=by
 simp only [a7T,a4A,l5,c6R,b9D]
noncomputable def a4B (cb:Cb) (N:Nat) (call:j4) (v1:Value) (a1:Value) (v0:Value) (a0:Value):M CR:=
 cb.bv CR (bq .eql 5 (.tmp 20) (.const (.int .u8 (.ofNat 41))) v1 (.int .u8 (.ofNat 41))) fun v8=>
 j6 v8 (
 a8k cb N call a1 v0) (
 a4A cb N call v1 a0 a1 v0)
theorem b9r (cb:Cb) (N:Nat) (call:j4) (v1:Value) (a1:Value) (v0:Value) (a0:Value):a6F cb N call v1 a1 v0 a0=a4B cb N call v1 a1 v0 a0:=by
 simp only [a6F,a4B,l5,c1r,b9n]
noncomputable def b2V (cb:Cb) (N:Nat) (call:j4) (a0:Value) (a1:Value):M CR:=
 cb.bv CR (J6 [(.int .i64 (.ofNat 0)),(.int .i64 (.ofNat 0)),(.string ⟨⟨[]⟩⟩)]) fun v0=>
 cb.bv CR (J5 a0 a1) fun v1=>
 cb.bv CR (bq .eql 5 (.tmp 14) (.const (.int .u8 (.ofNat 40))) v1 (.int .u8 (.ofNat 40))) fun v2=>
 j6 v2 (
 a6T cb N call a1 v0) (
 a4B cb N call v1 a1 v0 a0)
theorem c9n (cb:Cb) (N:Nat) (call:j4) (a0:Value) (a1:Value):c1p cb N call a0 a1=b2V cb N call a0 a1:=by
 simp only [c1p,b2V,l5,c5B,b9r]
noncomputable def a9A (cb:Cb) (N:Nat) (call:j4) (xs8:List Value) (v11:Value) (a0:Value) (v12:Value) (v13:Value) (v14:Value):M R2:=
 cb.bv R2 (bq .add 3 (.tmp 14) (.const (.int .i64 (.ofNat 1))) (d9 xs8 10) (.int .i64 (.ofNat 1))) fun v15=>
 M.pure (.normal, [v11,(d9 xs8 10),(d9 xs8 10),a0,(d9 xs8 10),v12,v13,v14,(d9 xs8 8),v15,v15])
theorem c1E (cb:Cb) (N:Nat) (call:j4) (xs8:List Value) (v11:Value) (a0:Value) (v12:Value) (v13:Value) (v14:Value):b3K cb N call xs8 v11 a0 v12 v13 v14=a9A cb N call xs8 v11 a0 v12 v13 v14:=by
 simp only [b3K,a9A,l5]
noncomputable def a8s (cb:Cb) (N:Nat) (call:j4) (a0:Value) (xs8:List Value) (v11:Value):M R2:=
 cb.bv R2 (J5 a0 (d9 xs8 10)) fun v12=>
 cb.bc R2 (call 137 [v12]) (fun v13=>
 cb.bv R2 (un .not v13) fun v14=>
 j6 v14 (
 M.pure (.ret, [v11,(d9 xs8 10),(d9 xs8 10),a0,(d9 xs8 10),v12,v13,v14,(.bool false),(d9 xs8 9),(d9 xs8 10)])) (
 a9A cb N call xs8 v11 a0 v12 v13 v14)) l6
theorem c2D (cb:Cb) (N:Nat) (call:j4) (a0:Value) (xs8:List Value) (v11:Value):b7P cb N call a0 xs8 v11=a8s cb N call a0 xs8 v11:=by
 simp only [b7P,a8s,c1E]
noncomputable def a8c (cb:Cb) (N:Nat) (call:j4) (v7:Value) (a0:Value) (xs8:List Value):M R2:=
 cb.bv R2 (bq .lss 3 (.tmp 14) (.tmp 13) (d9 xs8 10) v7) fun v11=>
 j6 v11 (
 a8s cb N call a0 xs8 v11) (
 c8P cb N call v11 xs8)
theorem c4C (cb:Cb) (N:Nat) (call:j4) (v7:Value) (a0:Value):b7j cb N call v7 a0=a8c cb N call v7 a0:=by
 funext xs8
 simp only [b7j,a8c,l5,c2D]
noncomputable def a8g (cb:Cb) (N:Nat) (call:j4) (a0:Value):M CR:=
 cb.bv CR (K7 a0) fun v7=>
 cb.bj CR (cb.lp (a8c cb N call v7 a0) N [undef,undef,undef,undef,undef,undef,undef,undef,(.bool false),undef,(.int .i64 (.ofNat 0))]) fun x9 vs10=>
 l7 x9 (M.fail) (fun i16=>l8 (Nat.beq i16 0) (M.pure (.ret (.bool true))) (M.fail)) (M.pure (.ret (d9 vs10 8))) l6
theorem c1m (cb:Cb) (N:Nat) (call:j4) (a0:Value):b5P cb N call a0=a8g cb N call a0:=by
 simp only [b5P,a8g,c4C]
noncomputable def a9Y (cb:Cb) (N:Nat) (call:j4) (v0:Value) (a0:Value):M CR:=
 cb.bv CR (bq .lss 3 (.tmp 5) (.const (.int .i64 (.ofNat 2))) v0 (.int .i64 (.ofNat 2))) fun v1=>
 cb.bj CR (l8 (o7 false v1) (cb.bv R2 (J5 a0 (.int .i64 (.ofNat 0))) fun v4=>
 cb.bv R2 (bq .neq 5 (.tmp 9) (.const (.int .u8 (.ofNat 36))) v4 (.int .u8 (.ofNat 36))) fun v5=>
 M.pure (.normal, [a0,v4,v5])) (M.pure (.normal, [undef,undef,undef]))) fun x2 vs3=>l7 x2 (cb.bv CR (q9 v1 (.bool true) (d9 vs3 2)) fun v6=>
 j6 v6 (
 M.pure (.ret (.bool false))) (
 a8g cb N call a0)) (fun _=>M.fail) M.fail l6
theorem c4g (cb:Cb) (N:Nat) (call:j4) (v0:Value) (a0:Value):b5T cb N call v0 a0=a9Y cb N call v0 a0:=by
 simp only [b5T,a9Y,l5,c1m]
noncomputable def b1G (cb:Cb) (N:Nat) (call:j4) (a0:Value):M CR:=
 cb.bv CR (K7 a0) fun v0=>
 a9Y cb N call v0 a0
theorem d0E (cb:Cb) (N:Nat) (call:j4) (a0:Value):c5K cb N call a0=b1G cb N call a0:=by
 simp only [c5K,b1G,c4g]
noncomputable def a9P (cb:Cb) (N:Nat) (call:j4) (v29:Value) (v34:Value) (v35:Value) (v36:Value) (v37:Value) (v38:Value):M R2:=
 cb.bv R2 (bq .eql 76 (.tmp 41) (.const (.int .i64 (.ofNat 16))) v29 (.int .i64 (.ofNat 16))) fun v39=>
 M.pure (.normal, [v34,v35,v36,v37,v38,v39,v39])
theorem c3F (cb:Cb) (N:Nat) (call:j4) (v29:Value) (v34:Value) (v35:Value) (v36:Value) (v37:Value) (v38:Value):b1Z cb N call v29 v34 v35 v36 v37 v38=a9P cb N call v29 v34 v35 v36 v37 v38:=by
 simp only [b1Z,a9P,l5]
noncomputable def a6Y (cb:Cb) (N:Nat) (call:j4) (v29:Value) (v34:Value) (v35:Value) (v36:Value) (v37:Value):M R2:=
 cb.bv R2 (bq .eql 76 (.tmp 41) (.const (.int .i64 (.ofNat 12))) v29 (.int .i64 (.ofNat 12))) fun v38=>
 j6 v38 (
 M.pure (.normal, [v34,v35,v36,v37,v38,undef,v38])) (
 a9P cb N call v29 v34 v35 v36 v37 v38)
theorem c3p (cb:Cb) (N:Nat) (call:j4) (v29:Value) (v34:Value) (v35:Value) (v36:Value) (v37:Value):b6i cb N call v29 v34 v35 v36 v37=a6Y cb N call v29 v34 v35 v36 v37:=by
 simp only [b6i,a6Y,l5,c3F]
noncomputable def a8x (cb:Cb) (N:Nat) (call:j4) (v29:Value) (v34:Value) (v35:Value) (v36:Value):M R2:=
 cb.bv R2 (bq .eql 76 (.tmp 41) (.const (.int .i64 (.ofNat 8))) v29 (.int .i64 (.ofNat 8))) fun v37=>
 j6 v37 (
 M.pure (.normal, [v34,v35,v36,v37,undef,undef,v37])) (
 a6Y cb N call v29 v34 v35 v36 v37)
theorem c0H (cb:Cb) (N:Nat) (call:j4) (v29:Value) (v34:Value) (v35:Value) (v36:Value):b3N cb N call v29 v34 v35 v36=a8x cb N call v29 v34 v35 v36:=by
 simp only [b3N,a8x,l5,c3p]
noncomputable def a7n (cb:Cb) (N:Nat) (call:j4) (v29:Value) (v34:Value) (v35:Value):M R2:=
 cb.bv R2 (bq .eql 76 (.tmp 41) (.const (.int .i64 (.ofNat 7))) v29 (.int .i64 (.ofNat 7))) fun v36=>
 j6 v36 (
 M.pure (.normal, [v34,v35,v36,undef,undef,undef,v36])) (
 a8x cb N call v29 v34 v35 v36)
theorem c6D (cb:Cb) (N:Nat) (call:j4) (v29:Value) (v34:Value) (v35:Value):b3e cb N call v29 v34 v35=a7n cb N call v29 v34 v35:=by
 simp only [b3e,a7n,l5,c0H]
noncomputable def a6m (cb:Cb) (N:Nat) (call:j4) (v29:Value) (v34:Value):M R2:=
 cb.bv R2 (bq .eql 76 (.tmp 41) (.const (.int .i64 (.ofNat 4))) v29 (.int .i64 (.ofNat 4))) fun v35=>
 j6 v35 (
 M.pure (.normal, [v34,v35,undef,undef,undef,undef,v35])) (
 a7n cb N call v29 v34 v35)
theorem c4V (cb:Cb) (N:Nat) (call:j4) (v29:Value) (v34:Value):b2z cb N call v29 v34=a6m cb N call v29 v34:=by
 simp only [b2z,a6m,l5,c6D]
noncomputable def a4P (cb:Cb) (N:Nat) (call:j4) (v29:Value) (a0:Value):M CR:=
 cb.bv CR (bq .eql 76 (.tmp 41) (.const (.int .i64 (.ofNat 20))) v29 (.int .i64 (.ofNat 20))) fun v79=>
 j6 v79 (
 cb.bc CR (call 149 [a0]) (fun v80=>
 M.pure (.ret v80)) l6) (
 M.pure (.ret (.bool true)))
theorem b8Q (cb:Cb) (N:Nat) (call:j4) (v29:Value) (a0:Value):a9z cb N call v29 a0=a4P cb N call v29 a0:=by
 simp only [a9z,a4P,l5]
noncomputable def a4v (cb:Cb) (N:Nat) (call:j4) (v29:Value) (a0:Value):M CR:=
 cb.bv CR (bq .eql 76 (.tmp 41) (.const (.int .i64 (.ofNat 19))) v29 (.int .i64 (.ofNat 19))) fun v77=>
 j6 v77 (
 cb.bc CR (call 148 [a0,(.int .i64 (.ofNat 64))]) (fun v78=>
 M.pure (.ret v78)) l6) (
 a4P cb N call v29 a0)
theorem b9k (cb:Cb) (N:Nat) (call:j4) (v29:Value) (a0:Value):a8i cb N call v29 a0=a4v cb N call v29 a0:=by
 simp only [a8i,a4v,l5,b8Q]
noncomputable def a4q (cb:Cb) (N:Nat) (call:j4) (v29:Value) (a0:Value):M CR:=
 cb.bv CR (bq .eql 76 (.tmp 41) (.const (.int .i64 (.ofNat 18))) v29 (.int .i64 (.ofNat 18))) fun v75=>
 j6 v75 (
 cb.bc CR (call 148 [a0,(.int .i64 (.ofNat 32))]) (fun v76=>
 M.pure (.ret v76)) l6) (
 a4v cb N call v29 a0)
theorem b8Z (cb:Cb) (N:Nat) (call:j4) (v29:Value) (a0:Value):a8N cb N call v29 a0=a4q cb N call v29 a0:=by
 simp only [a8N,a4q,l5,b9k]
noncomputable def a4O (cb:Cb) (N:Nat) (call:j4) (v29:Value) (a0:Value):M CR:=
 cb.bv CR (bq .eql 76 (.tmp 41) (.const (.int .i64 (.ofNat 17))) v29 (.int .i64 (.ofNat 17))) fun v73=>
 j6 v73 (
 cb.bc CR (call 147 [a0]) (fun v74=>
 M.pure (.ret v74)) l6) (
 a4q cb N call v29 a0)
theorem b9z (cb:Cb) (N:Nat) (call:j4) (v29:Value) (a0:Value):a7z cb N call v29 a0=a4O cb N call v29 a0:=by
 simp only [a7z,a4O,l5,b8Z]
noncomputable def a4x (cb:Cb) (N:Nat) (call:j4) (v29:Value) (a0:Value):M CR:=
 cb.bv CR (bq .eql 76 (.tmp 41) (.const (.int .i64 (.ofNat 13))) v29 (.int .i64 (.ofNat 13))) fun v68=>
 j6 v68 (
 b9W cb N call a0) (
 a4O cb N call v29 a0)
theorem b8T (cb:Cb) (N:Nat) (call:j4) (v29:Value) (a0:Value):a9G cb N call v29 a0=a4x cb N call v29 a0:=by
 simp only [a9G,a4x,l5,b9z]
noncomputable def a4Y (cb:Cb) (N:Nat) (call:j4) (v29:Value) (a0:Value):M CR:=
 cb.bv CR (bq .eql 76 (.tmp 41) (.const (.int .i64 (.ofNat 15))) v29 (.int .i64 (.ofNat 15))) fun v66=>
 j6 v66 (
 cb.bc CR (call 146 [a0,(.int .i64 (.ofNat 3)),(.int .i64 (.ofNat 6))]) (fun v67=>
 M.pure (.ret v67)) l6) (
 a4x cb N call v29 a0)
theorem b9y (cb:Cb) (N:Nat) (call:j4) (v29:Value) (a0:Value):a6U cb N call v29 a0=a4Y cb N call v29 a0:=by
 simp only [a6U,a4Y,l5,b8T]
noncomputable def a4H (cb:Cb) (N:Nat) (call:j4) (v29:Value) (a0:Value):M CR:=
 cb.bv CR (bq .eql 76 (.tmp 41) (.const (.int .i64 (.ofNat 11))) v29 (.int .i64 (.ofNat 11))) fun v64=>
 j6 v64 (
 cb.bc CR (call 146 [a0,(.int .i64 (.ofNat 2)),(.int .i64 (.ofNat 5))]) (fun v65=>
 M.pure (.ret v65)) l6) (
 a4Y cb N call v29 a0)
theorem b9H (cb:Cb) (N:Nat) (call:j4) (v29:Value) (a0:Value):a7q cb N call v29 a0=a4H cb N call v29 a0:=by
 simp only [a7q,a4H,l5,b9y]
noncomputable def a4Q (cb:Cb) (N:Nat) (call:j4) (v29:Value) (a0:Value):M CR:=
 cb.bv CR (bq .eql 76 (.tmp 41) (.const (.int .i64 (.ofNat 14))) v29 (.int .i64 (.ofNat 14))) fun v62=>
 j6 v62 (
 cb.bc CR (call 145 [a0,(.int .i64 (.ofNat 3))]) (fun v63=>
 M.pure (.ret v63)) l6) (
 a4H cb N call v29 a0)
theorem b8O (cb:Cb) (N:Nat) (call:j4) (v29:Value) (a0:Value):a6r cb N call v29 a0=a4Q cb N call v29 a0:=by
 simp only [a6r,a4Q,l5,b9H]
noncomputable def a4w (cb:Cb) (N:Nat) (call:j4) (v29:Value) (a0:Value):M CR:=
 cb.bv CR (bq .eql 76 (.tmp 41) (.const (.int .i64 (.ofNat 10))) v29 (.int .i64 (.ofNat 10))) fun v60=>
 j6 v60 (
 cb.bc CR (call 145 [a0,(.int .i64 (.ofNat 2))]) (fun v61=>
 M.pure (.ret v61)) l6) (
 a4Q cb N call v29 a0)
theorem b8Y (cb:Cb) (N:Nat) (call:j4) (v29:Value) (a0:Value):a8w cb N call v29 a0=a4w cb N call v29 a0:=by
 simp only [a8w,a4w,l5,b8O]
noncomputable def a4X (cb:Cb) (N:Nat) (call:j4) (v29:Value) (a0:Value):M CR:=
 cb.bv CR (bq .eql 76 (.tmp 41) (.const (.int .i64 (.ofNat 9))) v29 (.int .i64 (.ofNat 9))) fun v55=>
 j6 v55 (
 c7Y cb N call a0) (
 a4w cb N call v29 a0)
theorem b8M (cb:Cb) (N:Nat) (call:j4) (v29:Value) (a0:Value):a6h cb N call v29 a0=a4X cb N call v29 a0:=by
 simp only [a6h,a4X,l5,b8Y]
noncomputable def a4I (cb:Cb) (N:Nat) (call:j4) (v29:Value) (a0:Value):M CR:=
 cb.bv CR (bq .eql 76 (.tmp 41) (.const (.int .i64 (.ofNat 5))) v29 (.int .i64 (.ofNat 5))) fun v43=>
 j6 v43 (
 cb.bv CR (q8 a0) fun v44=>
 cb.bv CR (l9 4 v44) fun v45=>
 d2o cb N call v45 a0) (
 a4X cb N call v29 a0)
theorem b8X (cb:Cb) (N:Nat) (call:j4) (v29:Value) (a0:Value):a7x cb N call v29 a0=a4I cb N call v29 a0:=by
 simp only [a7x,a4I,l5,b8M]
noncomputable def a4G (cb:Cb) (N:Nat) (call:j4) (v29:Value) (a0:Value):M CR:=
 cb.bv CR (bq .eql 76 (.tmp 41) (.const (.int .i64 (.ofNat 3))) v29 (.int .i64 (.ofNat 3))) fun v41=>
 j6 v41 (
 cb.bc CR (call 142 [a0]) (fun v42=>
 M.pure (.ret v42)) l6) (
 a4I cb N call v29 a0)
theorem b8L (cb:Cb) (N:Nat) (call:j4) (v29:Value) (a0:Value):a9Z cb N call v29 a0=a4G cb N call v29 a0:=by
 simp only [a9Z,a4G,l5,b8X]
noncomputable def a4E (cb:Cb) (N:Nat) (call:j4) (v29:Value) (a0:Value):M CR:=
 cb.bj CR (cb.bv R2 (bq .eql 76 (.tmp 41) (.const (.int .i64 (.ofNat 2))) v29 (.int .i64 (.ofNat 2))) fun v34=>
 j6 v34 (
 M.pure (.normal, [v34,undef,undef,undef,undef,undef,v34])) (
 a6m cb N call v29 v34)) fun x32 vs33=>
 l7 x32 (j6 (d9 vs33 6) (
 cb.bc CR (call 141 [a0]) (fun v40=>
 M.pure (.ret v40)) l6) (
 a4G cb N call v29 a0)) (fun _=>M.fail) (M.fail) l6
theorem b9B (cb:Cb) (N:Nat) (call:j4) (v29:Value) (a0:Value):a6j cb N call v29 a0=a4E cb N call v29 a0:=by
 simp only [a6j,a4E,l5,c4V,b8L]
noncomputable def a4T (cb:Cb) (N:Nat) (call:j4) (a0:Value):M CR:=
 cb.bv CR (q8 a0) fun v25=>
 cb.bv CR (l9 4 v25) fun v26=>
 cb.bv CR (l9 0 v26) fun v27=>
 cb.bv CR (j5 v27) fun v28=>
 cb.bc CR (call 39 [v28]) (fun v29=>
 cb.bv CR (bq .eql 76 (.tmp 41) (.const (.int .i64 (.ofNat 1))) v29 (.int .i64 (.ofNat 1))) fun v30=>
 j6 v30 (
 cb.bc CR (call 140 [a0]) (fun v31=>
 M.pure (.ret v31)) l6) (
 a4E cb N call v29 a0)) l6
theorem b9s (cb:Cb) (N:Nat) (call:j4) (a0:Value):a7A cb N call a0=a4T cb N call a0:=by
 simp only [a7A,a4T,l5,b9B]
noncomputable def b3m (cb:Cb) (N:Nat) (call:j4) (a0:Value):M CR:=
 cb.bv CR (q8 a0) fun v0=>
 cb.bv CR (l9 4 v0) fun v1=>
 cb.bv CR (l9 0 v1) fun v2=>
 cb.bv CR (j5 v2) fun v3=>
 cb.bv CR (bq .eql 22 (.tmp 10) (.const (.int .i64 (.ofNat 27))) v3 (.int .i64 (.ofNat 27))) fun v4=>
 j6 v4 (
 d1i cb N call a0) (
 a4T cb N call a0)
theorem d1L (cb:Cb) (N:Nat) (call:j4) (a0:Value):c4n cb N call a0=b3m cb N call a0:=by
 simp only [c4n,b3m,l5,b9s]
noncomputable def b6g (cb:Cb) (N:Nat) (call:j4) (a0:Value) (a1:Value):M CR:=
 cb.bv CR (q8 a0) fun v0=>
 cb.bv CR (l9 0 v0) fun v1=>
 cb.bv CR (j5 v1) fun v2=>
 cb.bc CR (call 69 [v2,a1]) (fun v3=>
 cb.bv CR (q8 a0) fun v4=>
 cb.bv CR (l9 2 v4) fun v5=>
 cb.bv CR (j5 v5) fun v6=>
 cb.bv CR (bq .add 3 (.tmp 13) (.const (.int .i64 (.ofNat 1))) v6 (.int .i64 (.ofNat 1))) fun v7=>
 cb.bv CR (q8 a0) fun v8=>
 cb.bv CR (l9 2 v8) fun v9=>
 cb.bv CR (r9 1 v9 v7) fun v10=>
 M.pure (.ret (.tuple ⟨[]⟩))) l6
theorem c9c (cb:Cb) (N:Nat) (call:j4) (a0:Value) (a1:Value):c3X cb N call a0 a1=b6g cb N call a0 a1:=by
 simp only [c3X,b6g,l5]
noncomputable def b1Y (cb:Cb) (N:Nat) (call:j4) (a0:Value):M CR:=
 cb.bv CR (q8 a0) fun v0=>
 cb.bv CR (l9 0 v0) fun v1=>
 cb.bv CR (j5 v1) fun v2=>
 cb.bc CR (call 77 [v2]) (fun v3=>
 cb.bv CR (q8 a0) fun v4=>
 cb.bv CR (l9 2 v4) fun v5=>
 cb.bv CR (j5 v5) fun v6=>
 cb.bv CR (bq .sub 3 (.tmp 10) (.const (.int .i64 (.ofNat 1))) v6 (.int .i64 (.ofNat 1))) fun v7=>
 cb.bv CR (q8 a0) fun v8=>
 cb.bv CR (l9 2 v8) fun v9=>
 cb.bv CR (r9 1 v9 v7) fun v10=>
 M.pure (.ret (.tuple ⟨[]⟩))) l6
theorem d2b (cb:Cb) (N:Nat) (call:j4) (a0:Value):c5o cb N call a0=b1Y cb N call a0:=by
 simp only [c5o,b1Y,l5]
noncomputable def a8Z (cb:Cb) (N:Nat) (call:j4) (v19:Value) (v0:Value) (a1:Value):M CR:=
 cb.bj CR (l8 (o7 true v19) (cb.bv R2 (l9 3 v0) fun v22=>
 cb.bv R2 (j5 v22) fun v23=>
 cb.bv R2 (F3 4 v23 (.int .i64 (.ofNat 0))) fun v24=>
 cb.bv R2 (l9 2 v24) fun v25=>
 cb.bv R2 (j5 v25) fun v26=>
 cb.bv R2 (bq .eql 9 (.tmp 27) (.tmp 28) v26 a1) fun v27=>
 M.pure (.normal, [v22,v23,v24,v25,v26,a1,v27])) (M.pure (.normal, [undef,undef,undef,undef,undef,undef,undef]))) fun x20 vs21=>l7 x20 (cb.bv CR (q9 v19 (d9 vs21 6) (.bool false)) fun v28=>
 M.pure (.ret v28)) (fun _=>M.fail) M.fail l6
theorem c1M (cb:Cb) (N:Nat) (call:j4) (v19:Value) (v0:Value) (a1:Value):b2J cb N call v19 v0 a1=a8Z cb N call v19 v0 a1:=by
 simp only [b2J,a8Z,l5]
noncomputable def b0d (cb:Cb) (N:Nat) (call:j4) (v10:Value) (v0:Value) (a1:Value):M CR:=
 cb.bj CR (l8 (o7 true v10) (cb.bv R2 (l9 3 v0) fun v13=>
 cb.bv R2 (j5 v13) fun v14=>
 cb.bv R2 (F3 4 v14 (.int .i64 (.ofNat 0))) fun v15=>
 cb.bv R2 (l9 0 v15) fun v16=>
 cb.bv R2 (j5 v16) fun v17=>
 cb.bv R2 (bq .eql 117 (.tmp 19) (.const (.int .i64 (.ofNat 2))) v17 (.int .i64 (.ofNat 2))) fun v18=>
 M.pure (.normal, [v13,v14,v15,v16,v17,v18])) (M.pure (.normal, [undef,undef,undef,undef,undef,undef]))) fun x11 vs12=>l7 x11 (cb.bv CR (q9 v10 (d9 vs12 5) (.bool false)) fun v19=>
 a8Z cb N call v19 v0 a1) (fun _=>M.fail) M.fail l6
theorem c6B (cb:Cb) (N:Nat) (call:j4) (v10:Value) (v0:Value) (a1:Value):b7k cb N call v10 v0 a1=b0d cb N call v10 v0 a1:=by
 simp only [b7k,b0d,l5,c1M]
noncomputable def a8K (cb:Cb) (N:Nat) (call:j4) (v2:Value) (v0:Value) (a1:Value):M CR:=
 cb.bv CR (bq .eql 117 (.tmp 6) (.const (.int .i64 (.ofNat 0))) v2 (.int .i64 (.ofNat 0))) fun v3=>
 cb.bj CR (l8 (o7 true v3) (cb.bv R2 (l9 3 v0) fun v6=>
 cb.bv R2 (j5 v6) fun v7=>
 cb.bv R2 (H6 v7) fun v8=>
 cb.bv R2 (bq .gtr 3 (.tmp 11) (.const (.int .i64 (.ofNat 0))) v8 (.int .i64 (.ofNat 0))) fun v9=>
 M.pure (.normal, [v6,v7,v8,v9])) (M.pure (.normal, [undef,undef,undef,undef]))) fun x4 vs5=>l7 x4 (cb.bv CR (q9 v3 (d9 vs5 3) (.bool false)) fun v10=>
 b0d cb N call v10 v0 a1) (fun _=>M.fail) M.fail l6
theorem c7d (cb:Cb) (N:Nat) (call:j4) (v2:Value) (v0:Value) (a1:Value):b6J cb N call v2 v0 a1=a8K cb N call v2 v0 a1:=by
 simp only [b6J,a8K,l5,c6B]
noncomputable def b6p (cb:Cb) (N:Nat) (call:j4) (a0:Value) (a1:Value):M CR:=
 cb.bv CR (U7 a0) fun v0=>
 cb.bv CR (l9 0 v0) fun v1=>
 cb.bv CR (j5 v1) fun v2=>
 a8K cb N call v2 v0 a1
theorem d2C (cb:Cb) (N:Nat) (call:j4) (a0:Value) (a1:Value):c7o cb N call a0 a1=b6p cb N call a0 a1:=by
 simp only [c7o,b6p,c7d]
noncomputable def b2k (cb:Cb) (N:Nat) (call:j4) (a0:Value) (a1:Value):M CR:=
 cb.bv CR (K7 a0) fun v0=>
 cb.bv CR (K7 a1) fun v1=>
 cb.bv CR (bq .geq 3 (.tmp 6) (.tmp 8) v0 v1) fun v2=>
 cb.bj CR (l8 (o7 true v2) (cb.bv R2 (K7 a1) fun v5=>
 cb.bv R2 (J4 a0 none (some v5)) fun v6=>
 cb.bv R2 (bq .eql 9 (.tmp 14) (.tmp 15) v6 a1) fun v7=>
 M.pure (.normal, [a0,a1,v5,v6,a1,v7])) (M.pure (.normal, [undef,undef,undef,undef,undef,undef]))) fun x3 vs4=>l7 x3 (cb.bv CR (q9 v2 (d9 vs4 5) (.bool false)) fun v8=>
 M.pure (.ret v8)) (fun _=>M.fail) M.fail l6
theorem d0x (cb:Cb) (N:Nat) (call:j4) (a0:Value) (a1:Value):c3i cb N call a0 a1=b2k cb N call a0 a1:=by
 simp only [c3i,b2k,l5]
noncomputable def b2D (call:j4) (u0:Value) (u1:Value) (u2:Value):M R2:=
 M.bind (M.foot (M.pure u0)) fun y0=>
 M.bind (M.foot (J4 y0.1 (some (.int .i64 (.ofNat 2))) none)) fun y1=>
 M.bind (M.foot (M.pure (.int .u64 (.ofNat 16)))) fun y2=>
 M.bind (M.foot (M.pure y1.1)) fun y3=>
 M.guard (G9 [(0, 2),(1, 2)] [y0.2,y1.2,y2.2,y3.2]) (M.pure (.normal, [y0.1,y1.1,y2.1,y3.1]))
theorem c9O (call:j4) (u0:Value) (u1:Value) (u2:Value):b5D call u0 u1 u2=b2D call u0 u1 u2:=by
 simp only [b5D,b2D,l5,fun F hl=>G6 (ops:=a2Q) (L:=[(0, 2),(1, 2)]) (n:=4) (by kernel_rfl) (by kernel_rfl) F hl,D9,F7]
noncomputable def a6l (cb:Cb) (N:Nat) (call:j4) (a0:Value) (v2:Value) (v3:Value) (vs5:List Value) (v8:Value):M R2:=
 cb.bj R2 (b2D call a0 undef undef) fun _ vs9=>
 M.pure (.normal, [a0,v2,v3,v3,(d9 vs5 0),(d9 vs5 1),(d9 vs5 2),v8,(d9 vs9 0),(d9 vs9 1),(d9 vs9 2),(d9 vs9 3)])
theorem c4I (cb:Cb) (N:Nat) (call:j4) (a0:Value) (v2:Value) (v3:Value) (vs5:List Value) (v8:Value):b5U cb N call a0 v2 v3 vs5 v8=a6l cb N call a0 v2 v3 vs5 v8:=by
 simp only [b5U,a6l,d2q,c9O]
noncomputable def a9L (cb:Cb) (N:Nat) (call:j4) (v3:Value) (a0:Value) (v2:Value):M R2:=
 cb.bj R2 (l8 (o7 true v3) (cb.bv R2 (J4 a0 none (some (.int .i64 (.ofNat 2)))) fun v6=>
 cb.bv R2 (bq .eql 9 (.tmp 20) (.const (.string ⟨⟨[48, 120]⟩⟩)) v6 (.string ⟨⟨[48, 120]⟩⟩)) fun v7=>
 M.pure (.normal, [a0,v6,v7])) (M.pure (.normal, [undef,undef,undef]))) fun x4 vs5=>l7 x4 (cb.bv R2 (q9 v3 (d9 vs5 2) (.bool false)) fun v8=>
 j6 v8 (
 a6l cb N call a0 v2 v3 vs5 v8) (
 M.pure (.normal, [a0,v2,v3,v3,(d9 vs5 0),(d9 vs5 1),(d9 vs5 2),v8,undef,undef,(.int .u64 (.ofNat 10)),a0]))) (fun _=>M.fail) M.fail l6
theorem c7R (cb:Cb) (N:Nat) (call:j4) (v3:Value) (a0:Value) (v2:Value):b2Q cb N call v3 a0 v2=a9L cb N call v3 a0 v2:=by
 simp only [b2Q,a9L,l5,c4I]
noncomputable def a7a (cb:Cb) (N:Nat) (call:j4) (xs11:List Value) (v14:Value) (vs1:List Value) (v15:Value) (v16:Value) (vs18:List Value) (v19:Value):M R2:=
 cb.bv R2 (bq .add 3 (.tmp 27) (.const (.int .i64 (.ofNat 1))) (d9 xs11 55) (.int .i64 (.ofNat 1))) fun v20=>
 d1j cb N call v14 xs11 vs1 v15 v16 vs18 v19 v20
theorem c7Q (cb:Cb) (N:Nat) (call:j4) (xs11:List Value) (v14:Value) (vs1:List Value) (v15:Value) (v16:Value) (vs18:List Value) (v19:Value):b4I cb N call xs11 v14 vs1 v15 v16 vs18 v19=a7a cb N call xs11 v14 vs1 v15 v16 vs18 v19:=by
 simp only [b4I,a7a,l5]
noncomputable def a7M (cb:Cb) (N:Nat) (call:j4) (xs11:List Value) (v30:Value) (v35:Value) (v14:Value) (vs1:List Value) (v15:Value) (v16:Value) (vs18:List Value) (v19:Value) (v21:Value) (v22:Value) (v23:Value) (vs25:List Value) (v28:Value) (v29:Value) (v31:Value) (v32:Value) (v33:Value) (v34:Value):M R2:=
 cb.bj R2 (l8 (o7 false (d9 xs11 50)) (cb.bv R2 (bq .add 23 (.tmp 64) (.tmp 65) v30 v35) fun v38=>
 cb.bv R2 (bq .neq 23 (.tmp 66) (.const (.int .u64 (.ofNat 0))) v38 (.int .u64 (.ofNat 0))) fun v39=>
 M.pure (.normal, [v30,v35,v38,v39])) (M.pure (.normal, [undef,undef,undef,undef]))) fun x36 vs37=>l7 x36 (cb.bv R2 (q9 (d9 xs11 50) (.bool true) (d9 vs37 3)) fun v40=>
 cb.bv R2 (bq .add 3 (.tmp 27) (.const (.int .i64 (.ofNat 1))) (d9 xs11 55) (.int .i64 (.ofNat 1))) fun v41=>
 d2H cb N call v14 xs11 vs1 v15 v16 vs18 v19 v21 v22 v23 vs25 v28 v29 v30 v31 v32 v33 v34 v35 vs37 v40 v41) (fun _=>M.fail) M.fail l6
theorem c2W (cb:Cb) (N:Nat) (call:j4) (xs11:List Value) (v30:Value) (v35:Value) (v14:Value) (vs1:List Value) (v15:Value) (v16:Value) (vs18:List Value) (v19:Value) (v21:Value) (v22:Value) (v23:Value) (vs25:List Value) (v28:Value) (v29:Value) (v31:Value) (v32:Value) (v33:Value) (v34:Value):b1x cb N call xs11 v30 v35 v14 vs1 v15 v16 vs18 v19 v21 v22 v23 vs25 v28 v29 v31 v32 v33 v34=a7M cb N call xs11 v30 v35 v14 vs1 v15 v16 vs18 v19 v21 v22 v23 vs25 v28 v29 v31 v32 v33 v34:=by
 simp only [b1x,a7M,l5]
noncomputable def a7K (cb:Cb) (N:Nat) (call:j4) (xs11:List Value) (vs1:List Value) (v22:Value) (v14:Value) (v15:Value) (v16:Value) (vs18:List Value) (v19:Value) (v21:Value) (v23:Value) (vs25:List Value) (v28:Value):M R2:=
 cb.bc R2 (call 130 [(d9 xs11 52),(d9 vs1 10)]) (fun v29=>
 cb.bv R2 (z8 0 v29) fun v30=>
 cb.bv R2 (z8 1 v29) fun v31=>
 cb.bv R2 (I7 .u64 v22) fun v32=>
 cb.bc R2 (call 163 [v31,v32,(.int .u64 (.ofNat 0))]) (fun v33=>
 cb.bv R2 (z8 0 v33) fun v34=>
 cb.bv R2 (z8 1 v33) fun v35=>
 a7M cb N call xs11 v30 v35 v14 vs1 v15 v16 vs18 v19 v21 v22 v23 vs25 v28 v29 v31 v32 v33 v34) l6) l6
theorem c5R (cb:Cb) (N:Nat) (call:j4) (xs11:List Value) (vs1:List Value) (v22:Value) (v14:Value) (v15:Value) (v16:Value) (vs18:List Value) (v19:Value) (v21:Value) (v23:Value) (vs25:List Value) (v28:Value):b6x cb N call xs11 vs1 v22 v14 v15 v16 vs18 v19 v21 v23 vs25 v28=a7K cb N call xs11 vs1 v22 v14 v15 v16 vs18 v19 v21 v23 vs25 v28:=by
 simp only [b6x,a7K,c2W]
noncomputable def a9n (cb:Cb) (N:Nat) (call:j4) (v23:Value) (v22:Value) (vs1:List Value) (v14:Value) (xs11:List Value) (v15:Value) (v16:Value) (vs18:List Value) (v19:Value) (v21:Value):M R2:=
 cb.bj R2 (l8 (o7 false v23) (cb.bv R2 (I7 .u64 v22) fun v26=>
 cb.bv R2 (bq .geq 23 (.tmp 45) (.tmp 46) v26 (d9 vs1 10)) fun v27=>
 M.pure (.normal, [v22,v26,(d9 vs1 10),v27])) (M.pure (.normal, [undef,undef,undef,undef]))) fun x24 vs25=>l7 x24 (cb.bv R2 (q9 v23 (.bool true) (d9 vs25 3)) fun v28=>
 j6 v28 (
 d0T cb N call v14 xs11 vs1 v15 v16 vs18 v19 v21 v22 v23 vs25 v28) (
 a7K cb N call xs11 vs1 v22 v14 v15 v16 vs18 v19 v21 v23 vs25 v28)) (fun _=>M.fail) M.fail l6
theorem c4t (cb:Cb) (N:Nat) (call:j4) (v23:Value) (v22:Value) (vs1:List Value) (v14:Value) (xs11:List Value) (v15:Value) (v16:Value) (vs18:List Value) (v19:Value) (v21:Value):b1v cb N call v23 v22 vs1 v14 xs11 v15 v16 vs18 v19 v21=a9n cb N call v23 v22 vs1 v14 xs11 v15 v16 vs18 v19 v21:=by
 simp only [b1v,a9n,l5,c5R]
noncomputable def a8F (cb:Cb) (N:Nat) (call:j4) (vs1:List Value) (xs11:List Value) (v14:Value) (v15:Value) (v16:Value) (vs18:List Value) (v19:Value):M R2:=
 cb.bv R2 (J5 (d9 vs1 11) (d9 xs11 55)) fun v21=>
 cb.bc R2 (call 162 [v21]) (fun v22=>
 cb.bv R2 (bq .lss 3 (.tmp 41) (.const (.int .i64 (.ofNat 0))) v22 (.int .i64 (.ofNat 0))) fun v23=>
 a9n cb N call v23 v22 vs1 v14 xs11 v15 v16 vs18 v19 v21) l6
theorem c7I (cb:Cb) (N:Nat) (call:j4) (vs1:List Value) (xs11:List Value) (v14:Value) (v15:Value) (v16:Value) (vs18:List Value) (v19:Value):b7N cb N call vs1 xs11 v14 v15 v16 vs18 v19=a8F cb N call vs1 xs11 v14 v15 v16 vs18 v19:=by
 simp only [b7N,a8F,l5,c4t]
noncomputable def a4Z (cb:Cb) (N:Nat) (call:j4) (vs1:List Value) (xs11:List Value) (v14:Value):M R2:=
 cb.bv R2 (J5 (d9 vs1 11) (d9 xs11 55)) fun v15=>
 cb.bv R2 (bq .eql 5 (.tmp 32) (.const (.int .u8 (.ofNat 95))) v15 (.int .u8 (.ofNat 95))) fun v16=>
 cb.bj R2 (l8 (o7 true v16) (M.pure (.normal, [(d9 xs11 53)])) (M.pure (.normal, [undef]))) fun x17 vs18=>l7 x17 (cb.bv R2 (q9 v16 (d9 vs18 0) (.bool false)) fun v19=>
 j6 v19 (
 a7a cb N call xs11 v14 vs1 v15 v16 vs18 v19) (
 a8F cb N call vs1 xs11 v14 v15 v16 vs18 v19)) (fun _=>M.fail) M.fail l6
theorem b9u (cb:Cb) (N:Nat) (call:j4) (vs1:List Value) (xs11:List Value) (v14:Value):a8j cb N call vs1 xs11 v14=a4Z cb N call vs1 xs11 v14:=by
 simp only [a8j,a4Z,l5,c7Q,c7I]
noncomputable def a4F (cb:Cb) (N:Nat) (call:j4) (v10:Value) (vs1:List Value) (xs11:List Value):M R2:=
 cb.bv R2 (bq .lss 3 (.tmp 27) (.tmp 26) (d9 xs11 55) v10) fun v14=>
 j6 v14 (
 a4Z cb N call vs1 xs11 v14) (
 c0c cb N call v14 xs11)
theorem b9d (cb:Cb) (N:Nat) (call:j4) (v10:Value) (vs1:List Value):a9h cb N call v10 vs1=a4F cb N call v10 vs1:=by
 funext xs11
 simp only [a9h,a4F,l5,b9u]
noncomputable def a4s (cb:Cb) (N:Nat) (call:j4) (v10:Value) (vs1:List Value):M CR:=
 cb.bj CR (cb.lp (a4F cb N call v10 vs1) N [undef,undef,undef,undef,undef,undef,undef,undef,undef,undef,undef,undef,undef,undef,undef,undef,undef,undef,undef,undef,undef,undef,undef,(.int .u64 (.ofNat 0)),(.bool false),(.bool false),undef,undef,undef,undef,undef,undef,undef,undef,undef,undef,undef,undef,undef,undef,undef,undef,undef,undef,undef,undef,undef,undef,undef,undef,(.bool false),undef,(.int .u64 (.ofNat 0)),(.bool false),undef,(.int .i64 (.ofNat 0))]) fun x12 vs13=>
 l7 x12 (M.fail) (fun i42=>l8 (Nat.beq i42 0) (M.pure (.ret (.tuple ⟨[(d9 vs13 52),(d9 vs13 50),(d9 vs13 53)]⟩))) (l8 (Nat.beq i42 1) (M.fail) (M.fail))) (M.pure (.ret (.tuple ⟨[(d9 vs13 23),(d9 vs13 24),(d9 vs13 25)]⟩))) l6
theorem b9O (cb:Cb) (N:Nat) (call:j4) (v10:Value) (vs1:List Value):a6i cb N call v10 vs1=a4s cb N call v10 vs1:=by
 simp only [a6i,a4s,b9d]
noncomputable def b2f (cb:Cb) (N:Nat) (call:j4) (a0:Value):M CR:=
 cb.bj CR (cb.bv R2 (K7 a0) fun v2=>
 cb.bv R2 (bq .gtr 3 (.tmp 16) (.const (.int .i64 (.ofNat 2))) v2 (.int .i64 (.ofNat 2))) fun v3=>
 a9L cb N call v3 a0 v2) fun x0 vs1=>
 l7 x0 (cb.bv CR (K7 (d9 vs1 11)) fun v10=>
 a4s cb N call v10 vs1) (fun _=>M.fail) (M.fail) l6
theorem d1x (cb:Cb) (N:Nat) (call:j4) (a0:Value):c4b cb N call a0=b2f cb N call a0:=by
 simp only [c4b,b2f,l5,c7R,b9O]
noncomputable def a7s (cb:Cb) (N:Nat) (call:j4) (v0:Value) (a0:Value):M CR:=
 cb.bj CR (l8 (o7 true v0) (cb.bv R2 (bq .leq 22 (.tmp 6) (.const (.int .i64 (.ofNat 62))) a0 (.int .i64 (.ofNat 62))) fun v3=>
 M.pure (.normal, [a0,v3])) (M.pure (.normal, [undef,undef]))) fun x1 vs2=>l7 x1 (cb.bv CR (q9 v0 (d9 vs2 1) (.bool false)) fun v4=>
 cb.bj CR (l8 (o7 true v4) (cb.bc R2 (call 85 [a0]) (fun v7=>
 M.pure (.normal, [a0,v7])) l6) (M.pure (.normal, [undef,undef]))) fun x5 vs6=>l7 x5 (cb.bv CR (q9 v4 (d9 vs6 1) (.bool false)) fun v8=>
 M.pure (.ret v8)) (fun _=>M.fail) M.fail l6) (fun _=>M.fail) M.fail l6
theorem c6O (cb:Cb) (N:Nat) (call:j4) (v0:Value) (a0:Value):b4N cb N call v0 a0=a7s cb N call v0 a0:=by
 simp only [b4N,a7s,l5]
noncomputable def b3I (cb:Cb) (N:Nat) (call:j4) (a0:Value):M CR:=
 cb.bv CR (bq .geq 22 (.tmp 3) (.const (.int .i64 (.ofNat 40))) a0 (.int .i64 (.ofNat 40))) fun v0=>
 a7s cb N call v0 a0
theorem c9w (cb:Cb) (N:Nat) (call:j4) (a0:Value):c5c cb N call a0=b3I cb N call a0:=by
 simp only [c5c,b3I,l5,c6O]
noncomputable def a7D (cb:Cb) (N:Nat) (call:j4) (v7:Value) (v0:Value) (v3:Value) (v8:Value) (v1:Value) (a0:Value) (a1:Value):M CR:=
 cb.bv CR (bq .shr 23 (.tmp 33) (.const (.int .u64 (.ofNat 32))) v7 (.int .u64 (.ofNat 32))) fun v9=>
 cb.bv CR (bq .mul 23 (.tmp 36) (.tmp 37) v0 v3) fun v10=>
 cb.bv CR (bq .add 23 (.tmp 35) (.tmp 38) v8 v10) fun v11=>
 cb.bv CR (bq .mul 23 (.tmp 40) (.tmp 41) v1 v3) fun v12=>
 cb.bv CR (bq .add 23 (.tmp 42) (.tmp 43) v12 v9) fun v13=>
 cb.bv CR (bq .shr 23 (.tmp 45) (.const (.int .u64 (.ofNat 32))) v11 (.int .u64 (.ofNat 32))) fun v14=>
 cb.bv CR (bq .add 23 (.tmp 44) (.tmp 46) v13 v14) fun v15=>
 cb.bv CR (bq .mul 23 (.tmp 48) (.tmp 49) a0 a1) fun v16=>
 M.pure (.ret (.tuple ⟨[v15,v16]⟩))
theorem c2p (cb:Cb) (N:Nat) (call:j4) (v7:Value) (v0:Value) (v3:Value) (v8:Value) (v1:Value) (a0:Value) (a1:Value):b8a cb N call v7 v0 v3 v8 v1 a0 a1=a7D cb N call v7 v0 v3 v8 v1 a0 a1:=by
 simp only [b8a,a7D,l5]
noncomputable def a8E (cb:Cb) (N:Nat) (call:j4) (a1:Value) (v0:Value) (v2:Value) (v1:Value) (a0:Value):M CR:=
 cb.bv CR (bq .shr 23 (.tmp 20) (.const (.int .u64 (.ofNat 32))) a1 (.int .u64 (.ofNat 32))) fun v3=>
 cb.bv CR (bq .mul 23 (.tmp 22) (.tmp 23) v0 v2) fun v4=>
 cb.bv CR (bq .mul 23 (.tmp 25) (.tmp 26) v1 v2) fun v5=>
 cb.bv CR (bq .shr 23 (.tmp 28) (.const (.int .u64 (.ofNat 32))) v4 (.int .u64 (.ofNat 32))) fun v6=>
 cb.bv CR (bq .add 23 (.tmp 27) (.tmp 29) v5 v6) fun v7=>
 cb.bv CR (bq .and 23 (.tmp 31) (.const (.int .u64 (.ofNat 4294967295))) v7 (.int .u64 (.ofNat 4294967295))) fun v8=>
 a7D cb N call v7 v0 v3 v8 v1 a0 a1
theorem c3R (cb:Cb) (N:Nat) (call:j4) (a1:Value) (v0:Value) (v2:Value) (v1:Value) (a0:Value):b3H cb N call a1 v0 v2 v1 a0=a8E cb N call a1 v0 v2 v1 a0:=by
 simp only [b3H,a8E,l5,c2p]
noncomputable def b5b (cb:Cb) (N:Nat) (call:j4) (a0:Value) (a1:Value):M CR:=
 cb.bv CR (bq .and 23 (.tmp 14) (.const (.int .u64 (.ofNat 4294967295))) a0 (.int .u64 (.ofNat 4294967295))) fun v0=>
 cb.bv CR (bq .shr 23 (.tmp 16) (.const (.int .u64 (.ofNat 32))) a0 (.int .u64 (.ofNat 32))) fun v1=>
 cb.bv CR (bq .and 23 (.tmp 18) (.const (.int .u64 (.ofNat 4294967295))) a1 (.int .u64 (.ofNat 4294967295))) fun v2=>
 a8E cb N call a1 v0 v2 v1 a0
theorem c9B (cb:Cb) (N:Nat) (call:j4) (a0:Value) (a1:Value):c6y cb N call a0 a1=b5b cb N call a0 a1:=by
 simp only [c6y,b5b,l5,c3R]
noncomputable def a7L (cb:Cb) (N:Nat) (call:j4) (xs0:List Value) (a0:Value) (v3:Value) (v4:Value) (vs6:List Value) (v9:Value):M R2:=
 cb.bv R2 (bq .add 3 (.tmp 15) (.const (.int .i64 (.ofNat 1))) (d9 xs0 12) (.int .i64 (.ofNat 1))) fun v10=>
 M.pure (.normal, [(d9 xs0 12),a0,v3,v4,v4,(d9 vs6 0),(d9 vs6 1),(d9 vs6 2),(d9 vs6 3),v9,(d9 xs0 12),v10,v10])
theorem c1T (cb:Cb) (N:Nat) (call:j4) (xs0:List Value) (a0:Value) (v3:Value) (v4:Value) (vs6:List Value) (v9:Value):b5A cb N call xs0 a0 v3 v4 vs6 v9=a7L cb N call xs0 a0 v3 v4 vs6 v9:=by
 simp only [b5A,a7L,l5]
noncomputable def a7P (cb:Cb) (N:Nat) (call:j4) (xs0:List Value) (v3:Value) (a0:Value):M R2:=
 cb.bv R2 (bq .lss 3 (.tmp 5) (.tmp 7) (d9 xs0 12) v3) fun v4=>
 cb.bj R2 (l8 (o7 true v4) (cb.bv R2 (J5 a0 (d9 xs0 12)) fun v7=>
 cb.bv R2 (bq .neq 5 (.tmp 12) (.const (.int .u8 (.ofNat 10))) v7 (.int .u8 (.ofNat 10))) fun v8=>
 M.pure (.normal, [a0,(d9 xs0 12),v7,v8])) (M.pure (.normal, [undef,undef,undef,undef]))) fun x5 vs6=>l7 x5 (cb.bv R2 (q9 v4 (d9 vs6 3) (.bool false)) fun v9=>
 j6 v9 (
 a7L cb N call xs0 a0 v3 v4 vs6 v9) (
 c9M cb N call xs0 a0 v3 v4 vs6 v9)) (fun _=>M.fail) M.fail l6
theorem c4l (cb:Cb) (N:Nat) (call:j4) (xs0:List Value) (v3:Value) (a0:Value):b3M cb N call xs0 v3 a0=a7P cb N call xs0 v3 a0:=by
 simp only [b3M,a7P,l5,c1T]
noncomputable def a7g (cb:Cb) (N:Nat) (call:j4) (a0:Value) (xs0:List Value):M R2:=
 cb.bv R2 (K7 a0) fun v3=>
 a7P cb N call xs0 v3 a0
theorem c4f (cb:Cb) (N:Nat) (call:j4) (a0:Value):b1L cb N call a0=a7g cb N call a0:=by
 funext xs0
 simp only [b1L,a7g,c4l]
noncomputable def b1J (cb:Cb) (N:Nat) (call:j4) (a0:Value) (a1:Value):M CR:=
 cb.bj CR (cb.lp (a7g cb N call a0) N [undef,undef,undef,undef,undef,undef,undef,undef,undef,undef,undef,undef,a1]) fun x1 vs2=>
 l7 x1 (M.fail) (fun i11=>l8 (Nat.beq i11 0) (M.pure (.ret (d9 vs2 12))) (M.fail)) (M.fail) l6
theorem d1h (cb:Cb) (N:Nat) (call:j4) (a0:Value) (a1:Value):c6d cb N call a0 a1=b1J cb N call a0 a1:=by
 simp only [c6d,b1J,c4f]
noncomputable def a6d (cb:Cb) (N:Nat) (call:j4) (xs0:List Value) (v7:Value) (v10:Value):M R2:=
 cb.bv R2 (bq .add 3 (.tmp 19) (.const (.int .i64 (.ofNat 1))) (d9 xs0 21) (.int .i64 (.ofNat 1))) fun v11=>
 cb.bv R2 (bq .add 3 (.tmp 21) (.const (.int .i64 (.ofNat 2))) (d9 xs0 26) (.int .i64 (.ofNat 2))) fun v12=>
 M.pure (.normal, [v7,v10,(d9 xs0 21),v11,(d9 xs0 26),v12,(d9 xs0 17),(d9 xs0 18),(d9 xs0 19),(d9 xs0 20),v11,(d9 xs0 22),(d9 xs0 23),(d9 xs0 24),(d9 xs0 25),v12])
theorem c3c (cb:Cb) (N:Nat) (call:j4) (xs0:List Value) (v7:Value) (v10:Value):b4V cb N call xs0 v7 v10=a6d cb N call xs0 v7 v10:=by
 simp only [b4V,a6d,l5]
noncomputable def a6z (cb:Cb) (N:Nat) (call:j4) (xs0:List Value) (v7:Value) (v10:Value) (v13:Value):M R2:=
 cb.bv R2 (bq .sub 3 (.tmp 25) (.const (.int .i64 (.ofNat 1))) (d9 xs0 21) (.int .i64 (.ofNat 1))) fun v14=>
 cb.bv R2 (bq .add 3 (.tmp 27) (.const (.int .i64 (.ofNat 2))) (d9 xs0 26) (.int .i64 (.ofNat 2))) fun v15=>
 M.pure (.normal, [v7,v10,(d9 xs0 13),(d9 xs0 14),(d9 xs0 15),(d9 xs0 16),v7,v13,(d9 xs0 21),v14,v14,(d9 xs0 26),v15,(d9 xs0 24),(d9 xs0 25),v15])
theorem c7q (cb:Cb) (N:Nat) (call:j4) (xs0:List Value) (v7:Value) (v10:Value) (v13:Value):b3F cb N call xs0 v7 v10 v13=a6z cb N call xs0 v7 v10 v13:=by
 simp only [b3F,a6z,l5]
noncomputable def a6u (cb:Cb) (N:Nat) (call:j4) (xs0:List Value) (v7:Value) (v10:Value) (v13:Value):M R2:=
 cb.bv R2 (bq .add 3 (.tmp 29) (.const (.int .i64 (.ofNat 1))) (d9 xs0 26) (.int .i64 (.ofNat 1))) fun v16=>
 M.pure (.normal, [v7,v10,(d9 xs0 13),(d9 xs0 14),(d9 xs0 15),(d9 xs0 16),v7,v13,(d9 xs0 19),(d9 xs0 20),(d9 xs0 21),(d9 xs0 22),(d9 xs0 23),(d9 xs0 26),v16,v16])
theorem c2A (cb:Cb) (N:Nat) (call:j4) (xs0:List Value) (v7:Value) (v10:Value) (v13:Value):b5y cb N call xs0 v7 v10 v13=a6u cb N call xs0 v7 v10 v13:=by
 simp only [b5y,a6u,l5]
noncomputable def a8O (cb:Cb) (N:Nat) (call:j4) (v7:Value) (xs0:List Value) (v10:Value):M R2:=
 cb.bv R2 (bq .eql 9 (.tmp 23) (.const (.string ⟨⟨[59, 41]⟩⟩)) v7 (.string ⟨⟨[59, 41]⟩⟩)) fun v13=>
 j6 v13 (
 a6z cb N call xs0 v7 v10 v13) (
 a6u cb N call xs0 v7 v10 v13)
theorem c2H (cb:Cb) (N:Nat) (call:j4) (v7:Value) (xs0:List Value) (v10:Value):b6r cb N call v7 xs0 v10=a8O cb N call v7 xs0 v10:=by
 simp only [b6r,a8O,l5,c7q,c2A]
noncomputable def a7k (cb:Cb) (N:Nat) (call:j4) (a0:Value) (xs0:List Value) (v6:Value) (v3:Value) (v4:Value) (v5:Value):M R2:=
 cb.bv R2 (J4 a0 (some (d9 xs0 26)) (some v6)) fun v7=>
 cb.bj R2 (cb.bv R2 (bq .eql 9 (.tmp 17) (.const (.string ⟨⟨[40, 59]⟩⟩)) v7 (.string ⟨⟨[40, 59]⟩⟩)) fun v10=>
 j6 v10 (
 a6d cb N call xs0 v7 v10) (
 a8O cb N call v7 xs0 v10)) fun x8 vs9=>
 l7 x8 (cb.bv R2 (bq .eql 3 (.tmp 31) (.const (.int .i64 (.ofNat 0))) (d9 vs9 10) (.int .i64 (.ofNat 0))) fun v17=>
 j6 v17 (
 d1I cb N call xs0 v3 a0 v4 v5 v6 v7 vs9 v17) (
 d2a cb N call xs0 v3 a0 v4 v5 v6 v7 vs9 v17)) (fun _=>M.fail) (M.fail) l6
theorem c2i (cb:Cb) (N:Nat) (call:j4) (a0:Value) (xs0:List Value) (v6:Value) (v3:Value) (v4:Value) (v5:Value):b5E cb N call a0 xs0 v6 v3 v4 v5=a7k cb N call a0 xs0 v6 v3 v4 v5:=by
 simp only [b5E,a7k,l5,c3c,c2H]
noncomputable def a9K (cb:Cb) (N:Nat) (call:j4) (a0:Value) (xs0:List Value):M R2:=
 cb.bv R2 (bq .add 3 (.tmp 7) (.const (.int .i64 (.ofNat 1))) (d9 xs0 26) (.int .i64 (.ofNat 1))) fun v3=>
 cb.bv R2 (K7 a0) fun v4=>
 cb.bv R2 (bq .lss 3 (.tmp 8) (.tmp 10) v3 v4) fun v5=>
 j6 v5 (
 cb.bv R2 (bq .add 3 (.tmp 14) (.const (.int .i64 (.ofNat 2))) (d9 xs0 26) (.int .i64 (.ofNat 2))) fun v6=>
 a7k cb N call a0 xs0 v6 v3 v4 v5) (
 d1G cb N call xs0 v3 a0 v4 v5)
theorem c1b (cb:Cb) (N:Nat) (call:j4) (a0:Value):b3G cb N call a0=a9K cb N call a0:=by
 funext xs0
 simp only [b3G,a9K,l5,c2i]
noncomputable def b2h (cb:Cb) (N:Nat) (call:j4) (a0:Value) (a1:Value):M CR:=
 cb.bj CR (cb.lp (a9K cb N call a0) N [undef,undef,undef,undef,undef,undef,undef,undef,undef,undef,undef,undef,undef,undef,undef,undef,undef,undef,undef,undef,undef,(.int .i64 (.ofNat 0)),undef,undef,undef,undef,a1,undef,undef,undef,(.int .i64 (.ofNat 0))]) fun x1 vs2=>
 l7 x1 (M.fail) (fun i18=>l8 (Nat.beq i18 0) (M.pure (.ret (.int .i64 (.negSucc 0)))) (M.fail)) (M.pure (.ret (d9 vs2 30))) l6
theorem d0i (cb:Cb) (N:Nat) (call:j4) (a0:Value) (a1:Value):c6X cb N call a0 a1=b2h cb N call a0 a1:=by
 simp only [c6X,b2h,c1b]
noncomputable def a8P (cb:Cb) (N:Nat) (call:j4) (xs1:List Value) (a0:Value) (v4:Value) (v5:Value) (v6:Value) (v7:Value) (vs9:List Value) (v11:Value) (v12:Value):M R2:=
 cb.bv R2 (bq .add 3 (.tmp 26) (.const (.int .i64 (.ofNat 1))) (d9 xs1 48) (.int .i64 (.ofNat 1))) fun v13=>
 d0J cb N call xs1 a0 v4 v5 v6 v7 vs9 v11 v12 v13
theorem c5O (cb:Cb) (N:Nat) (call:j4) (xs1:List Value) (a0:Value) (v4:Value) (v5:Value) (v6:Value) (v7:Value) (vs9:List Value) (v11:Value) (v12:Value):b2r cb N call xs1 a0 v4 v5 v6 v7 vs9 v11 v12=a8P cb N call xs1 a0 v4 v5 v6 v7 vs9 v11 v12:=by
 simp only [b2r,a8P,l5]
noncomputable def a8H (cb:Cb) (N:Nat) (call:j4) (xs1:List Value) (v6:Value) (v16:Value) (vs18:List Value) (v22:Value) (vs24:List Value) (v28:Value) (vs30:List Value) (v34:Value):M R2:=
 cb.bv R2 (bq .add 3 (.tmp 51) (.const (.int .i64 (.ofNat 1))) (d9 xs1 48) (.int .i64 (.ofNat 1))) fun v35=>
 M.pure (.normal, [v6,v16,v16,(d9 vs18 0),(d9 vs18 1),(d9 vs18 2),(d9 vs18 3),(d9 vs18 4),v22,v22,(d9 vs24 0),(d9 vs24 1),(d9 vs24 2),(d9 vs24 3),(d9 vs24 4),v28,v28,(d9 vs30 0),(d9 vs30 1),(d9 vs30 2),(d9 vs30 3),(d9 vs30 4),v34,(d9 xs1 48),v35,v35])
theorem c0v (cb:Cb) (N:Nat) (call:j4) (xs1:List Value) (v6:Value) (v16:Value) (vs18:List Value) (v22:Value) (vs24:List Value) (v28:Value) (vs30:List Value) (v34:Value):b6h cb N call xs1 v6 v16 vs18 v22 vs24 v28 vs30 v34=a8H cb N call xs1 v6 v16 vs18 v22 vs24 v28 vs30 v34:=by
 simp only [b6h,a8H,l5]
noncomputable def a9u (cb:Cb) (N:Nat) (call:j4) (v28:Value) (xs1:List Value) (a0:Value) (v6:Value) (v16:Value) (vs18:List Value) (v22:Value) (vs24:List Value):M R2:=
 cb.bj R2 (l8 (o7 true v28) (cb.bv R2 (bq .add 3 (.tmp 46) (.const (.int .i64 (.ofNat 1))) (d9 xs1 48) (.int .i64 (.ofNat 1))) fun v31=>
 cb.bv R2 (J5 a0 v31) fun v32=>
 cb.bv R2 (bq .neq 5 (.tmp 48) (.const (.int .u8 (.ofNat 127))) v32 (.int .u8 (.ofNat 127))) fun v33=>
 M.pure (.normal, [a0,(d9 xs1 48),v31,v32,v33])) (M.pure (.normal, [undef,undef,undef,undef,undef]))) fun x29 vs30=>l7 x29 (cb.bv R2 (q9 v28 (d9 vs30 4) (.bool false)) fun v34=>
 j6 v34 (
 a8H cb N call xs1 v6 v16 vs18 v22 vs24 v28 vs30 v34) (
 c8g cb N call v6 v16 vs18 v22 vs24 v28 vs30 v34 xs1)) (fun _=>M.fail) M.fail l6
theorem c1Q (cb:Cb) (N:Nat) (call:j4) (v28:Value) (xs1:List Value) (a0:Value) (v6:Value) (v16:Value) (vs18:List Value) (v22:Value) (vs24:List Value):b5a cb N call v28 xs1 a0 v6 v16 vs18 v22 vs24=a9u cb N call v28 xs1 a0 v6 v16 vs18 v22 vs24:=by
 simp only [b5a,a9u,l5,c0v]
noncomputable def a8m (cb:Cb) (N:Nat) (call:j4) (v22:Value) (xs1:List Value) (a0:Value) (v6:Value) (v16:Value) (vs18:List Value):M R2:=
 cb.bj R2 (l8 (o7 true v22) (cb.bv R2 (bq .add 3 (.tmp 39) (.const (.int .i64 (.ofNat 1))) (d9 xs1 48) (.int .i64 (.ofNat 1))) fun v25=>
 cb.bv R2 (J5 a0 v25) fun v26=>
 cb.bv R2 (bq .geq 5 (.tmp 41) (.const (.int .u8 (.ofNat 32))) v26 (.int .u8 (.ofNat 32))) fun v27=>
 M.pure (.normal, [a0,(d9 xs1 48),v25,v26,v27])) (M.pure (.normal, [undef,undef,undef,undef,undef]))) fun x23 vs24=>l7 x23 (cb.bv R2 (q9 v22 (d9 vs24 4) (.bool false)) fun v28=>
 a9u cb N call v28 xs1 a0 v6 v16 vs18 v22 vs24) (fun _=>M.fail) M.fail l6
theorem c0z (cb:Cb) (N:Nat) (call:j4) (v22:Value) (xs1:List Value) (a0:Value) (v6:Value) (v16:Value) (vs18:List Value):b1U cb N call v22 xs1 a0 v6 v16 vs18=a8m cb N call v22 xs1 a0 v6 v16 vs18:=by
 simp only [b1U,a8m,l5,c1Q]
noncomputable def a7B (cb:Cb) (N:Nat) (call:j4) (v16:Value) (xs1:List Value) (a0:Value) (v6:Value):M R2:=
 cb.bj R2 (l8 (o7 true v16) (cb.bv R2 (bq .add 3 (.tmp 31) (.const (.int .i64 (.ofNat 1))) (d9 xs1 48) (.int .i64 (.ofNat 1))) fun v19=>
 cb.bv R2 (K7 a0) fun v20=>
 cb.bv R2 (bq .lss 3 (.tmp 32) (.tmp 34) v19 v20) fun v21=>
 M.pure (.normal, [(d9 xs1 48),v19,a0,v20,v21])) (M.pure (.normal, [undef,undef,undef,undef,undef]))) fun x17 vs18=>l7 x17 (cb.bv R2 (q9 v16 (d9 vs18 4) (.bool false)) fun v22=>
 a8m cb N call v22 xs1 a0 v6 v16 vs18) (fun _=>M.fail) M.fail l6
theorem c0J (cb:Cb) (N:Nat) (call:j4) (v16:Value) (xs1:List Value) (a0:Value) (v6:Value):b2X cb N call v16 xs1 a0 v6=a7B cb N call v16 xs1 a0 v6:=by
 simp only [b2X,a7B,l5,c0z]
noncomputable def a7C (cb:Cb) (N:Nat) (call:j4) (v6:Value) (xs1:List Value) (a0:Value) (v4:Value) (v5:Value) (v7:Value) (vs9:List Value) (v11:Value) (v12:Value):M R2:=
 cb.bj R2 (cb.bv R2 (bq .eql 5 (.tmp 28) (.const (.int .u8 (.ofNat 92))) v6 (.int .u8 (.ofNat 92))) fun v16=>
 a7B cb N call v16 xs1 a0 v6) fun x14 vs15=>
 l7 x14 (cb.bv R2 (bq .add 3 (.tmp 53) (.const (.int .i64 (.ofNat 1))) (d9 vs15 25) (.int .i64 (.ofNat 1))) fun v36=>
 d1s cb N call xs1 a0 v4 v5 v6 v7 vs9 v11 v12 vs15 v36) (fun _=>M.fail) (M.fail) l6
theorem c4R (cb:Cb) (N:Nat) (call:j4) (v6:Value) (xs1:List Value) (a0:Value) (v4:Value) (v5:Value) (v7:Value) (vs9:List Value) (v11:Value) (v12:Value):b5m cb N call v6 xs1 a0 v4 v5 v7 vs9 v11 v12=a7C cb N call v6 xs1 a0 v4 v5 v7 vs9 v11 v12:=by
 simp only [b5m,a7C,l5,c0J]
noncomputable def a4S (cb:Cb) (N:Nat) (call:j4) (v6:Value) (xs1:List Value) (a0:Value) (v4:Value) (v5:Value) (v7:Value) (vs9:List Value) (v11:Value):M R2:=
 cb.bv R2 (bq .eql 5 (.tmp 24) (.const (.int .u8 (.ofNat 34))) v6 (.int .u8 (.ofNat 34))) fun v12=>
 j6 v12 (
 a8P cb N call xs1 a0 v4 v5 v6 v7 vs9 v11 v12) (
 a7C cb N call v6 xs1 a0 v4 v5 v7 vs9 v11 v12)
theorem b9j (cb:Cb) (N:Nat) (call:j4) (v6:Value) (xs1:List Value) (a0:Value) (v4:Value) (v5:Value) (v7:Value) (vs9:List Value) (v11:Value):a7j cb N call v6 xs1 a0 v4 v5 v7 vs9 v11=a4S cb N call v6 xs1 a0 v4 v5 v7 vs9 v11:=by
 simp only [a7j,a4S,l5,c5O,c4R]
noncomputable def a4R (cb:Cb) (N:Nat) (call:j4) (v6:Value) (xs1:List Value) (a0:Value) (v4:Value) (v5:Value):M R2:=
 cb.bv R2 (bq .lss 5 (.tmp 17) (.const (.int .u8 (.ofNat 32))) v6 (.int .u8 (.ofNat 32))) fun v7=>
 cb.bj R2 (l8 (o7 false v7) (cb.bv R2 (bq .eql 5 (.tmp 20) (.const (.int .u8 (.ofNat 127))) v6 (.int .u8 (.ofNat 127))) fun v10=>
 M.pure (.normal, [v6,v10])) (M.pure (.normal, [undef,undef]))) fun x8 vs9=>l7 x8 (cb.bv R2 (q9 v7 (.bool true) (d9 vs9 1)) fun v11=>
 j6 v11 (
 d1p cb N call xs1 a0 v4 v5 v6 v7 vs9 v11) (
 a4S cb N call v6 xs1 a0 v4 v5 v7 vs9 v11)) (fun _=>M.fail) M.fail l6
theorem b8U (cb:Cb) (N:Nat) (call:j4) (v6:Value) (xs1:List Value) (a0:Value) (v4:Value) (v5:Value):a9B cb N call v6 xs1 a0 v4 v5=a4R cb N call v6 xs1 a0 v4 v5:=by
 simp only [a9B,a4R,l5,b9j]
noncomputable def a4W (cb:Cb) (N:Nat) (call:j4) (a0:Value) (xs1:List Value):M R2:=
 cb.bv R2 (K7 a0) fun v4=>
 cb.bv R2 (bq .lss 3 (.tmp 10) (.tmp 12) (d9 xs1 48) v4) fun v5=>
 j6 v5 (
 cb.bv R2 (J5 a0 (d9 xs1 48)) fun v6=>
 a4R cb N call v6 xs1 a0 v4 v5) (
 c0m cb N call xs1 a0 v4 v5)
theorem b9e (cb:Cb) (N:Nat) (call:j4) (a0:Value):a6X cb N call a0=a4W cb N call a0:=by
 funext xs1
 simp only [a6X,a4W,l5,b8U]
noncomputable def a4C (cb:Cb) (N:Nat) (call:j4) (a0:Value) (v0:Value) (a1:Value):M CR:=
 cb.bj CR (cb.lp (a4W cb N call a0) N [undef,undef,undef,undef,undef,undef,undef,undef,undef,undef,undef,undef,undef,undef,undef,undef,undef,undef,undef,(.int .i64 (.ofNat 0)),(.int .i64 (.ofNat 0)),undef,undef,undef,undef,undef,undef,undef,undef,undef,undef,undef,undef,undef,undef,undef,undef,undef,undef,undef,undef,undef,undef,undef,undef,undef,undef,undef,v0]) fun x2 vs3=>
 l7 x2 (M.fail) (fun i37=>l8 (Nat.beq i37 0) (M.pure (.ret (.tuple ⟨[a1,(.int .i64 (.ofNat 3))]⟩))) (M.fail)) (M.pure (.ret (.tuple ⟨[(d9 vs3 19),(d9 vs3 20)]⟩))) l6
theorem b9v (cb:Cb) (N:Nat) (call:j4) (a0:Value) (v0:Value) (a1:Value):a6G cb N call a0 v0 a1=a4C cb N call a0 v0 a1:=by
 simp only [a6G,a4C,b9e]
noncomputable def b2i (cb:Cb) (N:Nat) (call:j4) (a0:Value) (a1:Value):M CR:=
 cb.bv CR (bq .add 3 (.tmp 8) (.const (.int .i64 (.ofNat 1))) a1 (.int .i64 (.ofNat 1))) fun v0=>
 a4C cb N call a0 v0 a1
theorem d1Z (cb:Cb) (N:Nat) (call:j4) (a0:Value) (a1:Value):c6g cb N call a0 a1=b2i cb N call a0 a1:=by
 simp only [c6g,b2i,l5,b9v]
noncomputable def a7y (cb:Cb) (N:Nat) (call:j4) (v16:Value) (a0:Value):M CR:=
 cb.bj CR (l8 (o7 true v16) (cb.bv R2 (bq .neq 5 (.tmp 22) (.const (.int .u8 (.ofNat 59))) a0 (.int .u8 (.ofNat 59))) fun v19=>
 M.pure (.normal, [a0,v19])) (M.pure (.normal, [undef,undef]))) fun x17 vs18=>l7 x17 (cb.bv CR (q9 v16 (d9 vs18 1) (.bool false)) fun v20=>
 cb.bj CR (l8 (o7 true v20) (cb.bv R2 (bq .neq 5 (.tmp 26) (.const (.int .u8 (.ofNat 44))) a0 (.int .u8 (.ofNat 44))) fun v23=>
 M.pure (.normal, [a0,v23])) (M.pure (.normal, [undef,undef]))) fun x21 vs22=>l7 x21 (cb.bv CR (q9 v20 (d9 vs22 1) (.bool false)) fun v24=>
 M.pure (.ret v24)) (fun _=>M.fail) M.fail l6) (fun _=>M.fail) M.fail l6
theorem c0X (cb:Cb) (N:Nat) (call:j4) (v16:Value) (a0:Value):b8b cb N call v16 a0=a7y cb N call v16 a0:=by
 simp only [b8b,a7y,l5]
noncomputable def a9o (cb:Cb) (N:Nat) (call:j4) (v8:Value) (a0:Value):M CR:=
 cb.bj CR (l8 (o7 true v8) (cb.bv R2 (bq .neq 5 (.tmp 14) (.const (.int .u8 (.ofNat 41))) a0 (.int .u8 (.ofNat 41))) fun v11=>
 M.pure (.normal, [a0,v11])) (M.pure (.normal, [undef,undef]))) fun x9 vs10=>l7 x9 (cb.bv CR (q9 v8 (d9 vs10 1) (.bool false)) fun v12=>
 cb.bj CR (l8 (o7 true v12) (cb.bv R2 (bq .neq 5 (.tmp 18) (.const (.int .u8 (.ofNat 34))) a0 (.int .u8 (.ofNat 34))) fun v15=>
 M.pure (.normal, [a0,v15])) (M.pure (.normal, [undef,undef]))) fun x13 vs14=>l7 x13 (cb.bv CR (q9 v12 (d9 vs14 1) (.bool false)) fun v16=>
 a7y cb N call v16 a0) (fun _=>M.fail) M.fail l6) (fun _=>M.fail) M.fail l6
theorem c4L (cb:Cb) (N:Nat) (call:j4) (v8:Value) (a0:Value):b8s cb N call v8 a0=a9o cb N call v8 a0:=by
 simp only [b8s,a9o,l5,c0X]
noncomputable def a7l (cb:Cb) (N:Nat) (call:j4) (v0:Value) (a0:Value):M CR:=
 cb.bj CR (l8 (o7 true v0) (cb.bv R2 (bq .leq 5 (.tmp 6) (.const (.int .u8 (.ofNat 126))) a0 (.int .u8 (.ofNat 126))) fun v3=>
 M.pure (.normal, [a0,v3])) (M.pure (.normal, [undef,undef]))) fun x1 vs2=>l7 x1 (cb.bv CR (q9 v0 (d9 vs2 1) (.bool false)) fun v4=>
 cb.bj CR (l8 (o7 true v4) (cb.bv R2 (bq .neq 5 (.tmp 10) (.const (.int .u8 (.ofNat 40))) a0 (.int .u8 (.ofNat 40))) fun v7=>
 M.pure (.normal, [a0,v7])) (M.pure (.normal, [undef,undef]))) fun x5 vs6=>l7 x5 (cb.bv CR (q9 v4 (d9 vs6 1) (.bool false)) fun v8=>
 a9o cb N call v8 a0) (fun _=>M.fail) M.fail l6) (fun _=>M.fail) M.fail l6
theorem c5j (cb:Cb) (N:Nat) (call:j4) (v0:Value) (a0:Value):b6S cb N call v0 a0=a7l cb N call v0 a0:=by
 simp only [b6S,a7l,l5,c4L]
noncomputable def b6Z (cb:Cb) (N:Nat) (call:j4) (a0:Value):M CR:=
 cb.bv CR (bq .geq 5 (.tmp 3) (.const (.int .u8 (.ofNat 33))) a0 (.int .u8 (.ofNat 33))) fun v0=>
 a7l cb N call v0 a0
theorem c8w (cb:Cb) (N:Nat) (call:j4) (a0:Value):c5G cb N call a0=b6Z cb N call a0:=by
 simp only [c5G,b6Z,l5,c5j]
noncomputable def a9d (cb:Cb) (N:Nat) (call:j4) (a0:Value) (v2:Value) (v3:Value) (v4:Value) (v5:Value):M R2:=
 cb.bv R2 (bq .eql 5 (.tmp 3) (.const (.int .u8 (.ofNat 44))) a0 (.int .u8 (.ofNat 44))) fun v6=>
 j6 v6 (
 M.pure (.ret, [a0,v2,v3,v4,v5,v6,v6,(.bool false)])) (
 M.pure (.normal, [a0,v2,v3,v4,v5,v6,v6,(.bool false)]))
theorem c3z (cb:Cb) (N:Nat) (call:j4) (a0:Value) (v2:Value) (v3:Value) (v4:Value) (v5:Value):b7L cb N call a0 v2 v3 v4 v5=a9d cb N call a0 v2 v3 v4 v5:=by
 simp only [b7L,a9d,l5]
noncomputable def a9m (cb:Cb) (N:Nat) (call:j4) (a0:Value) (v2:Value) (v3:Value) (v4:Value):M R2:=
 cb.bv R2 (bq .eql 5 (.tmp 3) (.const (.int .u8 (.ofNat 59))) a0 (.int .u8 (.ofNat 59))) fun v5=>
 j6 v5 (
 j6 v5 (
 M.pure (.ret, [a0,v2,v3,v4,v5,undef,v5,(.bool false)])) (
 M.pure (.normal, [a0,v2,v3,v4,v5,undef,v5,(.bool false)]))) (
 a9d cb N call a0 v2 v3 v4 v5)
theorem c4c (cb:Cb) (N:Nat) (call:j4) (a0:Value) (v2:Value) (v3:Value) (v4:Value):b6y cb N call a0 v2 v3 v4=a9m cb N call a0 v2 v3 v4:=by
 simp only [b6y,a9m,l5,c3z]
noncomputable def a7w (cb:Cb) (N:Nat) (call:j4) (a0:Value) (v2:Value) (v3:Value):M R2:=
 cb.bv R2 (bq .eql 5 (.tmp 3) (.const (.int .u8 (.ofNat 34))) a0 (.int .u8 (.ofNat 34))) fun v4=>
 j6 v4 (
 j6 v4 (
 M.pure (.ret, [a0,v2,v3,v4,undef,undef,v4,(.bool false)])) (
 M.pure (.normal, [a0,v2,v3,v4,undef,undef,v4,(.bool false)]))) (
 a9m cb N call a0 v2 v3 v4)
theorem c4p (cb:Cb) (N:Nat) (call:j4) (a0:Value) (v2:Value) (v3:Value):b6D cb N call a0 v2 v3=a7w cb N call a0 v2 v3:=by
 simp only [b6D,a7w,l5,c4c]
noncomputable def a6M (cb:Cb) (N:Nat) (call:j4) (a0:Value) (v2:Value):M R2:=
 cb.bv R2 (bq .eql 5 (.tmp 3) (.const (.int .u8 (.ofNat 41))) a0 (.int .u8 (.ofNat 41))) fun v3=>
 j6 v3 (
 d2v cb N call v3 a0 v2) (
 a7w cb N call a0 v2 v3)
theorem c1W (cb:Cb) (N:Nat) (call:j4) (a0:Value) (v2:Value):b8k cb N call a0 v2=a6M cb N call a0 v2:=by
 simp only [b8k,a6M,l5,c4p]
noncomputable def b5z (cb:Cb) (N:Nat) (call:j4) (a0:Value):M CR:=
 cb.bj CR (cb.bv R2 (bq .eql 5 (.tmp 3) (.const (.int .u8 (.ofNat 40))) a0 (.int .u8 (.ofNat 40))) fun v2=>
 j6 v2 (
 c8y cb N call v2 a0) (
 a6M cb N call a0 v2)) fun x0 vs1=>
 l7 x0 (cb.bv CR (bq .geq 5 (.tmp 10) (.const (.int .u8 (.ofNat 33))) a0 (.int .u8 (.ofNat 33))) fun v7=>
 cb.bj CR (l8 (o7 true v7) (cb.bv R2 (bq .leq 5 (.tmp 13) (.const (.int .u8 (.ofNat 126))) a0 (.int .u8 (.ofNat 126))) fun v10=>
 M.pure (.normal, [a0,v10])) (M.pure (.normal, [undef,undef]))) fun x8 vs9=>l7 x8 (cb.bv CR (q9 v7 (d9 vs9 1) (.bool false)) fun v11=>
 M.pure (.ret v11)) (fun _=>M.fail) M.fail l6) (fun _=>M.fail) (M.pure (.ret (d9 vs1 7))) l6
theorem d1K (cb:Cb) (N:Nat) (call:j4) (a0:Value):c2c cb N call a0=b5z cb N call a0:=by
 simp only [c2c,b5z,l5,c1W]
noncomputable def b2u (call:j4) (u0:Value) (u1:Value) (u2:Value) (u3:Value) (u4:Value) (u5:Value) (u6:Value) (u7:Value) (u8:Value) (u9:Value):M R2:=
 M.bind (M.foot (M.pure u3)) fun y0=>
 M.bind (M.foot (q8 y0.1)) fun y1=>
 M.bind (M.foot (l9 2 y1.1)) fun y2=>
 M.bind (M.foot (j5 y2.1)) fun y3=>
 M.bind (M.foot (M.pure u3)) fun y4=>
 M.bind (M.foot (q8 y4.1)) fun y5=>
 M.bind (M.foot (l9 1 y5.1)) fun y6=>
 M.bind (M.foot (j5 y6.1)) fun y7=>
 M.bind (M.foot (H6 y7.1)) fun y8=>
 M.bind (M.foot (bq .geq 3 (.tmp 7) (.tmp 12) y3.1 y8.1)) fun y9=>
 M.guard (G9 [(0, 4),(1, 4),(2, 4),(3, 4),(0, 5),(1, 5),(2, 5),(3, 5),(0, 6),(1, 6),(2, 6),(3, 6),(0, 7),(1, 7),(2, 7),(3, 7),(0, 8),(1, 8),(2, 8),(3, 8)] [y0.2,y1.2,y2.2,y3.2,y4.2,y5.2,y6.2,y7.2,y8.2,y9.2]) (M.pure (.normal, [y0.1,y1.1,y2.1,y3.1,y4.1,y5.1,y6.1,y7.1,y8.1,y9.1]))
theorem c8C (call:j4) (u0:Value) (u1:Value) (u2:Value) (u3:Value) (u4:Value) (u5:Value) (u6:Value) (u7:Value) (u8:Value) (u9:Value):b5u call u0 u1 u2 u3 u4 u5 u6 u7 u8 u9=b2u call u0 u1 u2 u3 u4 u5 u6 u7 u8 u9:=by
 simp only [b5u,b2u,l5,fun F hl=>G6 (ops:=a3l) (L:=[(0, 4),(1, 4),(2, 4),(3, 4),(0, 5),(1, 5),(2, 5),(3, 5),(0, 6),(1, 6),(2, 6),(3, 6),(0, 7),(1, 7),(2, 7),(3, 7),(0, 8),(1, 8),(2, 8),(3, 8)]) (n:=10) (by kernel_rfl) (by kernel_rfl) F hl,D9,F7]
noncomputable def b8d (call:j4) (u0:Value) (u1:Value) (u2:Value) (u3:Value) (u4:Value) (u5:Value) (u6:Value) (u7:Value) (u8:Value) (u9:Value) (u10:Value) (u11:Value):M R2:=
 M.bind (M.foot (M.pure u3)) fun y0=>
 M.bind (M.foot (q8 y0.1)) fun y1=>
 M.bind (M.foot (l9 1 y1.1)) fun y2=>
 M.bind (M.foot (j5 y2.1)) fun y3=>
 M.bind (M.foot (M.pure u3)) fun y4=>
 M.bind (M.foot (q8 y4.1)) fun y5=>
 M.bind (M.foot (l9 2 y5.1)) fun y6=>
 M.bind (M.foot (j5 y6.1)) fun y7=>
 M.bind (M.foot (F3 4 y3.1 y7.1)) fun y8=>
 M.bind (M.foot (E8 4 y8.1)) fun y9=>
 M.bind (M.foot (r9 4 u10 y9.1)) fun y10=>
 M.bind (M.foot (M.pure (.bool true))) fun y11=>
 M.guard (G9 [(0, 4),(1, 4),(2, 4),(3, 4),(0, 5),(1, 5),(2, 5),(3, 5),(0, 6),(1, 6),(2, 6),(3, 6),(0, 7),(1, 7),(2, 7),(3, 7)] [y0.2,y1.2,y2.2,y3.2,y4.2,y5.2,y6.2,y7.2,y8.2,y9.2,y10.2,y11.2]) (M.pure (.normal, [y0.1,y1.1,y2.1,y3.1,y4.1,y5.1,y6.1,y7.1,y8.1,y9.1,y11.1]))
theorem d0z (call:j4) (u0:Value) (u1:Value) (u2:Value) (u3:Value) (u4:Value) (u5:Value) (u6:Value) (u7:Value) (u8:Value) (u9:Value) (u10:Value) (u11:Value):b8z call u0 u1 u2 u3 u4 u5 u6 u7 u8 u9 u10 u11=b8d call u0 u1 u2 u3 u4 u5 u6 u7 u8 u9 u10 u11:=by
 simp only [b8z,b8d,l5,fun F hl=>G6 (ops:=a3P) (L:=[(0, 4),(1, 4),(2, 4),(3, 4),(0, 5),(1, 5),(2, 5),(3, 5),(0, 6),(1, 6),(2, 6),(3, 6),(0, 7),(1, 7),(2, 7),(3, 7)]) (n:=12) (by kernel_rfl) (by kernel_rfl) F hl,D9,F7]
noncomputable def a6c (cb:Cb) (N:Nat) (call:j4) (a0:Value) (v0:Value):M CR:=
 cb.bj CR (b8d call undef undef undef a0 undef undef undef undef undef undef v0 undef) fun _ vs6=>
 K5 v0 fun ad8=>cb.bv CR (M.bind (loadN ad8 4) fun q=>M.pure (.agg ⟨q⟩)) fun v7=>
 M.pure (.ret (.tuple ⟨[v7,(d9 vs6 10)]⟩))
theorem c4m (cb:Cb) (N:Nat) (call:j4) (a0:Value) (v0:Value):b3c cb N call a0 v0=a6c cb N call a0 v0:=by
 simp only [b3c,a6c,d1W,d0z]
noncomputable def b6E (cb:Cb) (N:Nat) (call:j4) (a0:Value):M CR:=
 cb.bv CR (J6 [(.int .i64 (.ofNat 0)),(.int .i64 (.ofNat 0)),(.string ⟨⟨[]⟩⟩),(.slice none 0 0)]) fun v0=>
 cb.bj CR (b2u call undef undef undef a0 undef undef undef undef undef undef) fun _ vs1=>
 j6 (d9 vs1 9) (
 d2k cb N call v0) (
 a6c cb N call a0 v0)
theorem c8B (cb:Cb) (N:Nat) (call:j4) (a0:Value):c3b cb N call a0=b6E cb N call a0:=by
 simp only [c3b,b6E,c9J,c8C,c4m]
noncomputable def b8B (call:j4) (u0:Value) (u1:Value) (u2:Value) (u3:Value) (u4:Value) (u5:Value) (u6:Value) (u7:Value) (u8:Value) (u9:Value) (u10:Value) (u11:Value):M R2:=
 M.bind (M.foot (M.pure u3)) fun y0=>
 M.bind (M.foot (q8 y0.1)) fun y1=>
 M.bind (M.foot (l9 1 y1.1)) fun y2=>
 M.bind (M.foot (j5 y2.1)) fun y3=>
 M.bind (M.foot (M.pure u3)) fun y4=>
 M.bind (M.foot (q8 y4.1)) fun y5=>
 M.bind (M.foot (l9 2 y5.1)) fun y6=>
 M.bind (M.foot (j5 y6.1)) fun y7=>
 M.bind (M.foot (F3 4 y3.1 y7.1)) fun y8=>
 M.bind (M.foot (l9 3 y8.1)) fun y9=>
 M.bind (M.foot (j5 y9.1)) fun y10=>
 M.bind (M.foot (M.pure y10.1)) fun y11=>
 M.guard (G9 [(0, 4),(1, 4),(2, 4),(3, 4),(0, 5),(1, 5),(2, 5),(3, 5),(0, 6),(1, 6),(2, 6),(3, 6),(0, 7),(1, 7),(2, 7),(3, 7)] [y0.2,y1.2,y2.2,y3.2,y4.2,y5.2,y6.2,y7.2,y8.2,y9.2,y10.2,y11.2]) (M.pure (.normal, [y0.1,y1.1,y2.1,y3.1,y4.1,y5.1,y6.1,y7.1,y8.1,y9.1,y10.1,y11.1]))
theorem d0P (call:j4) (u0:Value) (u1:Value) (u2:Value) (u3:Value) (u4:Value) (u5:Value) (u6:Value) (u7:Value) (u8:Value) (u9:Value) (u10:Value) (u11:Value):b3E call u0 u1 u2 u3 u4 u5 u6 u7 u8 u9 u10 u11=b8B call u0 u1 u2 u3 u4 u5 u6 u7 u8 u9 u10 u11:=by
 simp only [b3E,b8B,l5,fun F hl=>G6 (ops:=a3h) (L:=[(0, 4),(1, 4),(2, 4),(3, 4),(0, 5),(1, 5),(2, 5),(3, 5),(0, 6),(1, 6),(2, 6),(3, 6),(0, 7),(1, 7),(2, 7),(3, 7)]) (n:=12) (by kernel_rfl) (by kernel_rfl) F hl,D9,F7]
noncomputable def b5c (call:j4) (u0:Value) (u1:Value) (u2:Value) (u3:Value) (u4:Value) (u5:Value) (u6:Value) (u7:Value) (u8:Value) (u9:Value) (u10:Value):M R2:=
 M.bind (M.foot (M.pure u0)) fun y0=>
 M.bind (M.foot (q8 y0.1)) fun y1=>
 M.bind (M.foot (l9 0 y1.1)) fun y2=>
 M.bind (M.foot (j5 y2.1)) fun y3=>
 M.bind (M.foot (M.pure u4)) fun y4=>
 M.bind (M.foot (F3 4 y4.1 (.int .i64 (.ofNat 1)))) fun y5=>
 M.bind (M.foot (l9 1 y5.1)) fun y6=>
 M.bind (M.foot (j5 y6.1)) fun y7=>
 M.bind (M.foot (D7 call 72 [y3.1,y7.1,(.int .i64 (.ofNat 24))])) fun y8=>
 M.bind (M.foot (M.pure (.int .i64 (.ofNat 0)))) fun y9=>
 M.bind (M.foot (M.pure y8.1)) fun y10=>
 M.guard (G9 [(0, 4),(1, 4),(2, 4),(3, 4),(0, 5),(1, 5),(2, 5),(3, 5),(0, 6),(1, 6),(2, 6),(3, 6),(0, 7),(1, 7),(2, 7),(3, 7)] [y0.2,y1.2,y2.2,y3.2,y4.2,y5.2,y6.2,y7.2,y8.2,y9.2,y10.2]) (M.pure (.normal, [y0.1,y1.1,y2.1,y3.1,y4.1,y5.1,y6.1,y7.1,y8.1,y9.1,y10.1]))
theorem c7W (call:j4) (u0:Value) (u1:Value) (u2:Value) (u3:Value) (u4:Value) (u5:Value) (u6:Value) (u7:Value) (u8:Value) (u9:Value) (u10:Value):b4z call u0 u1 u2 u3 u4 u5 u6 u7 u8 u9 u10=b5c call u0 u1 u2 u3 u4 u5 u6 u7 u8 u9 u10:=by
 simp only [b4z,b5c,l5,fun F hl=>G6 (ops:=a3a) (L:=[(0, 4),(1, 4),(2, 4),(3, 4),(0, 5),(1, 5),(2, 5),(3, 5),(0, 6),(1, 6),(2, 6),(3, 6),(0, 7),(1, 7),(2, 7),(3, 7)]) (n:=11) (by kernel_rfl) (by kernel_rfl) F hl,D9,F7]
noncomputable def a8z (cb:Cb) (N:Nat) (call:j4) (a0:Value) (vs0:List Value):M CR:=
 cb.bj CR (b5c call a0 undef undef undef (d9 vs0 11) undef undef undef undef undef undef) fun _ vs18=>
 M.pure (.ret (.tuple ⟨[(d9 vs18 9),(d9 vs18 10)]⟩))
theorem c3I (cb:Cb) (N:Nat) (call:j4) (a0:Value) (vs0:List Value):b6L cb N call a0 vs0=a8z cb N call a0 vs0:=by
 simp only [b6L,a8z,d1w,c7W]
noncomputable def a9O (cb:Cb) (N:Nat) (call:j4) (a0:Value) (v15:Value):M CR:=
 cb.bv CR (q8 a0) fun v22=>
 cb.bv CR (l9 2 v22) fun v23=>
 cb.bv CR (j5 v23) fun v24=>
 cb.bv CR (bq .add 3 (.tmp 59) (.const (.int .i64 (.ofNat 1))) v24 (.int .i64 (.ofNat 1))) fun v25=>
 cb.bv CR (q8 a0) fun v26=>
 cb.bv CR (l9 2 v26) fun v27=>
 cb.bv CR (r9 1 v27 v25) fun v28=>
 M.pure (.ret (.tuple ⟨[v15,(.bool true)]⟩))
theorem c2x (cb:Cb) (N:Nat) (call:j4) (a0:Value) (v15:Value):b7D cb N call a0 v15=a9O cb N call a0 v15:=by
 simp only [b7D,a9O,l5]
noncomputable def a8A (cb:Cb) (N:Nat) (call:j4) (vs0:List Value) (a0:Value) (v15:Value):M CR:=
 cb.bv CR (H6 (d9 vs0 11)) fun v19=>
 cb.bv CR (bq .gtr 3 (.tmp 51) (.const (.int .i64 (.ofNat 2))) v19 (.int .i64 (.ofNat 2))) fun v20=>
 j6 v20 (
 cb.bc CR (call 181 [a0,(d9 vs0 11),(.int .i64 (.ofNat 2))]) (fun v21=>
 M.pure (.ret (.tuple ⟨[(.int .i64 (.ofNat 0)),v21]⟩))) l6) (
 a9O cb N call a0 v15)
theorem c7C (cb:Cb) (N:Nat) (call:j4) (vs0:List Value) (a0:Value) (v15:Value):b6t cb N call vs0 a0 v15=a8A cb N call vs0 a0 v15:=by
 simp only [b6t,a8A,l5,c2x]
noncomputable def a6o (cb:Cb) (N:Nat) (call:j4) (vs0:List Value) (a0:Value):M CR:=
 cb.bv CR (F3 4 (d9 vs0 11) (.int .i64 (.ofNat 1))) fun v11=>
 cb.bv CR (l9 2 v11) fun v12=>
 cb.bv CR (j5 v12) fun v13=>
 cb.bc CR (call 182 [v13]) (fun v14=>
 cb.bv CR (z8 0 v14) fun v15=>
 cb.bv CR (z8 1 v14) fun v16=>
 cb.bv CR (un .not v16) fun v17=>
 j6 v17 (
 a8z cb N call a0 vs0) (
 a8A cb N call vs0 a0 v15)) l6
theorem c3G (cb:Cb) (N:Nat) (call:j4) (vs0:List Value) (a0:Value):b7V cb N call vs0 a0=a6o cb N call vs0 a0:=by
 simp only [b7V,a6o,c3I,c7C]
noncomputable def a7e (cb:Cb) (N:Nat) (call:j4) (v2:Value) (vs0:List Value) (a0:Value):M CR:=
 cb.bj CR (l8 (o7 false v2) (cb.bv R2 (F3 4 (d9 vs0 11) (.int .i64 (.ofNat 1))) fun v5=>
 cb.bv R2 (l9 0 v5) fun v6=>
 cb.bv R2 (j5 v6) fun v7=>
 cb.bv R2 (bq .neq 117 (.tmp 25) (.const (.int .i64 (.ofNat 2))) v7 (.int .i64 (.ofNat 2))) fun v8=>
 M.pure (.normal, [(d9 vs0 11),v5,v6,v7,v8])) (M.pure (.normal, [undef,undef,undef,undef,undef]))) fun x3 vs4=>l7 x3 (cb.bv CR (q9 v2 (.bool true) (d9 vs4 4)) fun v9=>
 j6 v9 (
 cb.bc CR (call 181 [a0,(d9 vs0 11),(.int .i64 (.ofNat 1))]) (fun v10=>
 M.pure (.ret (.tuple ⟨[(.int .i64 (.ofNat 0)),v10]⟩))) l6) (
 a6o cb N call vs0 a0)) (fun _=>M.fail) M.fail l6
theorem c0K (cb:Cb) (N:Nat) (call:j4) (v2:Value) (vs0:List Value) (a0:Value):b7f cb N call v2 vs0 a0=a7e cb N call v2 vs0 a0:=by
 simp only [b7f,a7e,l5,c3G]
noncomputable def b5M (cb:Cb) (N:Nat) (call:j4) (a0:Value):M CR:=
 cb.bj CR (b8B call undef undef undef a0 undef undef undef undef undef undef undef undef) fun _ vs0=>
 cb.bv CR (H6 (d9 vs0 11)) fun v1=>
 cb.bv CR (bq .lss 3 (.tmp 19) (.const (.int .i64 (.ofNat 2))) v1 (.int .i64 (.ofNat 2))) fun v2=>
 a7e cb N call v2 vs0 a0
theorem c8j (cb:Cb) (N:Nat) (call:j4) (a0:Value):c0N cb N call a0=b5M cb N call a0:=by
 simp only [c0N,b5M,l5,d0u,d0P,c0K]
noncomputable def a7V (cb:Cb) (N:Nat) (call:j4) (a0:Value) (v2:Value) (v3:Value) (v4:Value) (v5:Value) (vs8:List Value) (v12:Value) (vs14:List Value) (v18:Value) (v19:Value) (v20:Value) (v21:Value) (v22:Value):M R2:=
 cb.bv R2 (q8 a0) fun v24=>
 cb.bv R2 (l9 2 v24) fun v25=>
 cb.bv R2 (j5 v25) fun v26=>
 cb.bv R2 (bq .add 3 (.tmp 33) (.const (.int .i64 (.ofNat 1))) v26 (.int .i64 (.ofNat 1))) fun v27=>
 cb.bv R2 (q8 a0) fun v28=>
 cb.bv R2 (l9 2 v28) fun v29=>
 cb.bv R2 (r9 1 v29 v27) fun v30=>
 M.pure (.normal, [a0,v2,v2,v3,v4,v5,v4,v4,v4,(d9 vs8 0),(d9 vs8 1),(d9 vs8 2),v12,v12,(d9 vs14 0),(d9 vs14 1),(d9 vs14 2),v18,a0,v19,v20,v21,v22,a0,v24,v25,v26,v27,v28,v29])
theorem c1B (cb:Cb) (N:Nat) (call:j4) (a0:Value) (v2:Value) (v3:Value) (v4:Value) (v5:Value) (vs8:List Value) (v12:Value) (vs14:List Value) (v18:Value) (v19:Value) (v20:Value) (v21:Value) (v22:Value):b1R cb N call a0 v2 v3 v4 v5 vs8 v12 vs14 v18 v19 v20 v21 v22=a7V cb N call a0 v2 v3 v4 v5 vs8 v12 vs14 v18 v19 v20 v21 v22:=by
 simp only [b1R,a7V,l5]
noncomputable def a9I (cb:Cb) (N:Nat) (call:j4) (v5:Value) (a0:Value) (v2:Value) (v3:Value) (v4:Value) (vs8:List Value) (v12:Value) (vs14:List Value) (v18:Value):M R2:=
 cb.bv R2 (l9 2 v5) fun v19=>
 cb.bv R2 (j5 v19) fun v20=>
 cb.bv R2 (q8 a0) fun v21=>
 cb.bv R2 (l9 13 v21) fun v22=>
 cb.bv R2 (r9 1 v22 v20) fun v23=>
 a7V cb N call a0 v2 v3 v4 v5 vs8 v12 vs14 v18 v19 v20 v21 v22
theorem c5p (cb:Cb) (N:Nat) (call:j4) (v5:Value) (a0:Value) (v2:Value) (v3:Value) (v4:Value) (vs8:List Value) (v12:Value) (vs14:List Value) (v18:Value):b7x cb N call v5 a0 v2 v3 v4 vs8 v12 vs14 v18=a9I cb N call v5 a0 v2 v3 v4 vs8 v12 vs14 v18:=by
 simp only [b7x,a9I,c1B]
noncomputable def a7S (cb:Cb) (N:Nat) (call:j4) (v4:Value) (vs8:List Value) (v5:Value) (a0:Value) (v2:Value) (v3:Value):M R2:=
 cb.bv R2 (q9 v4 (d9 vs8 2) (.bool false)) fun v12=>
 cb.bj R2 (l8 (o7 true v12) (cb.bv R2 (l9 2 v5) fun v15=>
 cb.bv R2 (j5 v15) fun v16=>
 cb.bc R2 (call 107 [v16]) (fun v17=>
 M.pure (.normal, [v15,v16,v17])) l6) (M.pure (.normal, [undef,undef,undef]))) fun x13 vs14=>l7 x13 (cb.bv R2 (q9 v12 (d9 vs14 2) (.bool false)) fun v18=>
 j6 v18 (
 a9I cb N call v5 a0 v2 v3 v4 vs8 v12 vs14 v18) (
 d0y cb N call a0 v2 v3 v4 v5 vs8 v12 vs14 v18)) (fun _=>M.fail) M.fail l6
theorem c3n (cb:Cb) (N:Nat) (call:j4) (v4:Value) (vs8:List Value) (v5:Value) (a0:Value) (v2:Value) (v3:Value):b1p cb N call v4 vs8 v5 a0 v2 v3=a7S cb N call v4 vs8 v5 a0 v2 v3:=by
 simp only [b1p,a7S,c5p]
noncomputable def a7Q (cb:Cb) (N:Nat) (call:j4) (v3:Value) (v4:Value) (a0:Value) (v2:Value):M R2:=
 cb.bv R2 (J6 [(.int .i64 (.ofNat 0)),(.int .i64 (.ofNat 0)),(.string ⟨⟨[]⟩⟩),(.slice none 0 0)]) fun v5=>
 cb.bv R2 (r9 4 v5 v3) fun v6=>
 cb.bj R2 (l8 (o7 true v4) (cb.bv R2 (l9 0 v5) fun v9=>
 cb.bv R2 (j5 v9) fun v10=>
 cb.bv R2 (bq .eql 117 (.tmp 17) (.const (.int .i64 (.ofNat 2))) v10 (.int .i64 (.ofNat 2))) fun v11=>
 M.pure (.normal, [v9,v10,v11])) (M.pure (.normal, [undef,undef,undef]))) fun x7 vs8=>l7 x7 (a7S cb N call v4 vs8 v5 a0 v2 v3) (fun _=>M.fail) M.fail l6
theorem c6Z (cb:Cb) (N:Nat) (call:j4) (v3:Value) (v4:Value) (a0:Value) (v2:Value):b7O cb N call v3 v4 a0 v2=a7Q cb N call v3 v4 a0 v2:=by
 simp only [b7O,a7Q,l5,c3n]
noncomputable def b7e (cb:Cb) (N:Nat) (call:j4) (a0:Value):M CR:=
 cb.bj CR (cb.bc R2 (call 138 [a0]) (fun v2=>
 cb.bv R2 (z8 0 v2) fun v3=>
 cb.bv R2 (z8 1 v2) fun v4=>
 a7Q cb N call v3 v4 a0 v2) l6) fun x0 vs1=>
 l7 x0 (cb.bc CR (call 138 [a0]) (fun v31=>
 cb.bv CR (z8 0 v31) fun v32=>
 cb.bv CR (z8 1 v31) fun v33=>
 d1T cb N call v32 v33 a0) l6) (fun _=>M.fail) (M.fail) l6
theorem c8R (cb:Cb) (N:Nat) (call:j4) (a0:Value):c5N cb N call a0=b7e cb N call a0:=by
 simp only [c5N,b7e,c6Z]
noncomputable def a9i (cb:Cb) (N:Nat) (call:j4) (v6:Value) (a0:Value) (v2:Value) (v3:Value) (v4:Value) (v5:Value) (v7:Value) (v8:Value) (v9:Value) (v10:Value):M R2:=
 cb.bv R2 (bq .eql 76 (.tmp 9) (.const (.int .i64 (.ofNat 16))) v6 (.int .i64 (.ofNat 16))) fun v11=>
 j6 v11 (
 M.pure (.normal, [a0,v2,v3,v4,v5,v6,v7,v7,v8,v8,v9,v9,v10,v10,v11,v11,(.int .i64 (.ofNat 6))])) (
 M.pure (.normal, [a0,v2,v3,v4,v5,v6,v7,v7,v8,v8,v9,v9,v10,v10,v11,v11,(.int .i64 (.negSucc 0))]))
theorem c6L (cb:Cb) (N:Nat) (call:j4) (v6:Value) (a0:Value) (v2:Value) (v3:Value) (v4:Value) (v5:Value) (v7:Value) (v8:Value) (v9:Value) (v10:Value):b7q cb N call v6 a0 v2 v3 v4 v5 v7 v8 v9 v10=a9i cb N call v6 a0 v2 v3 v4 v5 v7 v8 v9 v10:=by
 simp only [b7q,a9i,l5]
noncomputable def a9p (cb:Cb) (N:Nat) (call:j4) (v6:Value) (a0:Value) (v2:Value) (v3:Value) (v4:Value) (v5:Value) (v7:Value) (v8:Value) (v9:Value):M R2:=
 cb.bv R2 (bq .eql 76 (.tmp 9) (.const (.int .i64 (.ofNat 12))) v6 (.int .i64 (.ofNat 12))) fun v10=>
 j6 v10 (
 M.pure (.normal, [a0,v2,v3,v4,v5,v6,v7,v7,v8,v8,v9,v9,v10,v10,undef,undef,(.int .i64 (.ofNat 5))])) (
 a9i cb N call v6 a0 v2 v3 v4 v5 v7 v8 v9 v10)
theorem c3x (cb:Cb) (N:Nat) (call:j4) (v6:Value) (a0:Value) (v2:Value) (v3:Value) (v4:Value) (v5:Value) (v7:Value) (v8:Value) (v9:Value):b6c cb N call v6 a0 v2 v3 v4 v5 v7 v8 v9=a9p cb N call v6 a0 v2 v3 v4 v5 v7 v8 v9:=by
 simp only [b6c,a9p,l5,c6L]
noncomputable def a8U (cb:Cb) (N:Nat) (call:j4) (v6:Value) (a0:Value) (v2:Value) (v3:Value) (v4:Value) (v5:Value) (v7:Value) (v8:Value):M R2:=
 cb.bv R2 (bq .eql 76 (.tmp 9) (.const (.int .i64 (.ofNat 8))) v6 (.int .i64 (.ofNat 8))) fun v9=>
 j6 v9 (
 M.pure (.normal, [a0,v2,v3,v4,v5,v6,v7,v7,v8,v8,v9,v9,undef,undef,undef,undef,(.int .i64 (.ofNat 4))])) (
 a9p cb N call v6 a0 v2 v3 v4 v5 v7 v8 v9)
theorem c5v (cb:Cb) (N:Nat) (call:j4) (v6:Value) (a0:Value) (v2:Value) (v3:Value) (v4:Value) (v5:Value) (v7:Value) (v8:Value):b8A cb N call v6 a0 v2 v3 v4 v5 v7 v8=a8U cb N call v6 a0 v2 v3 v4 v5 v7 v8:=by
 simp only [b8A,a8U,l5,c3x]
noncomputable def a8v (cb:Cb) (N:Nat) (call:j4) (v6:Value) (a0:Value) (v2:Value) (v3:Value) (v4:Value) (v5:Value) (v7:Value):M R2:=
 cb.bv R2 (bq .eql 76 (.tmp 9) (.const (.int .i64 (.ofNat 7))) v6 (.int .i64 (.ofNat 7))) fun v8=>
 j6 v8 (
 M.pure (.normal, [a0,v2,v3,v4,v5,v6,v7,v7,v8,v8,undef,undef,undef,undef,undef,undef,(.int .i64 (.ofNat 7))])) (
 a8U cb N call v6 a0 v2 v3 v4 v5 v7 v8)
theorem c6a (cb:Cb) (N:Nat) (call:j4) (v6:Value) (a0:Value) (v2:Value) (v3:Value) (v4:Value) (v5:Value) (v7:Value):b1D cb N call v6 a0 v2 v3 v4 v5 v7=a8v cb N call v6 a0 v2 v3 v4 v5 v7:=by
 simp only [b1D,a8v,l5,c5v]
noncomputable def b4u (cb:Cb) (N:Nat) (call:j4) (a0:Value):M CR:=
 cb.bj CR (cb.bv R2 (q8 a0) fun v2=>
 cb.bv R2 (l9 4 v2) fun v3=>
 cb.bv R2 (l9 0 v3) fun v4=>
 cb.bv R2 (j5 v4) fun v5=>
 cb.bc R2 (call 39 [v5]) (fun v6=>
 cb.bv R2 (bq .eql 76 (.tmp 9) (.const (.int .i64 (.ofNat 4))) v6 (.int .i64 (.ofNat 4))) fun v7=>
 j6 v7 (
 M.pure (.normal, [a0,v2,v3,v4,v5,v6,v7,v7,undef,undef,undef,undef,undef,undef,undef,undef,(.int .i64 (.ofNat 1))])) (
 a8v cb N call v6 a0 v2 v3 v4 v5 v7)) l6) fun x0 vs1=>
 l7 x0 (cb.bv CR (q8 a0) fun v12=>
 cb.bv CR (l9 4 v12) fun v13=>
 cb.bv CR (l9 1 v13) fun v14=>
 cb.bc CR (call 183 [a0,(d9 vs1 16),v14]) (fun v15=>
 M.pure (.ret v15)) l6) (fun _=>M.fail) (M.fail) l6
theorem d0m (cb:Cb) (N:Nat) (call:j4) (a0:Value):c4a cb N call a0=b4u cb N call a0:=by
 simp only [c4a,b4u,l5,c6a]
noncomputable def b1r (call:j4) (u0:Value) (u1:Value) (u2:Value) (u3:Value) (u4:Value) (u5:Value) (u6:Value) (u7:Value) (u8:Value) (u9:Value) (u10:Value) (u11:Value) (u12:Value) (u13:Value) (u14:Value) (u15:Value) (u16:Value) (u17:Value) (u18:Value) (u19:Value) (u20:Value):M R2:=
 M.bind (M.foot (M.pure u0)) fun y0=>
 M.bind (M.foot (M.pure u0)) fun y1=>
 M.bind (M.foot (M.pure u6)) fun y2=>
 M.bind (M.foot (M.pure u6)) fun y3=>
 M.bind (M.foot (H6 y3.1)) fun y4=>
 M.bind (M.foot (bq .sub 3 (.tmp 30) (.const (.int .i64 (.ofNat 1))) y4.1 (.int .i64 (.ofNat 1)))) fun y5=>
 M.bind (M.foot (F3 1 y2.1 y5.1)) fun y6=>
 M.bind (M.foot (j5 y6.1)) fun y7=>
 M.bind (M.foot (M.pure u6)) fun y8=>
 M.bind (M.foot (M.pure u6)) fun y9=>
 M.bind (M.foot (H6 y9.1)) fun y10=>
 M.bind (M.foot (bq .sub 3 (.tmp 36) (.const (.int .i64 (.ofNat 1))) y10.1 (.int .i64 (.ofNat 1)))) fun y11=>
 M.bind (M.foot (Q8 1 y8.1 none (some y11.1))) fun y12=>
 M.bind (M.foot (q8 y0.1)) fun y13=>
 M.bind (M.foot (l9 4 y13.1)) fun y14=>
 M.bind (M.foot (l9 1 y14.1)) fun y15=>
 M.bind (M.foot (r9 1 y15.1 y7.1)) fun y16=>
 M.bind (M.foot (q8 y1.1)) fun y17=>
 M.bind (M.foot (l9 4 y17.1)) fun y18=>
 M.bind (M.foot (l9 8 y18.1)) fun y19=>
 M.bind (M.foot (r9 1 y19.1 y12.1)) fun y20=>
 M.guard (G9 [(0, 1),(0, 2),(1, 2),(0, 3),(1, 3),(2, 3),(0, 4),(1, 4),(2, 4),(0, 5),(1, 5),(2, 5),(0, 6),(1, 6),(0, 7),(1, 7),(0, 8),(1, 8),(2, 8),(3, 8),(4, 8),(5, 8),(6, 8),(7, 8),(0, 9),(1, 9),(2, 9),(3, 9),(4, 9),(5, 9),(6, 9),(7, 9),(8, 9),(0, 10),(1, 10),(2, 10),(3, 10),(4, 10),(5, 10),(6, 10),(7, 10),(8, 10),(0, 11),(1, 11),(2, 11),(3, 11),(4, 11),(5, 11),(6, 11),(7, 11),(8, 11),(0, 12),(1, 12),(2, 12),(3, 12),(4, 12),(5, 12),(6, 12),(7, 12),(1, 13),(8, 13),(9, 13),(10, 13),(11, 13),(12, 13),(1, 14),(8, 14),(9, 14),(10, 14),(11, 14),(12, 14),(1, 15),(8, 15),(9, 15),(10, 15),(11, 15),(12, 15),(1, 16),(8, 16),(9, 16),(10, 16),(11, 16),(12, 16)] [y0.2,y1.2,y2.2,y3.2,y4.2,y5.2,y6.2,y7.2,y8.2,y9.2,y10.2,y11.2,y12.2,y13.2,y14.2,y15.2,y16.2,y17.2,y18.2,y19.2,y20.2]) (M.pure (.normal, [y0.1,y1.1,y2.1,y3.1,y4.1,y5.1,y6.1,y7.1,y8.1,y9.1,y10.1,y11.1,y12.1,y13.1,y14.1,y15.1,y17.1,y18.1,y19.1]))
theorem c8H (call:j4) (u0:Value) (u1:Value) (u2:Value) (u3:Value) (u4:Value) (u5:Value) (u6:Value) (u7:Value) (u8:Value) (u9:Value) (u10:Value) (u11:Value) (u12:Value) (u13:Value) (u14:Value) (u15:Value) (u16:Value) (u17:Value) (u18:Value) (u19:Value) (u20:Value):b6X call u0 u1 u2 u3 u4 u5 u6 u7 u8 u9 u10 u11 u12 u13 u14 u15 u16 u17 u18 u19 u20=b1r call u0 u1 u2 u3 u4 u5 u6 u7 u8 u9 u10 u11 u12 u13 u14 u15 u16 u17 u18 u19 u20:=by
 simp only [b6X,b1r,l5,fun F hl=>G6 (ops:=a2Y) (L:=[(0, 1),(0, 2),(1, 2),(0, 3),(1, 3),(2, 3),(0, 4),(1, 4),(2, 4),(0, 5),(1, 5),(2, 5),(0, 6),(1, 6),(0, 7),(1, 7),(0, 8),(1, 8),(2, 8),(3, 8),(4, 8),(5, 8),(6, 8),(7, 8),(0, 9),(1, 9),(2, 9),(3, 9),(4, 9),(5, 9),(6, 9),(7, 9),(8, 9),(0, 10),(1, 10),(2, 10),(3, 10),(4, 10),(5, 10),(6, 10),(7, 10),(8, 10),(0, 11),(1, 11),(2, 11),(3, 11),(4, 11),(5, 11),(6, 11),(7, 11),(8, 11),(0, 12),(1, 12),(2, 12),(3, 12),(4, 12),(5, 12),(6, 12),(7, 12),(1, 13),(8, 13),(9, 13),(10, 13),(11, 13),(12, 13),(1, 14),(8, 14),(9, 14),(10, 14),(11, 14),(12, 14),(1, 15),(8, 15),(9, 15),(10, 15),(11, 15),(12, 15),(1, 16),(8, 16),(9, 16),(10, 16),(11, 16),(12, 16)]) (n:=21) (by kernel_rfl) (by kernel_rfl) F hl,D9,F7]
noncomputable def b4M (cb:Cb) (N:Nat) (call:j4) (a0:Value):M CR:=
 cb.bj CR (cb.lp (c8U cb N call a0) N [undef,undef,undef,undef,(.bool false),undef,undef,undef,undef,(.slice none 0 0),undef,undef,undef,undef,undef,undef,undef,undef,undef,undef,undef,undef,undef,undef]) fun x1 vs2=>
 l7 x1 (M.fail) (fun i22=>l8 (Nat.beq i22 0) (cb.bj CR (b1r call a0 undef undef undef undef undef (d9 vs2 9) undef undef undef undef undef undef undef undef undef undef undef undef undef undef) fun _ vs23=>
 M.pure (.ret (.bool true))) (M.fail)) (M.pure (.ret (d9 vs2 4))) l6
theorem c8h (cb:Cb) (N:Nat) (call:j4) (a0:Value):c1Y cb N call a0=b4M cb N call a0:=by
 simp only [c1Y,b4M,d2N,c8H]
noncomputable def b8c (call:j4) (u0:Value) (u1:Value) (u2:Value) (u3:Value) (u4:Value) (u5:Value) (u6:Value) (u7:Value) (u8:Value) (u9:Value) (u10:Value):M R2:=
 M.bind (M.foot (M.pure u3)) fun y0=>
 M.bind (M.foot (M.pure u3)) fun y1=>
 M.bind (M.foot (q8 y1.1)) fun y2=>
 M.bind (M.foot (l9 1 y2.1)) fun y3=>
 M.bind (M.foot (j5 y3.1)) fun y4=>
 M.bind (M.foot (M.pure u3)) fun y5=>
 M.bind (M.foot (q8 y5.1)) fun y6=>
 M.bind (M.foot (l9 2 y6.1)) fun y7=>
 M.bind (M.foot (j5 y7.1)) fun y8=>
 M.bind (M.foot (D7 call 181 [y0.1,y4.1,y8.1])) fun y9=>
 M.bind (M.foot (M.pure y9.1)) fun y10=>
 M.guard (G9 [(0, 1),(0, 2),(0, 3),(0, 4),(0, 5),(1, 5),(2, 5),(3, 5),(4, 5),(0, 6),(1, 6),(2, 6),(3, 6),(4, 6),(0, 7),(1, 7),(2, 7),(3, 7),(4, 7),(0, 8),(1, 8),(2, 8),(3, 8),(4, 8)] [y0.2,y1.2,y2.2,y3.2,y4.2,y5.2,y6.2,y7.2,y8.2,y9.2,y10.2]) (M.pure (.normal, [y0.1,y1.1,y2.1,y3.1,y4.1,y5.1,y6.1,y7.1,y8.1,y9.1,y10.1]))
theorem d1S (call:j4) (u0:Value) (u1:Value) (u2:Value) (u3:Value) (u4:Value) (u5:Value) (u6:Value) (u7:Value) (u8:Value) (u9:Value) (u10:Value):b4H call u0 u1 u2 u3 u4 u5 u6 u7 u8 u9 u10=b8c call u0 u1 u2 u3 u4 u5 u6 u7 u8 u9 u10:=by
 simp only [b4H,b8c,l5,fun F hl=>G6 (ops:=a3D) (L:=[(0, 1),(0, 2),(0, 3),(0, 4),(0, 5),(1, 5),(2, 5),(3, 5),(4, 5),(0, 6),(1, 6),(2, 6),(3, 6),(4, 6),(0, 7),(1, 7),(2, 7),(3, 7),(4, 7),(0, 8),(1, 8),(2, 8),(3, 8),(4, 8)]) (n:=11) (by kernel_rfl) (by kernel_rfl) F hl,D9,F7]
noncomputable def b2l (call:j4) (u0:Value) (u1:Value) (u2:Value) (u3:Value) (u4:Value) (u5:Value) (u6:Value) (u7:Value) (u8:Value) (u9:Value) (u10:Value) (u11:Value):M R2:=
 M.bind (M.foot (M.pure u3)) fun y0=>
 M.bind (M.foot (q8 y0.1)) fun y1=>
 M.bind (M.foot (l9 1 y1.1)) fun y2=>
 M.bind (M.foot (j5 y2.1)) fun y3=>
 M.bind (M.foot (M.pure u3)) fun y4=>
 M.bind (M.foot (q8 y4.1)) fun y5=>
 M.bind (M.foot (l9 2 y5.1)) fun y6=>
 M.bind (M.foot (j5 y6.1)) fun y7=>
 M.bind (M.foot (F3 4 y3.1 y7.1)) fun y8=>
 M.bind (M.foot (l9 3 y8.1)) fun y9=>
 M.bind (M.foot (j5 y9.1)) fun y10=>
 M.bind (M.foot (M.pure y10.1)) fun y11=>
 M.guard (G9 [(0, 4),(1, 4),(2, 4),(3, 4),(0, 5),(1, 5),(2, 5),(3, 5),(0, 6),(1, 6),(2, 6),(3, 6),(0, 7),(1, 7),(2, 7),(3, 7)] [y0.2,y1.2,y2.2,y3.2,y4.2,y5.2,y6.2,y7.2,y8.2,y9.2,y10.2,y11.2]) (M.pure (.normal, [y0.1,y1.1,y2.1,y3.1,y4.1,y5.1,y6.1,y7.1,y8.1,y9.1,y10.1,y11.1]))
theorem c7X (call:j4) (u0:Value) (u1:Value) (u2:Value) (u3:Value) (u4:Value) (u5:Value) (u6:Value) (u7:Value) (u8:Value) (u9:Value) (u10:Value) (u11:Value):b8n call u0 u1 u2 u3 u4 u5 u6 u7 u8 u9 u10 u11=b2l call u0 u1 u2 u3 u4 u5 u6 u7 u8 u9 u10 u11:=by
 simp only [b8n,b2l,l5,fun F hl=>G6 (ops:=a3F) (L:=[(0, 4),(1, 4),(2, 4),(3, 4),(0, 5),(1, 5),(2, 5),(3, 5),(0, 6),(1, 6),(2, 6),(3, 6),(0, 7),(1, 7),(2, 7),(3, 7)]) (n:=12) (by kernel_rfl) (by kernel_rfl) F hl,D9,F7]
noncomputable def a7U (cb:Cb) (N:Nat) (call:j4) (a0:Value):M CR:=
 cb.bj CR (b8c call undef undef undef a0 undef undef undef undef undef undef undef) fun _ vs12=>
 M.pure (.ret (d9 vs12 10))
theorem c0r (cb:Cb) (N:Nat) (call:j4) (a0:Value):b4q cb N call a0=a7U cb N call a0:=by
 simp only [b4q,a7U,d1n,d1S]
noncomputable def a6W (cb:Cb) (N:Nat) (call:j4) (a1:Value) (v27:Value) (a0:Value):M CR:=
 cb.bv CR (q8 a1) fun v33=>
 cb.bv CR (r9 1 v33 v27) fun v34=>
 cb.bv CR (q8 a0) fun v35=>
 cb.bv CR (l9 2 v35) fun v36=>
 cb.bv CR (j5 v36) fun v37=>
 cb.bv CR (bq .add 3 (.tmp 78) (.const (.int .i64 (.ofNat 1))) v37 (.int .i64 (.ofNat 1))) fun v38=>
 cb.bv CR (q8 a0) fun v39=>
 cb.bv CR (l9 2 v39) fun v40=>
 cb.bv CR (r9 1 v40 v38) fun v41=>
 M.pure (.ret (.bool true))
theorem c2z (cb:Cb) (N:Nat) (call:j4) (a1:Value) (v27:Value) (a0:Value):b8h cb N call a1 v27 a0=a6W cb N call a1 v27 a0:=by
 simp only [b8h,a6W,l5]
noncomputable def a6t (cb:Cb) (N:Nat) (call:j4) (vs13:List Value) (a0:Value) (a1:Value) (v27:Value):M CR:=
 cb.bv CR (H6 (d9 vs13 11)) fun v30=>
 cb.bv CR (bq .gtr 3 (.tmp 67) (.const (.int .i64 (.ofNat 2))) v30 (.int .i64 (.ofNat 2))) fun v31=>
 j6 v31 (
 cb.bc CR (call 181 [a0,(d9 vs13 11),(.int .i64 (.ofNat 2))]) (fun v32=>
 M.pure (.ret v32)) l6) (
 a6W cb N call a1 v27 a0)
theorem c3Z (cb:Cb) (N:Nat) (call:j4) (vs13:List Value) (a0:Value) (a1:Value) (v27:Value):b4D cb N call vs13 a0 a1 v27=a6t cb N call vs13 a0 a1 v27:=by
 simp only [b4D,a6t,l5,c2z]
noncomputable def b0g (cb:Cb) (N:Nat) (call:j4) (vs13:List Value) (a0:Value) (a1:Value):M CR:=
 cb.bv CR (F3 4 (d9 vs13 11) (.int .i64 (.ofNat 1))) fun v24=>
 cb.bv CR (E8 4 v24) fun v25=>
 cb.bc CR (call 185 [a0,v25,(.int .i64 (.ofNat 0))]) (fun v26=>
 cb.bv CR (z8 0 v26) fun v27=>
 cb.bv CR (z8 1 v26) fun v28=>
 cb.bv CR (un .not v28) fun v29=>
 j6 v29 (
 M.pure (.ret (.bool false))) (
 a6t cb N call vs13 a0 a1 v27)) l6
theorem c3H (cb:Cb) (N:Nat) (call:j4) (vs13:List Value) (a0:Value) (a1:Value):b2Y cb N call vs13 a0 a1=b0g cb N call vs13 a0 a1:=by
 simp only [b2Y,b0g,c3Z]
noncomputable def a9N (cb:Cb) (N:Nat) (call:j4) (v15:Value) (vs13:List Value) (a0:Value) (a1:Value):M CR:=
 cb.bj CR (l8 (o7 false v15) (cb.bv R2 (F3 4 (d9 vs13 11) (.int .i64 (.ofNat 1))) fun v18=>
 cb.bv R2 (E8 4 v18) fun v19=>
 cb.bc R2 (call 184 [v19]) (fun v20=>
 cb.bv R2 (un .not v20) fun v21=>
 M.pure (.normal, [(d9 vs13 11),v18,v19,v20,v21])) l6) (M.pure (.normal, [undef,undef,undef,undef,undef]))) fun x16 vs17=>l7 x16 (cb.bv CR (q9 v15 (.bool true) (d9 vs17 4)) fun v22=>
 j6 v22 (
 cb.bc CR (call 181 [a0,(d9 vs13 11),(.int .i64 (.ofNat 1))]) (fun v23=>
 M.pure (.ret v23)) l6) (
 b0g cb N call vs13 a0 a1)) (fun _=>M.fail) M.fail l6
theorem c1O (cb:Cb) (N:Nat) (call:j4) (v15:Value) (vs13:List Value) (a0:Value) (a1:Value):b1N cb N call v15 vs13 a0 a1=a9N cb N call v15 vs13 a0 a1:=by
 simp only [b1N,a9N,c3H]
noncomputable def a8d (cb:Cb) (N:Nat) (call:j4) (a0:Value) (a1:Value):M CR:=
 cb.bj CR (b2l call undef undef undef a0 undef undef undef undef undef undef undef undef) fun _ vs13=>
 cb.bv CR (H6 (d9 vs13 11)) fun v14=>
 cb.bv CR (bq .lss 3 (.tmp 44) (.const (.int .i64 (.ofNat 2))) v14 (.int .i64 (.ofNat 2))) fun v15=>
 a9N cb N call v15 vs13 a0 a1
theorem c1S (cb:Cb) (N:Nat) (call:j4) (a0:Value) (a1:Value):b4J cb N call a0 a1=a8d cb N call a0 a1:=by
 simp only [b4J,a8d,l5,c9j,c7X,c1O]
noncomputable def a8a (cb:Cb) (N:Nat) (call:j4) (v1:Value) (v2:Value) (a0:Value) (a1:Value):M CR:=
 cb.bv CR (J6 [(.int .i64 (.ofNat 0)),(.int .i64 (.ofNat 0)),(.string ⟨⟨[]⟩⟩),(.slice none 0 0)]) fun v3=>
 cb.bv CR (r9 4 v3 v1) fun v4=>
 cb.bv CR (un .not v2) fun v5=>
 cb.bj CR (l8 (o7 false v5) (cb.bv R2 (E8 4 v3) fun v8=>
 cb.bc R2 (call 113 [v8,(.string ⟨⟨[116, 121, 112, 101]⟩⟩)]) (fun v9=>
 cb.bv R2 (un .not v9) fun v10=>
 M.pure (.normal, [v8,v9,v10])) l6) (M.pure (.normal, [undef,undef,undef]))) fun x6 vs7=>l7 x6 (cb.bv CR (q9 v5 (.bool true) (d9 vs7 2)) fun v11=>
 j6 v11 (
 a7U cb N call a0) (
 a8d cb N call a0 a1)) (fun _=>M.fail) M.fail l6
theorem c2w (cb:Cb) (N:Nat) (call:j4) (v1:Value) (v2:Value) (a0:Value) (a1:Value):b4v cb N call v1 v2 a0 a1=a8a cb N call v1 v2 a0 a1:=by
 simp only [b4v,a8a,c0r,c1S]
noncomputable def b2y (cb:Cb) (N:Nat) (call:j4) (a0:Value) (a1:Value):M CR:=
 cb.bc CR (call 138 [a0]) (fun v0=>
 cb.bv CR (z8 0 v0) fun v1=>
 cb.bv CR (z8 1 v0) fun v2=>
 a8a cb N call v1 v2 a0 a1) l6
theorem d1a (cb:Cb) (N:Nat) (call:j4) (a0:Value) (a1:Value):c4G cb N call a0 a1=b2y cb N call a0 a1:=by
 simp only [c4G,b2y,c2w]
noncomputable def b5q (call:j4) (u0:Value) (u1:Value) (u2:Value) (u3:Value) (u4:Value) (u5:Value) (u6:Value) (u7:Value) (u8:Value) (u9:Value) (u10:Value) (u11:Value) (u12:Value) (u13:Value) (u14:Value) (u15:Value) (u16:Value) (u17:Value) (u18:Value) (u19:Value) (u20:Value) (u21:Value) (u22:Value) (u23:Value) (u24:Value) (u25:Value) (u26:Value) (u27:Value) (u28:Value) (u29:Value) (u30:Value) (u31:Value) (u32:Value) (u33:Value) (u34:Value) (u35:Value) (u36:Value) (u37:Value):M R2:=
 M.bind (M.foot (M.pure u27)) fun y0=>
 M.bind (M.foot (q8 y0.1)) fun y1=>
 M.bind (M.foot (l9 2 y1.1)) fun y2=>
 M.bind (M.foot (j5 y2.1)) fun y3=>
 M.bind (M.foot (bq .add 3 (.tmp 10) (.const (.int .i64 (.ofNat 1))) y3.1 (.int .i64 (.ofNat 1)))) fun y4=>
 M.bind (M.foot (M.pure u27)) fun y5=>
 M.bind (M.foot (q8 y5.1)) fun y6=>
 M.bind (M.foot (l9 1 y6.1)) fun y7=>
 M.bind (M.foot (j5 y7.1)) fun y8=>
 M.bind (M.foot (H6 y8.1)) fun y9=>
 M.bind (M.foot (bq .lss 3 (.tmp 11) (.tmp 16) y4.1 y9.1)) fun y10=>
 M.bind (M.foot (M.pure y10.1)) fun y11=>
 M.bind (l8 (o7 true y11.1) (M.foot (M.pure u27)) (M.pure (undef,([], [])))) fun y12=>
 M.bind (l8 (o7 true y11.1) (M.foot (q8 y12.1)) (M.pure (undef,([], [])))) fun y13=>
 M.bind (l8 (o7 true y11.1) (M.foot (l9 1 y13.1)) (M.pure (undef,([], [])))) fun y14=>
 M.bind (l8 (o7 true y11.1) (M.foot (j5 y14.1)) (M.pure (undef,([], [])))) fun y15=>
 M.bind (l8 (o7 true y11.1) (M.foot (M.pure u27)) (M.pure (undef,([], [])))) fun y16=>
 M.bind (l8 (o7 true y11.1) (M.foot (q8 y16.1)) (M.pure (undef,([], [])))) fun y17=>
 M.bind (l8 (o7 true y11.1) (M.foot (l9 2 y17.1)) (M.pure (undef,([], [])))) fun y18=>
 M.bind (l8 (o7 true y11.1) (M.foot (j5 y18.1)) (M.pure (undef,([], [])))) fun y19=>
 M.bind (l8 (o7 true y11.1) (M.foot (F3 4 y15.1 y19.1)) (M.pure (undef,([], [])))) fun y20=>
 M.bind (l8 (o7 true y11.1) (M.foot (E8 4 y20.1)) (M.pure (undef,([], [])))) fun y21=>
 M.bind (l8 (o7 true y11.1) (M.foot (D7 call 184 [y21.1])) (M.pure (undef,([], [])))) fun y22=>
 M.bind (M.foot (q9 y11.1 y22.1 (.bool false))) fun y23=>
 M.bind (M.foot (M.pure y23.1)) fun y24=>
 M.bind (l8 (o7 true y24.1) (M.foot (M.pure u27)) (M.pure (undef,([], [])))) fun y25=>
 M.bind (l8 (o7 true y24.1) (M.foot (q8 y25.1)) (M.pure (undef,([], [])))) fun y26=>
 M.bind (l8 (o7 true y24.1) (M.foot (l9 1 y26.1)) (M.pure (undef,([], [])))) fun y27=>
 M.bind (l8 (o7 true y24.1) (M.foot (j5 y27.1)) (M.pure (undef,([], [])))) fun y28=>
 M.bind (l8 (o7 true y24.1) (M.foot (M.pure u27)) (M.pure (undef,([], [])))) fun y29=>
 M.bind (l8 (o7 true y24.1) (M.foot (q8 y29.1)) (M.pure (undef,([], [])))) fun y30=>
 M.bind (l8 (o7 true y24.1) (M.foot (l9 2 y30.1)) (M.pure (undef,([], [])))) fun y31=>
 M.bind (l8 (o7 true y24.1) (M.foot (j5 y31.1)) (M.pure (undef,([], [])))) fun y32=>
 M.bind (l8 (o7 true y24.1) (M.foot (bq .add 3 (.tmp 39) (.const (.int .i64 (.ofNat 1))) y32.1 (.int .i64 (.ofNat 1)))) (M.pure (undef,([], [])))) fun y33=>
 M.bind (l8 (o7 true y24.1) (M.foot (F3 4 y28.1 y33.1)) (M.pure (undef,([], [])))) fun y34=>
 M.bind (l8 (o7 true y24.1) (M.foot (E8 4 y34.1)) (M.pure (undef,([], [])))) fun y35=>
 M.bind (l8 (o7 true y24.1) (M.foot (D7 call 184 [y35.1])) (M.pure (undef,([], [])))) fun y36=>
 M.bind (M.foot (q9 y24.1 y36.1 (.bool false))) fun y37=>
 M.guard (G9 [(0, 5),(1, 5),(2, 5),(3, 5),(4, 5),(0, 6),(1, 6),(2, 6),(3, 6),(4, 6),(0, 7),(1, 7),(2, 7),(3, 7),(4, 7),(0, 8),(1, 8),(2, 8),(3, 8),(4, 8),(0, 9),(1, 9),(2, 9),(3, 9),(4, 9),(12, 16),(13, 16),(14, 16),(15, 16),(12, 17),(13, 17),(14, 17),(15, 17),(12, 18),(13, 18),(14, 18),(15, 18),(12, 19),(13, 19),(14, 19),(15, 19),(25, 29),(26, 29),(27, 29),(28, 29),(25, 30),(26, 30),(27, 30),(28, 30),(25, 31),(26, 31),(27, 31),(28, 31),(25, 32),(26, 32),(27, 32),(28, 32),(25, 33),(26, 33),(27, 33),(28, 33)] [y0.2,y1.2,y2.2,y3.2,y4.2,y5.2,y6.2,y7.2,y8.2,y9.2,y10.2,y11.2,y12.2,y13.2,y14.2,y15.2,y16.2,y17.2,y18.2,y19.2,y20.2,y21.2,y22.2,y23.2,y24.2,y25.2,y26.2,y27.2,y28.2,y29.2,y30.2,y31.2,y32.2,y33.2,y34.2,y35.2,y36.2,y37.2]) (M.pure (.normal, [y0.1,y1.1,y2.1,y3.1,y4.1,y5.1,y6.1,y7.1,y8.1,y9.1,y10.1,y11.1,y12.1,y13.1,y14.1,y15.1,y16.1,y17.1,y18.1,y19.1,y20.1,y21.1,y22.1,y23.1,y24.1,y25.1,y26.1,y27.1,y28.1,y29.1,y30.1,y31.1,y32.1,y33.1,y34.1,y35.1,y36.1,y37.1]))
theorem c9t (call:j4) (u0:Value) (u1:Value) (u2:Value) (u3:Value) (u4:Value) (u5:Value) (u6:Value) (u7:Value) (u8:Value) (u9:Value) (u10:Value) (u11:Value) (u12:Value) (u13:Value) (u14:Value) (u15:Value) (u16:Value) (u17:Value) (u18:Value) (u19:Value) (u20:Value) (u21:Value) (u22:Value) (u23:Value) (u24:Value) (u25:Value) (u26:Value) (u27:Value) (u28:Value) (u29:Value) (u30:Value) (u31:Value) (u32:Value) (u33:Value) (u34:Value) (u35:Value) (u36:Value) (u37:Value):b2Z call u0 u1 u2 u3 u4 u5 u6 u7 u8 u9 u10 u11 u12 u13 u14 u15 u16 u17 u18 u19 u20 u21 u22 u23 u24 u25 u26 u27 u28 u29 u30 u31 u32 u33 u34 u35 u36 u37=b5q call u0 u1 u2 u3 u4 u5 u6 u7 u8 u9 u10 u11 u12 u13 u14 u15 u16 u17 u18 u19 u20 u21 u22 u23 u24 u25 u26 u27 u28 u29 u30 u31 u32 u33 u34 u35 u36 u37:=by
 simp only [b2Z,b5q,l5,fun F hl=>G6 (ops:=a2N) (L:=[(0, 5),(1, 5),(2, 5),(3, 5),(4, 5),(0, 6),(1, 6),(2, 6),(3, 6),(4, 6),(0, 7),(1, 7),(2, 7),(3, 7),(4, 7),(0, 8),(1, 8),(2, 8),(3, 8),(4, 8),(0, 9),(1, 9),(2, 9),(3, 9),(4, 9),(12, 16),(13, 16),(14, 16),(15, 16),(12, 17),(13, 17),(14, 17),(15, 17),(12, 18),(13, 18),(14, 18),(15, 18),(12, 19),(13, 19),(14, 19),(15, 19),(25, 29),(26, 29),(27, 29),(28, 29),(25, 30),(26, 30),(27, 30),(28, 30),(25, 31),(26, 31),(27, 31),(28, 31),(25, 32),(26, 32),(27, 32),(28, 32),(25, 33),(26, 33),(27, 33),(28, 33)]) (n:=38) (by kernel_rfl) (by kernel_rfl) F hl,D9,F7]
noncomputable def b4R (cb:Cb) (N:Nat) (call:j4) (a0:Value) (a1:Value) (a2:Value):M CR:=
 cb.bj CR (b5q call undef undef undef undef undef undef undef undef undef undef undef undef undef undef undef undef undef undef undef undef undef undef undef undef undef undef undef a0 undef undef undef undef undef undef undef undef undef undef) fun _ vs0=>
 j6 (d9 vs0 37) (
 cb.bv CR (q8 a0) fun v1=>
 cb.bv CR (l9 4 v1) fun v2=>
 d2B cb N call v2 a0 a1 a2) (
 c8k cb N call a0 a2)
theorem d1R (cb:Cb) (N:Nat) (call:j4) (a0:Value) (a1:Value) (a2:Value):c4q cb N call a0 a1 a2=b4R cb N call a0 a1 a2:=by
 simp only [c4q,b4R,d1e,c9t]
noncomputable def b5S (call:j4) (u0:Value) (u1:Value) (u2:Value) (u3:Value) (u4:Value) (u5:Value) (u6:Value) (u7:Value) (u8:Value) (u9:Value) (u10:Value):M R2:=
 M.bind (M.foot (M.pure u0)) fun y0=>
 M.bind (M.foot (q8 y0.1)) fun y1=>
 M.bind (M.foot (l9 0 y1.1)) fun y2=>
 M.bind (M.foot (j5 y2.1)) fun y3=>
 M.bind (M.foot (l9 1 u4)) fun y4=>
 M.bind (M.foot (j5 y4.1)) fun y5=>
 M.bind (M.foot (M.pure u6)) fun y6=>
 M.bind (M.foot (D7 call 72 [y3.1,y5.1,y6.1])) fun y7=>
 M.bind (M.foot (M.pure y7.1)) fun y8=>
 M.guard (G9 [(0, 4),(1, 4),(2, 4),(3, 4),(0, 5),(1, 5),(2, 5),(3, 5),(0, 6),(1, 6),(2, 6),(3, 6),(4, 6),(5, 6)] [y0.2,y1.2,y2.2,y3.2,y4.2,y5.2,y6.2,y7.2,y8.2]) (M.pure (.normal, [y0.1,y1.1,y2.1,y3.1,y4.1,y5.1,y6.1,y7.1,y8.1]))
theorem d0K (call:j4) (u0:Value) (u1:Value) (u2:Value) (u3:Value) (u4:Value) (u5:Value) (u6:Value) (u7:Value) (u8:Value) (u9:Value) (u10:Value):b6K call u0 u1 u2 u3 u4 u5 u6 u7 u8 u9 u10=b5S call u0 u1 u2 u3 u4 u5 u6 u7 u8 u9 u10:=by
 simp only [b6K,b5S,l5,fun F hl=>G6 (ops:=a2S) (L:=[(0, 4),(1, 4),(2, 4),(3, 4),(0, 5),(1, 5),(2, 5),(3, 5),(0, 6),(1, 6),(2, 6),(3, 6),(4, 6),(5, 6)]) (n:=9) (by kernel_rfl) (by kernel_rfl) F hl,D9,F7]
noncomputable def a9s (call:j4) (u0:Value) (u1:Value) (u2:Value) (u3:Value) (u4:Value) (u5:Value) (u6:Value) (u7:Value) (u8:Value) (u9:Value) (u10:Value):M R2:=
 M.bind (M.foot (M.pure u0)) fun y0=>
 M.bind (M.foot (q8 y0.1)) fun y1=>
 M.bind (M.foot (l9 0 y1.1)) fun y2=>
 M.bind (M.foot (j5 y2.1)) fun y3=>
 M.bind (M.foot (l9 1 u4)) fun y4=>
 M.bind (M.foot (j5 y4.1)) fun y5=>
 M.bind (M.foot (M.pure u6)) fun y6=>
 M.bind (M.foot (D7 call 72 [y3.1,y5.1,y6.1])) fun y7=>
 M.bind (M.foot (M.pure y7.1)) fun y8=>
 M.guard (G9 [(0, 4),(1, 4),(2, 4),(3, 4),(0, 5),(1, 5),(2, 5),(3, 5),(0, 6),(1, 6),(2, 6),(3, 6),(4, 6),(5, 6)] [y0.2,y1.2,y2.2,y3.2,y4.2,y5.2,y6.2,y7.2,y8.2]) (M.pure (.normal, [y0.1,y1.1,y2.1,y3.1,y4.1,y5.1,y6.1,y7.1,y8.1]))
theorem c1h (call:j4) (u0:Value) (u1:Value) (u2:Value) (u3:Value) (u4:Value) (u5:Value) (u6:Value) (u7:Value) (u8:Value) (u9:Value) (u10:Value):a7p call u0 u1 u2 u3 u4 u5 u6 u7 u8 u9 u10=a9s call u0 u1 u2 u3 u4 u5 u6 u7 u8 u9 u10:=by
 simp only [a7p,a9s,l5,fun F hl=>G6 (ops:=a2h) (L:=[(0, 4),(1, 4),(2, 4),(3, 4),(0, 5),(1, 5),(2, 5),(3, 5),(0, 6),(1, 6),(2, 6),(3, 6),(4, 6),(5, 6)]) (n:=9) (by kernel_rfl) (by kernel_rfl) F hl,D9,F7]
noncomputable def a7b (call:j4) (u0:Value) (u1:Value) (u2:Value) (u3:Value) (u4:Value) (u5:Value) (u6:Value) (u7:Value) (u8:Value):M R2:=
 M.bind (M.foot (M.pure u0)) fun y0=>
 M.bind (M.foot (q8 y0.1)) fun y1=>
 M.bind (M.foot (l9 0 y1.1)) fun y2=>
 M.bind (M.foot (j5 y2.1)) fun y3=>
 M.bind (M.foot (l9 1 u4)) fun y4=>
 M.bind (M.foot (j5 y4.1)) fun y5=>
 M.bind (M.foot (D7 call 72 [y3.1,y5.1,(.int .i64 (.ofNat 4))])) fun y6=>
 M.bind (M.foot (M.pure y6.1)) fun y7=>
 M.guard (G9 [(0, 4),(1, 4),(2, 4),(3, 4),(0, 5),(1, 5),(2, 5),(3, 5)] [y0.2,y1.2,y2.2,y3.2,y4.2,y5.2,y6.2,y7.2]) (M.pure (.normal, [y0.1,y1.1,y2.1,y3.1,y4.1,y5.1,y6.1,y7.1]))
theorem c7y (call:j4) (u0:Value) (u1:Value) (u2:Value) (u3:Value) (u4:Value) (u5:Value) (u6:Value) (u7:Value) (u8:Value):b0b call u0 u1 u2 u3 u4 u5 u6 u7 u8=a7b call u0 u1 u2 u3 u4 u5 u6 u7 u8:=by
 simp only [b0b,a7b,l5,fun F hl=>G6 (ops:=a2n) (L:=[(0, 4),(1, 4),(2, 4),(3, 4),(0, 5),(1, 5),(2, 5),(3, 5)]) (n:=8) (by kernel_rfl) (by kernel_rfl) F hl,D9,F7]
noncomputable def a9F (cb:Cb) (N:Nat) (call:j4) (a0:Value) (v19:Value) (v38:Value) (v16:Value) (v17:Value) (v18:Value) (vs22:List Value) (v26:Value) (vs28:List Value) (v32:Value) (v33:Value) (v34:Value) (v35:Value) (v36:Value) (v37:Value) (v39:Value):M R2:=
 cb.bj R2 (b5S call a0 undef undef undef v19 undef v38 undef undef undef undef) fun _ vs40=>
 M.pure (.ret, [a0,v16,v16,v17,v18,v19,v18,v18,v18,(d9 vs22 0),(d9 vs22 1),(d9 vs22 2),v26,v26,(d9 vs28 0),(d9 vs28 1),(d9 vs28 2),v32,v33,v34,v35,v36,v36,v37,v38,v37,v38,v38,v39,(d9 vs40 0),(d9 vs40 1),(d9 vs40 2),(d9 vs40 3),(d9 vs40 4),(d9 vs40 5),(d9 vs40 6),(d9 vs40 7),(d9 vs40 8),undef,undef,undef,undef,undef,undef,undef,undef,undef,undef,undef,undef,undef])
theorem c2l (cb:Cb) (N:Nat) (call:j4) (a0:Value) (v19:Value) (v38:Value) (v16:Value) (v17:Value) (v18:Value) (vs22:List Value) (v26:Value) (vs28:List Value) (v32:Value) (v33:Value) (v34:Value) (v35:Value) (v36:Value) (v37:Value) (v39:Value):b3R cb N call a0 v19 v38 v16 v17 v18 vs22 v26 vs28 v32 v33 v34 v35 v36 v37 v39=a9F cb N call a0 v19 v38 v16 v17 v18 vs22 v26 vs28 v32 v33 v34 v35 v36 v37 v39:=by
 simp only [b3R,a9F,d2D,d0K]
noncomputable def a6A (cb:Cb) (N:Nat) (call:j4) (v48:Value) (a0:Value) (v16:Value) (v17:Value) (v18:Value) (v19:Value) (vs22:List Value) (v26:Value) (vs28:List Value) (v32:Value) (v33:Value) (v34:Value) (v35:Value) (v36:Value) (v37:Value) (v38:Value) (v39:Value) (v41:Value) (v42:Value) (v43:Value) (v44:Value) (v46:Value) (v47:Value):M R2:=
 cb.bv R2 (bq .add 3 (.tmp 70) (.const (.int .i64 (.ofNat 1))) v48 (.int .i64 (.ofNat 1))) fun v49=>
 cb.bv R2 (q8 a0) fun v50=>
 cb.bv R2 (l9 2 v50) fun v51=>
 cb.bv R2 (r9 1 v51 v49) fun v52=>
 M.pure (.normal, [a0,v16,v16,v17,v18,v19,v18,v18,v18,(d9 vs22 0),(d9 vs22 1),(d9 vs22 2),v26,v26,(d9 vs28 0),(d9 vs28 1),(d9 vs28 2),v32,v33,v34,v35,v36,v36,v37,v38,v37,v38,v38,v39,undef,undef,undef,undef,undef,undef,undef,undef,(.bool false),a0,v37,v41,v42,v43,v44,a0,v46,v47,v48,v49,v50,v51])
theorem c5e (cb:Cb) (N:Nat) (call:j4) (v48:Value) (a0:Value) (v16:Value) (v17:Value) (v18:Value) (v19:Value) (vs22:List Value) (v26:Value) (vs28:List Value) (v32:Value) (v33:Value) (v34:Value) (v35:Value) (v36:Value) (v37:Value) (v38:Value) (v39:Value) (v41:Value) (v42:Value) (v43:Value) (v44:Value) (v46:Value) (v47:Value):b6H cb N call v48 a0 v16 v17 v18 v19 vs22 v26 vs28 v32 v33 v34 v35 v36 v37 v38 v39 v41 v42 v43 v44 v46 v47=a6A cb N call v48 a0 v16 v17 v18 v19 vs22 v26 vs28 v32 v33 v34 v35 v36 v37 v38 v39 v41 v42 v43 v44 v46 v47:=by
 simp only [b6H,a6A,l5]
noncomputable def a8p (cb:Cb) (N:Nat) (call:j4) (v37:Value) (a0:Value) (v16:Value) (v17:Value) (v18:Value) (v19:Value) (vs22:List Value) (v26:Value) (vs28:List Value) (v32:Value) (v33:Value) (v34:Value) (v35:Value) (v36:Value) (v38:Value) (v39:Value):M R2:=
 cb.bv R2 (I7 .u64 v37) fun v41=>
 cb.bv R2 (q8 a0) fun v42=>
 cb.bv R2 (l9 4 v42) fun v43=>
 cb.bv R2 (l9 3 v43) fun v44=>
 cb.bv R2 (r9 1 v44 v41) fun v45=>
 cb.bv R2 (q8 a0) fun v46=>
 cb.bv R2 (l9 2 v46) fun v47=>
 cb.bv R2 (j5 v47) fun v48=>
 a6A cb N call v48 a0 v16 v17 v18 v19 vs22 v26 vs28 v32 v33 v34 v35 v36 v37 v38 v39 v41 v42 v43 v44 v46 v47
theorem c4H (cb:Cb) (N:Nat) (call:j4) (v37:Value) (a0:Value) (v16:Value) (v17:Value) (v18:Value) (v19:Value) (vs22:List Value) (v26:Value) (vs28:List Value) (v32:Value) (v33:Value) (v34:Value) (v35:Value) (v36:Value) (v38:Value) (v39:Value):b3w cb N call v37 a0 v16 v17 v18 v19 vs22 v26 vs28 v32 v33 v34 v35 v36 v38 v39=a8p cb N call v37 a0 v16 v17 v18 v19 vs22 v26 vs28 v32 v33 v34 v35 v36 v38 v39:=by
 simp only [b3w,a8p,c5e]
noncomputable def a9R (cb:Cb) (N:Nat) (call:j4) (v33:Value) (a0:Value) (v19:Value) (v16:Value) (v17:Value) (v18:Value) (vs22:List Value) (v26:Value) (vs28:List Value) (v32:Value):M R2:=
 cb.bv R2 (j5 v33) fun v34=>
 cb.bv R2 (J4 v34 (some (.int .i64 (.ofNat 7))) none) fun v35=>
 cb.bc R2 (call 81 [v35,(.int .i64 (.ofNat 4294967295))]) (fun v36=>
 cb.bv R2 (z8 0 v36) fun v37=>
 cb.bv R2 (z8 1 v36) fun v38=>
 cb.bv R2 (bq .neq 41 (.tmp 51) (.const (.int .i64 (.ofNat 0))) v38 (.int .i64 (.ofNat 0))) fun v39=>
 j6 v39 (
 a9F cb N call a0 v19 v38 v16 v17 v18 vs22 v26 vs28 v32 v33 v34 v35 v36 v37 v39) (
 a8p cb N call v37 a0 v16 v17 v18 v19 vs22 v26 vs28 v32 v33 v34 v35 v36 v38 v39)) l6
theorem c4Z (cb:Cb) (N:Nat) (call:j4) (v33:Value) (a0:Value) (v19:Value) (v16:Value) (v17:Value) (v18:Value) (vs22:List Value) (v26:Value) (vs28:List Value) (v32:Value):b6T cb N call v33 a0 v19 v16 v17 v18 vs22 v26 vs28 v32=a9R cb N call v33 a0 v19 v16 v17 v18 vs22 v26 vs28 v32:=by
 simp only [b6T,a9R,l5,c2l,c4H]
noncomputable def a8r (cb:Cb) (N:Nat) (call:j4) (v26:Value) (v19:Value) (a0:Value) (v16:Value) (v17:Value) (v18:Value) (vs22:List Value):M R2:=
 cb.bj R2 (l8 (o7 true v26) (cb.bv R2 (l9 2 v19) fun v29=>
 cb.bv R2 (j5 v29) fun v30=>
 cb.bc R2 (call 80 [v30,(.string ⟨⟨[111, 102, 102, 115, 101, 116, 61]⟩⟩)]) (fun v31=>
 M.pure (.normal, [v29,v30,v31])) l6) (M.pure (.normal, [undef,undef,undef]))) fun x27 vs28=>l7 x27 (cb.bv R2 (q9 v26 (d9 vs28 2) (.bool false)) fun v32=>
 j6 v32 (
 cb.bv R2 (l9 2 v19) fun v33=>
 a9R cb N call v33 a0 v19 v16 v17 v18 vs22 v26 vs28 v32) (
 d2E cb N call a0 v16 v17 v18 v19 vs22 v26 vs28 v32)) (fun _=>M.fail) M.fail l6
theorem c0o (cb:Cb) (N:Nat) (call:j4) (v26:Value) (v19:Value) (a0:Value) (v16:Value) (v17:Value) (v18:Value) (vs22:List Value):b1W cb N call v26 v19 a0 v16 v17 v18 vs22=a8r cb N call v26 v19 a0 v16 v17 v18 vs22:=by
 simp only [b1W,a8r,c4Z]
noncomputable def a8l (cb:Cb) (N:Nat) (call:j4) (v17:Value) (v18:Value) (a0:Value) (v16:Value):M R2:=
 cb.bv R2 (J6 [(.int .i64 (.ofNat 0)),(.int .i64 (.ofNat 0)),(.string ⟨⟨[]⟩⟩),(.slice none 0 0)]) fun v19=>
 cb.bv R2 (r9 4 v19 v17) fun v20=>
 cb.bj R2 (l8 (o7 true v18) (cb.bv R2 (l9 0 v19) fun v23=>
 cb.bv R2 (j5 v23) fun v24=>
 cb.bv R2 (bq .eql 117 (.tmp 36) (.const (.int .i64 (.ofNat 2))) v24 (.int .i64 (.ofNat 2))) fun v25=>
 M.pure (.normal, [v23,v24,v25])) (M.pure (.normal, [undef,undef,undef]))) fun x21 vs22=>l7 x21 (cb.bv R2 (q9 v18 (d9 vs22 2) (.bool false)) fun v26=>
 a8r cb N call v26 v19 a0 v16 v17 v18 vs22) (fun _=>M.fail) M.fail l6
theorem c4W (cb:Cb) (N:Nat) (call:j4) (v17:Value) (v18:Value) (a0:Value) (v16:Value):b8o cb N call v17 v18 a0 v16=a8l cb N call v17 v18 a0 v16:=by
 simp only [b8o,a8l,l5,c0o]
noncomputable def b0e (cb:Cb) (N:Nat) (call:j4) (a0:Value) (v56:Value) (v75:Value):M CR:=
 cb.bj CR (a9s call a0 undef undef undef v56 undef v75 undef undef undef undef) fun _ vs77=>
 M.pure (.ret (d9 vs77 8))
theorem c3o (cb:Cb) (N:Nat) (call:j4) (a0:Value) (v56:Value) (v75:Value):b8D cb N call a0 v56 v75=b0e cb N call a0 v56 v75:=by
 simp only [b8D,b0e,c2I,c1h]
noncomputable def a7Y (cb:Cb) (N:Nat) (call:j4) (a0:Value) (v56:Value):M CR:=
 cb.bj CR (a7b call a0 undef undef undef v56 undef undef undef undef) fun _ vs80=>
 M.pure (.ret (d9 vs80 7))
theorem c2t (cb:Cb) (N:Nat) (call:j4) (a0:Value) (v56:Value):b2W cb N call a0 v56=a7Y cb N call a0 v56:=by
 simp only [b2W,a7Y,c1t,c7y]
noncomputable def a7d (cb:Cb) (N:Nat) (call:j4) (v74:Value) (a0:Value):M CR:=
 cb.bc CR (call 188 [v74]) (fun v81=>
 cb.bv CR (q8 a0) fun v82=>
 cb.bv CR (l9 4 v82) fun v83=>
 cb.bv CR (l9 1 v83) fun v84=>
 cb.bv CR (r9 1 v84 v81) fun v85=>
 cb.bv CR (q8 a0) fun v86=>
 cb.bv CR (l9 2 v86) fun v87=>
 cb.bv CR (j5 v87) fun v88=>
 cb.bv CR (bq .add 3 (.tmp 128) (.const (.int .i64 (.ofNat 1))) v88 (.int .i64 (.ofNat 1))) fun v89=>
 cb.bv CR (q8 a0) fun v90=>
 cb.bv CR (l9 2 v90) fun v91=>
 cb.bv CR (r9 1 v91 v89) fun v92=>
 M.pure (.ret (.bool true))) l6
theorem c0A (cb:Cb) (N:Nat) (call:j4) (v74:Value) (a0:Value):b7v cb N call v74 a0=a7d cb N call v74 a0:=by
 simp only [b7v,a7d,l5]
noncomputable def a4y (cb:Cb) (N:Nat) (call:j4) (v74:Value) (a0:Value) (v56:Value):M CR:=
 cb.bc CR (call 187 [v74]) (fun v78=>
 cb.bv CR (bq .neq 3 (.tmp 110) (.const (.int .i64 (.ofNat 1))) v78 (.int .i64 (.ofNat 1))) fun v79=>
 j6 v79 (
 a7Y cb N call a0 v56) (
 a7d cb N call v74 a0)) l6
theorem b9F (cb:Cb) (N:Nat) (call:j4) (v74:Value) (a0:Value) (v56:Value):a8q cb N call v74 a0 v56=a4y cb N call v74 a0 v56:=by
 simp only [a8q,a4y,l5,c2t,c0A]
noncomputable def a4r (cb:Cb) (N:Nat) (call:j4) (v56:Value) (a0:Value):M CR:=
 cb.bv CR (l9 2 v56) fun v70=>
 cb.bv CR (j5 v70) fun v71=>
 cb.bv CR (J4 v71 (some (.int .i64 (.ofNat 6))) none) fun v72=>
 cb.bc CR (call 186 [v72,(.int .i64 (.ofNat 64))]) (fun v73=>
 cb.bv CR (z8 0 v73) fun v74=>
 cb.bv CR (z8 1 v73) fun v75=>
 cb.bv CR (bq .neq 41 (.tmp 98) (.const (.int .i64 (.ofNat 0))) v75 (.int .i64 (.ofNat 0))) fun v76=>
 j6 v76 (
 b0e cb N call a0 v56 v75) (
 a4y cb N call v74 a0 v56)) l6
theorem b9o (cb:Cb) (N:Nat) (call:j4) (v56:Value) (a0:Value):a8J cb N call v56 a0=a4r cb N call v56 a0:=by
 simp only [a8J,a4r,l5,c3o,b9F]
noncomputable def a4K (cb:Cb) (N:Nat) (call:j4) (v55:Value) (vs59:List Value) (v56:Value) (a0:Value):M CR:=
 cb.bv CR (q9 v55 (d9 vs59 2) (.bool false)) fun v63=>
 cb.bj CR (l8 (o7 true v63) (cb.bv R2 (l9 2 v56) fun v66=>
 cb.bv R2 (j5 v66) fun v67=>
 cb.bc R2 (call 80 [v67,(.string ⟨⟨[97, 108, 105, 103, 110, 61]⟩⟩)]) (fun v68=>
 M.pure (.normal, [v66,v67,v68])) l6) (M.pure (.normal, [undef,undef,undef]))) fun x64 vs65=>l7 x64 (cb.bv CR (q9 v63 (d9 vs65 2) (.bool false)) fun v69=>
 j6 v69 (
 a4r cb N call v56 a0) (
 M.pure (.ret (.bool true)))) (fun _=>M.fail) M.fail l6
theorem b9A (cb:Cb) (N:Nat) (call:j4) (v55:Value) (vs59:List Value) (v56:Value) (a0:Value):a9b cb N call v55 vs59 v56 a0=a4K cb N call v55 vs59 v56 a0:=by
 simp only [a9b,a4K,b9o]
noncomputable def a4N (cb:Cb) (N:Nat) (call:j4) (v54:Value) (v55:Value) (a0:Value):M CR:=
 cb.bv CR (J6 [(.int .i64 (.ofNat 0)),(.int .i64 (.ofNat 0)),(.string ⟨⟨[]⟩⟩),(.slice none 0 0)]) fun v56=>
 cb.bv CR (r9 4 v56 v54) fun v57=>
 cb.bj CR (l8 (o7 true v55) (cb.bv R2 (l9 0 v56) fun v60=>
 cb.bv R2 (j5 v60) fun v61=>
 cb.bv R2 (bq .eql 117 (.tmp 82) (.const (.int .i64 (.ofNat 2))) v61 (.int .i64 (.ofNat 2))) fun v62=>
 M.pure (.normal, [v60,v61,v62])) (M.pure (.normal, [undef,undef,undef]))) fun x58 vs59=>l7 x58 (a4K cb N call v55 vs59 v56 a0) (fun _=>M.fail) M.fail l6
theorem b9L (cb:Cb) (N:Nat) (call:j4) (v54:Value) (v55:Value) (a0:Value):a7h cb N call v54 v55 a0=a4N cb N call v54 v55 a0:=by
 simp only [a7h,a4N,l5,b9A]
noncomputable def a4V (cb:Cb) (N:Nat) (call:j4) (a0:Value):M CR:=
 cb.bj CR (cb.bc R2 (call 138 [a0]) (fun v16=>
 cb.bv R2 (z8 0 v16) fun v17=>
 cb.bv R2 (z8 1 v16) fun v18=>
 a8l cb N call v17 v18 a0 v16) l6) fun x14 vs15=>
 l7 x14 (cb.bc CR (call 138 [a0]) (fun v53=>
 cb.bv CR (z8 0 v53) fun v54=>
 cb.bv CR (z8 1 v53) fun v55=>
 a4N cb N call v54 v55 a0) l6) (fun _=>M.fail) (M.pure (.ret (d9 vs15 37))) l6
theorem b9I (cb:Cb) (N:Nat) (call:j4) (a0:Value):b0k cb N call a0=a4V cb N call a0:=by
 simp only [b0k,a4V,c4W,b9L]
noncomputable def a4D (cb:Cb) (N:Nat) (call:j4) (v0:Value) (a0:Value):M CR:=
 cb.bv CR (l9 4 v0) fun v1=>
 cb.bv CR (l9 0 v1) fun v2=>
 cb.bv CR (j5 v2) fun v3=>
 cb.bc CR (call 94 [v3]) (fun v4=>
 cb.bv CR (q8 a0) fun v5=>
 cb.bv CR (l9 4 v5) fun v6=>
 cb.bv CR (l9 1 v6) fun v7=>
 cb.bv CR (r9 1 v7 v4) fun v8=>
 cb.bv CR (q8 a0) fun v9=>
 cb.bv CR (l9 4 v9) fun v10=>
 cb.bv CR (l9 2 v10) fun v11=>
 cb.bc CR (call 143 [a0,(.int .i64 (.ofNat 3)),v11]) (fun v12=>
 cb.bv CR (un .not v12) fun v13=>
 j6 v13 (
 M.pure (.ret (.bool false))) (
 a4V cb N call a0)) l6) l6
theorem b9P (cb:Cb) (N:Nat) (call:j4) (v0:Value) (a0:Value):a6f cb N call v0 a0=a4D cb N call v0 a0:=by
 simp only [a6f,a4D,b9I]
noncomputable def b7s (cb:Cb) (N:Nat) (call:j4) (a0:Value):M CR:=
 cb.bv CR (q8 a0) fun v0=>
 a4D cb N call v0 a0
theorem c8u (cb:Cb) (N:Nat) (call:j4) (a0:Value):c5I cb N call a0=b7s cb N call a0:=by
 simp only [c5I,b7s,b9P]
noncomputable def b6s (call:j4) (u0:Value) (u1:Value) (u2:Value) (u3:Value) (u4:Value) (u5:Value) (u6:Value) (u7:Value) (u8:Value) (u9:Value) (u10:Value):M R2:=
 M.bind (M.foot (M.pure u3)) fun y0=>
 M.bind (M.foot (M.pure u3)) fun y1=>
 M.bind (M.foot (q8 y1.1)) fun y2=>
 M.bind (M.foot (l9 1 y2.1)) fun y3=>
 M.bind (M.foot (j5 y3.1)) fun y4=>
 M.bind (M.foot (M.pure u3)) fun y5=>
 M.bind (M.foot (q8 y5.1)) fun y6=>
 M.bind (M.foot (l9 2 y6.1)) fun y7=>
 M.bind (M.foot (j5 y7.1)) fun y8=>
 M.bind (M.foot (D7 call 181 [y0.1,y4.1,y8.1])) fun y9=>
 M.bind (M.foot (M.pure y9.1)) fun y10=>
 M.guard (G9 [(0, 1),(0, 2),(0, 3),(0, 4),(0, 5),(1, 5),(2, 5),(3, 5),(4, 5),(0, 6),(1, 6),(2, 6),(3, 6),(4, 6),(0, 7),(1, 7),(2, 7),(3, 7),(4, 7),(0, 8),(1, 8),(2, 8),(3, 8),(4, 8)] [y0.2,y1.2,y2.2,y3.2,y4.2,y5.2,y6.2,y7.2,y8.2,y9.2,y10.2]) (M.pure (.normal, [y0.1,y1.1,y2.1,y3.1,y4.1,y5.1,y6.1,y7.1,y8.1,y9.1,y10.1]))
theorem d1g (call:j4) (u0:Value) (u1:Value) (u2:Value) (u3:Value) (u4:Value) (u5:Value) (u6:Value) (u7:Value) (u8:Value) (u9:Value) (u10:Value):b2e call u0 u1 u2 u3 u4 u5 u6 u7 u8 u9 u10=b6s call u0 u1 u2 u3 u4 u5 u6 u7 u8 u9 u10:=by
 simp only [b2e,b6s,l5,fun F hl=>G6 (ops:=a3G) (L:=[(0, 1),(0, 2),(0, 3),(0, 4),(0, 5),(1, 5),(2, 5),(3, 5),(4, 5),(0, 6),(1, 6),(2, 6),(3, 6),(4, 6),(0, 7),(1, 7),(2, 7),(3, 7),(4, 7),(0, 8),(1, 8),(2, 8),(3, 8),(4, 8)]) (n:=11) (by kernel_rfl) (by kernel_rfl) F hl,D9,F7]
noncomputable def b7d (call:j4) (u0:Value) (u1:Value) (u2:Value) (u3:Value) (u4:Value) (u5:Value) (u6:Value) (u7:Value) (u8:Value) (u9:Value) (u10:Value):M R2:=
 M.bind (M.foot (M.pure u0)) fun y0=>
 M.bind (M.foot (q8 y0.1)) fun y1=>
 M.bind (M.foot (l9 0 y1.1)) fun y2=>
 M.bind (M.foot (j5 y2.1)) fun y3=>
 M.bind (M.foot (l9 1 u4)) fun y4=>
 M.bind (M.foot (j5 y4.1)) fun y5=>
 M.bind (M.foot (M.pure u6)) fun y6=>
 M.bind (M.foot (D7 call 72 [y3.1,y5.1,y6.1])) fun y7=>
 M.bind (M.foot (M.pure y7.1)) fun y8=>
 M.guard (G9 [(0, 4),(1, 4),(2, 4),(3, 4),(0, 5),(1, 5),(2, 5),(3, 5),(0, 6),(1, 6),(2, 6),(3, 6),(4, 6),(5, 6)] [y0.2,y1.2,y2.2,y3.2,y4.2,y5.2,y6.2,y7.2,y8.2]) (M.pure (.normal, [y0.1,y1.1,y2.1,y3.1,y4.1,y5.1,y6.1,y7.1,y8.1]))
theorem c9Z (call:j4) (u0:Value) (u1:Value) (u2:Value) (u3:Value) (u4:Value) (u5:Value) (u6:Value) (u7:Value) (u8:Value) (u9:Value) (u10:Value):b7J call u0 u1 u2 u3 u4 u5 u6 u7 u8 u9 u10=b7d call u0 u1 u2 u3 u4 u5 u6 u7 u8 u9 u10:=by
 simp only [b7J,b7d,l5,fun F hl=>G6 (ops:=a3q) (L:=[(0, 4),(1, 4),(2, 4),(3, 4),(0, 5),(1, 5),(2, 5),(3, 5),(0, 6),(1, 6),(2, 6),(3, 6),(4, 6),(5, 6)]) (n:=9) (by kernel_rfl) (by kernel_rfl) F hl,D9,F7]
noncomputable def a9j (cb:Cb) (N:Nat) (call:j4) (a0:Value):M CR:=
 cb.bj CR (b6s call undef undef undef a0 undef undef undef undef undef undef undef) fun _ vs12=>
 M.pure (.ret (d9 vs12 10))
theorem c1g (cb:Cb) (N:Nat) (call:j4) (a0:Value):b4f cb N call a0=a9j cb N call a0:=by
 simp only [b4f,a9j,d0Q,d1g]
noncomputable def a6p (cb:Cb) (N:Nat) (call:j4) (a0:Value) (v3:Value) (v17:Value):M CR:=
 cb.bj CR (b7d call a0 undef undef undef v3 undef v17 undef undef undef undef) fun _ vs19=>
 M.pure (.ret (d9 vs19 8))
theorem c5g (cb:Cb) (N:Nat) (call:j4) (a0:Value) (v3:Value) (v17:Value):b6V cb N call a0 v3 v17=a6p cb N call a0 v3 v17:=by
 simp only [b6V,a6p,c8T,c9Z]
noncomputable def b0p (cb:Cb) (N:Nat) (call:j4) (a0:Value) (v16:Value):M CR:=
 cb.bv CR (q8 a0) fun v20=>
 cb.bv CR (l9 4 v20) fun v21=>
 cb.bv CR (l9 3 v21) fun v22=>
 cb.bv CR (r9 1 v22 v16) fun v23=>
 cb.bv CR (q8 a0) fun v24=>
 cb.bv CR (l9 2 v24) fun v25=>
 cb.bv CR (j5 v25) fun v26=>
 cb.bv CR (bq .add 3 (.tmp 56) (.const (.int .i64 (.ofNat 1))) v26 (.int .i64 (.ofNat 1))) fun v27=>
 cb.bv CR (q8 a0) fun v28=>
 cb.bv CR (l9 2 v28) fun v29=>
 cb.bv CR (r9 1 v29 v27) fun v30=>
 M.pure (.ret (.bool true))
theorem c6m (cb:Cb) (N:Nat) (call:j4) (a0:Value) (v16:Value):b5j cb N call a0 v16=b0p cb N call a0 v16:=by
 simp only [b5j,b0p,l5]
noncomputable def a6C (cb:Cb) (N:Nat) (call:j4) (v3:Value) (a1:Value) (a0:Value):M CR:=
 cb.bv CR (l9 2 v3) fun v13=>
 cb.bv CR (j5 v13) fun v14=>
 cb.bc CR (call 186 [v14,a1]) (fun v15=>
 cb.bv CR (z8 0 v15) fun v16=>
 cb.bv CR (z8 1 v15) fun v17=>
 cb.bv CR (bq .neq 41 (.tmp 38) (.const (.int .i64 (.ofNat 0))) v17 (.int .i64 (.ofNat 0))) fun v18=>
 j6 v18 (
 a6p cb N call a0 v3 v17) (
 b0p cb N call a0 v16)) l6
theorem c1Z (cb:Cb) (N:Nat) (call:j4) (v3:Value) (a1:Value) (a0:Value):b3A cb N call v3 a1 a0=a6C cb N call v3 a1 a0:=by
 simp only [b3A,a6C,l5,c5g,c6m]
noncomputable def a6L (cb:Cb) (N:Nat) (call:j4) (v3:Value) (v1:Value) (v2:Value) (a0:Value) (a1:Value):M CR:=
 cb.bv CR (r9 4 v3 v1) fun v4=>
 cb.bv CR (un .not v2) fun v5=>
 cb.bj CR (l8 (o7 false v5) (cb.bv R2 (l9 0 v3) fun v8=>
 cb.bv R2 (j5 v8) fun v9=>
 cb.bv R2 (bq .neq 117 (.tmp 18) (.const (.int .i64 (.ofNat 2))) v9 (.int .i64 (.ofNat 2))) fun v10=>
 M.pure (.normal, [v8,v9,v10])) (M.pure (.normal, [undef,undef,undef]))) fun x6 vs7=>l7 x6 (cb.bv CR (q9 v5 (.bool true) (d9 vs7 2)) fun v11=>
 j6 v11 (
 a9j cb N call a0) (
 a6C cb N call v3 a1 a0)) (fun _=>M.fail) M.fail l6
theorem c3v (cb:Cb) (N:Nat) (call:j4) (v3:Value) (v1:Value) (v2:Value) (a0:Value) (a1:Value):b4c cb N call v3 v1 v2 a0 a1=a6L cb N call v3 v1 v2 a0 a1:=by
 simp only [b4c,a6L,l5,c1g,c1Z]
noncomputable def b3O (cb:Cb) (N:Nat) (call:j4) (a0:Value) (a1:Value):M CR:=
 cb.bc CR (call 138 [a0]) (fun v0=>
 cb.bv CR (z8 0 v0) fun v1=>
 cb.bv CR (z8 1 v0) fun v2=>
 cb.bv CR (J6 [(.int .i64 (.ofNat 0)),(.int .i64 (.ofNat 0)),(.string ⟨⟨[]⟩⟩),(.slice none 0 0)]) fun v3=>
 a6L cb N call v3 v1 v2 a0 a1) l6
theorem d2l (cb:Cb) (N:Nat) (call:j4) (a0:Value) (a1:Value):c1n cb N call a0 a1=b3O cb N call a0 a1:=by
 simp only [c1n,b3O,c3v]
noncomputable def b2C (call:j4) (u0:Value) (u1:Value) (u2:Value) (u3:Value) (u4:Value) (u5:Value) (u6:Value) (u7:Value) (u8:Value) (u9:Value) (u10:Value):M R2:=
 M.bind (M.foot (M.pure u3)) fun y0=>
 M.bind (M.foot (M.pure u3)) fun y1=>
 M.bind (M.foot (q8 y1.1)) fun y2=>
 M.bind (M.foot (l9 1 y2.1)) fun y3=>
 M.bind (M.foot (j5 y3.1)) fun y4=>
 M.bind (M.foot (M.pure u3)) fun y5=>
 M.bind (M.foot (q8 y5.1)) fun y6=>
 M.bind (M.foot (l9 2 y6.1)) fun y7=>
 M.bind (M.foot (j5 y7.1)) fun y8=>
 M.bind (M.foot (D7 call 181 [y0.1,y4.1,y8.1])) fun y9=>
 M.bind (M.foot (M.pure y9.1)) fun y10=>
 M.guard (G9 [(0, 1),(0, 2),(0, 3),(0, 4),(0, 5),(1, 5),(2, 5),(3, 5),(4, 5),(0, 6),(1, 6),(2, 6),(3, 6),(4, 6),(0, 7),(1, 7),(2, 7),(3, 7),(4, 7),(0, 8),(1, 8),(2, 8),(3, 8),(4, 8)] [y0.2,y1.2,y2.2,y3.2,y4.2,y5.2,y6.2,y7.2,y8.2,y9.2,y10.2]) (M.pure (.normal, [y0.1,y1.1,y2.1,y3.1,y4.1,y5.1,y6.1,y7.1,y8.1,y9.1,y10.1]))
theorem d1Q (call:j4) (u0:Value) (u1:Value) (u2:Value) (u3:Value) (u4:Value) (u5:Value) (u6:Value) (u7:Value) (u8:Value) (u9:Value) (u10:Value):b3k call u0 u1 u2 u3 u4 u5 u6 u7 u8 u9 u10=b2C call u0 u1 u2 u3 u4 u5 u6 u7 u8 u9 u10:=by
 simp only [b3k,b2C,l5,fun F hl=>G6 (ops:=a3x) (L:=[(0, 1),(0, 2),(0, 3),(0, 4),(0, 5),(1, 5),(2, 5),(3, 5),(4, 5),(0, 6),(1, 6),(2, 6),(3, 6),(4, 6),(0, 7),(1, 7),(2, 7),(3, 7),(4, 7),(0, 8),(1, 8),(2, 8),(3, 8),(4, 8)]) (n:=11) (by kernel_rfl) (by kernel_rfl) F hl,D9,F7]
noncomputable def b4Z (call:j4) (u0:Value) (u1:Value) (u2:Value) (u3:Value) (u4:Value) (u5:Value) (u6:Value) (u7:Value) (u8:Value):M R2:=
 M.bind (M.foot (M.pure u0)) fun y0=>
 M.bind (M.foot (q8 y0.1)) fun y1=>
 M.bind (M.foot (l9 0 y1.1)) fun y2=>
 M.bind (M.foot (j5 y2.1)) fun y3=>
 M.bind (M.foot (l9 1 u4)) fun y4=>
 M.bind (M.foot (j5 y4.1)) fun y5=>
 M.bind (M.foot (D7 call 72 [y3.1,y5.1,(.int .i64 (.ofNat 12))])) fun y6=>
 M.bind (M.foot (M.pure y6.1)) fun y7=>
 M.guard (G9 [(0, 4),(1, 4),(2, 4),(3, 4),(0, 5),(1, 5),(2, 5),(3, 5)] [y0.2,y1.2,y2.2,y3.2,y4.2,y5.2,y6.2,y7.2]) (M.pure (.normal, [y0.1,y1.1,y2.1,y3.1,y4.1,y5.1,y6.1,y7.1]))
theorem c9T (call:j4) (u0:Value) (u1:Value) (u2:Value) (u3:Value) (u4:Value) (u5:Value) (u6:Value) (u7:Value) (u8:Value):b4d call u0 u1 u2 u3 u4 u5 u6 u7 u8=b4Z call u0 u1 u2 u3 u4 u5 u6 u7 u8:=by
 simp only [b4d,b4Z,l5,fun F hl=>G6 (ops:=a3v) (L:=[(0, 4),(1, 4),(2, 4),(3, 4),(0, 5),(1, 5),(2, 5),(3, 5)]) (n:=8) (by kernel_rfl) (by kernel_rfl) F hl,D9,F7]
noncomputable def a7J (cb:Cb) (N:Nat) (call:j4) (a0:Value):M CR:=
 cb.bj CR (b2C call undef undef undef a0 undef undef undef undef undef undef undef) fun _ vs12=>
 M.pure (.ret (d9 vs12 10))
theorem c4o (cb:Cb) (N:Nat) (call:j4) (a0:Value):b6j cb N call a0=a7J cb N call a0:=by
 simp only [b6j,a7J,c9p,d1Q]
noncomputable def a9w (cb:Cb) (N:Nat) (call:j4) (a0:Value) (v3:Value) (v15:Value) (v16:Value) (v17:Value) (v22:Value):M R2:=
 cb.bj R2 (b4Z call a0 undef undef undef v3 undef undef undef undef) fun _ vs27=>
 M.pure (.ret, [v15,v16,v17,v17,undef,undef,undef,undef,v22,v22,undef,undef,undef,undef,(d9 vs27 0),(d9 vs27 1),(d9 vs27 2),(d9 vs27 3),(d9 vs27 4),(d9 vs27 5),(d9 vs27 6),(d9 vs27 7)])
theorem c1U (cb:Cb) (N:Nat) (call:j4) (a0:Value) (v3:Value) (v15:Value) (v16:Value) (v17:Value) (v22:Value):b2o cb N call a0 v3 v15 v16 v17 v22=a9w cb N call a0 v3 v15 v16 v17 v22:=by
 simp only [b2o,a9w,d2s,c9T]
noncomputable def a6N (cb:Cb) (N:Nat) (call:j4) (v16:Value) (a0:Value) (v15:Value) (v17:Value) (v3:Value):M R2:=
 cb.bv R2 (bq .eql 9 (.tmp 28) (.const (.string ⟨⟨[101, 120, 116, 101, 114, 110]⟩⟩)) v16 (.string ⟨⟨[101, 120, 116, 101, 114, 110]⟩⟩)) fun v22=>
 j6 v22 (
 c8E cb N call a0 v15 v16 v17 v22) (
 a9w cb N call a0 v3 v15 v16 v17 v22)
theorem c2T (cb:Cb) (N:Nat) (call:j4) (v16:Value) (a0:Value) (v15:Value) (v17:Value) (v3:Value):b3S cb N call v16 a0 v15 v17 v3=a6N cb N call v16 a0 v15 v17 v3:=by
 simp only [b3S,a6N,l5,c1U]
noncomputable def a7v (cb:Cb) (N:Nat) (call:j4) (v3:Value) (a0:Value):M CR:=
 cb.bj CR (cb.bv R2 (l9 2 v3) fun v15=>
 cb.bv R2 (j5 v15) fun v16=>
 cb.bv R2 (bq .eql 9 (.tmp 28) (.const (.string ⟨⟨[102, 117, 110, 99]⟩⟩)) v16 (.string ⟨⟨[102, 117, 110, 99]⟩⟩)) fun v17=>
 j6 v17 (
 d2g cb N call a0 v15 v16 v17) (
 a6N cb N call v16 a0 v15 v17 v3)) fun x13 vs14=>
 l7 x13 (cb.bv CR (q8 a0) fun v28=>
 cb.bv CR (l9 2 v28) fun v29=>
 cb.bv CR (j5 v29) fun v30=>
 cb.bv CR (bq .add 3 (.tmp 51) (.const (.int .i64 (.ofNat 1))) v30 (.int .i64 (.ofNat 1))) fun v31=>
 cb.bv CR (q8 a0) fun v32=>
 cb.bv CR (l9 2 v32) fun v33=>
 cb.bv CR (r9 1 v33 v31) fun v34=>
 M.pure (.ret (.bool true))) (fun _=>M.fail) (M.pure (.ret (d9 vs14 21))) l6
theorem c6A (cb:Cb) (N:Nat) (call:j4) (v3:Value) (a0:Value):b5d cb N call v3 a0=a7v cb N call v3 a0:=by
 simp only [b5d,a7v,l5,c2T]
noncomputable def a6V (cb:Cb) (N:Nat) (call:j4) (v3:Value) (v1:Value) (v2:Value) (a0:Value):M CR:=
 cb.bv CR (r9 4 v3 v1) fun v4=>
 cb.bv CR (un .not v2) fun v5=>
 cb.bj CR (l8 (o7 false v5) (cb.bv R2 (l9 0 v3) fun v8=>
 cb.bv R2 (j5 v8) fun v9=>
 cb.bv R2 (bq .neq 117 (.tmp 14) (.const (.int .i64 (.ofNat 2))) v9 (.int .i64 (.ofNat 2))) fun v10=>
 M.pure (.normal, [v8,v9,v10])) (M.pure (.normal, [undef,undef,undef]))) fun x6 vs7=>l7 x6 (cb.bv CR (q9 v5 (.bool true) (d9 vs7 2)) fun v11=>
 j6 v11 (
 a7J cb N call a0) (
 a7v cb N call v3 a0)) (fun _=>M.fail) M.fail l6
theorem c1u (cb:Cb) (N:Nat) (call:j4) (v3:Value) (v1:Value) (v2:Value) (a0:Value):b5n cb N call v3 v1 v2 a0=a6V cb N call v3 v1 v2 a0:=by
 simp only [b5n,a6V,l5,c4o,c6A]
noncomputable def b5O (cb:Cb) (N:Nat) (call:j4) (a0:Value):M CR:=
 cb.bc CR (call 138 [a0]) (fun v0=>
 cb.bv CR (z8 0 v0) fun v1=>
 cb.bv CR (z8 1 v0) fun v2=>
 cb.bv CR (J6 [(.int .i64 (.ofNat 0)),(.int .i64 (.ofNat 0)),(.string ⟨⟨[]⟩⟩),(.slice none 0 0)]) fun v3=>
 a6V cb N call v3 v1 v2 a0) l6
theorem d0a (cb:Cb) (N:Nat) (call:j4) (a0:Value):c0y cb N call a0=b5O cb N call a0:=by
 simp only [c0y,b5O,c1u]
noncomputable def a7G (cb:Cb) (N:Nat) (call:j4) (a0:Value):M CR:=
 cb.bv CR (bq .sub 5 (.tmp 10) (.const (.int .u8 (.ofNat 48))) a0 (.int .u8 (.ofNat 48))) fun v5=>
 cb.bv CR (I7 .i64 v5) fun v6=>
 M.pure (.ret v6)
theorem c5k (cb:Cb) (N:Nat) (call:j4) (a0:Value):b8C cb N call a0=a7G cb N call a0:=by
 simp only [b8C,a7G,l5]
noncomputable def a6R (cb:Cb) (N:Nat) (call:j4) (a0:Value):M CR:=
 cb.bv CR (bq .sub 5 (.tmp 20) (.const (.int .u8 (.ofNat 97))) a0 (.int .u8 (.ofNat 97))) fun v12=>
 cb.bv CR (I7 .i64 v12) fun v13=>
 cb.bv CR (bq .add 3 (.tmp 22) (.const (.int .i64 (.ofNat 10))) v13 (.int .i64 (.ofNat 10))) fun v14=>
 M.pure (.ret v14)
theorem c1y (cb:Cb) (N:Nat) (call:j4) (a0:Value):b3Z cb N call a0=a6R cb N call a0:=by
 simp only [b3Z,a6R,l5]
noncomputable def a9a (cb:Cb) (N:Nat) (call:j4) (a0:Value):M CR:=
 cb.bv CR (bq .sub 5 (.tmp 31) (.const (.int .u8 (.ofNat 65))) a0 (.int .u8 (.ofNat 65))) fun v20=>
 cb.bv CR (I7 .i64 v20) fun v21=>
 cb.bv CR (bq .add 3 (.tmp 33) (.const (.int .i64 (.ofNat 10))) v21 (.int .i64 (.ofNat 10))) fun v22=>
 M.pure (.ret v22)
theorem c4S (cb:Cb) (N:Nat) (call:j4) (a0:Value):b3r cb N call a0=a9a cb N call a0:=by
 simp only [b3r,a9a,l5]
noncomputable def a8I (cb:Cb) (N:Nat) (call:j4) (a0:Value):M CR:=
 cb.bv CR (bq .geq 5 (.tmp 25) (.const (.int .u8 (.ofNat 65))) a0 (.int .u8 (.ofNat 65))) fun v15=>
 cb.bj CR (l8 (o7 true v15) (cb.bv R2 (bq .leq 5 (.tmp 28) (.const (.int .u8 (.ofNat 70))) a0 (.int .u8 (.ofNat 70))) fun v18=>
 M.pure (.normal, [a0,v18])) (M.pure (.normal, [undef,undef]))) fun x16 vs17=>l7 x16 (cb.bv CR (q9 v15 (d9 vs17 1) (.bool false)) fun v19=>
 j6 v19 (
 a9a cb N call a0) (
 M.pure (.ret (.int .i64 (.negSucc 0))))) (fun _=>M.fail) M.fail l6
theorem c7s (cb:Cb) (N:Nat) (call:j4) (a0:Value):b5i cb N call a0=a8I cb N call a0:=by
 simp only [b5i,a8I,l5,c4S]
noncomputable def b0o (cb:Cb) (N:Nat) (call:j4) (a0:Value):M CR:=
 cb.bv CR (bq .geq 5 (.tmp 14) (.const (.int .u8 (.ofNat 97))) a0 (.int .u8 (.ofNat 97))) fun v7=>
 cb.bj CR (l8 (o7 true v7) (cb.bv R2 (bq .leq 5 (.tmp 17) (.const (.int .u8 (.ofNat 102))) a0 (.int .u8 (.ofNat 102))) fun v10=>
 M.pure (.normal, [a0,v10])) (M.pure (.normal, [undef,undef]))) fun x8 vs9=>l7 x8 (cb.bv CR (q9 v7 (d9 vs9 1) (.bool false)) fun v11=>
 j6 v11 (
 a6R cb N call a0) (
 a8I cb N call a0)) (fun _=>M.fail) M.fail l6
theorem c5A (cb:Cb) (N:Nat) (call:j4) (a0:Value):b1F cb N call a0=b0o cb N call a0:=by
 simp only [b1F,b0o,l5,c1y,c7s]
noncomputable def b3f (cb:Cb) (N:Nat) (call:j4) (a0:Value):M CR:=
 cb.bv CR (bq .geq 5 (.tmp 4) (.const (.int .u8 (.ofNat 48))) a0 (.int .u8 (.ofNat 48))) fun v0=>
 cb.bj CR (l8 (o7 true v0) (cb.bv R2 (bq .leq 5 (.tmp 7) (.const (.int .u8 (.ofNat 57))) a0 (.int .u8 (.ofNat 57))) fun v3=>
 M.pure (.normal, [a0,v3])) (M.pure (.normal, [undef,undef]))) fun x1 vs2=>l7 x1 (cb.bv CR (q9 v0 (d9 vs2 1) (.bool false)) fun v4=>
 j6 v4 (
 a7G cb N call a0) (
 b0o cb N call a0)) (fun _=>M.fail) M.fail l6
theorem c8l (cb:Cb) (N:Nat) (call:j4) (a0:Value):c7x cb N call a0=b3f cb N call a0:=by
 simp only [c7x,b3f,l5,c5k,c5A]
noncomputable def b7w (call:j4) (u0:Value) (u1:Value) (u2:Value) (u3:Value) (u4:Value) (u5:Value) (u6:Value) (u7:Value) (u8:Value) (u9:Value) (u10:Value) (u11:Value) (u12:Value):M R2:=
 M.bind (M.foot (M.pure u0)) fun y0=>
 M.bind (M.foot (q8 y0.1)) fun y1=>
 M.bind (M.foot (l9 0 y1.1)) fun y2=>
 M.bind (M.foot (j5 y2.1)) fun y3=>
 M.bind (M.foot (M.pure u4)) fun y4=>
 M.bind (M.foot (M.pure u5)) fun y5=>
 M.bind (M.foot (F3 4 y4.1 y5.1)) fun y6=>
 M.bind (M.foot (l9 1 y6.1)) fun y7=>
 M.bind (M.foot (j5 y7.1)) fun y8=>
 M.bind (M.foot (D7 call 72 [y3.1,y8.1,(.int .i64 (.ofNat 4))])) fun y9=>
 M.bind (M.foot (M.pure y9.1)) fun y10=>
 M.guard (G9 [(0, 4),(1, 4),(2, 4),(3, 4),(0, 5),(1, 5),(2, 5),(3, 5),(4, 5),(0, 6),(1, 6),(2, 6),(3, 6),(0, 7),(1, 7),(2, 7),(3, 7),(0, 8),(1, 8),(2, 8),(3, 8)] [y0.2,y1.2,y2.2,y3.2,y4.2,y5.2,y6.2,y7.2,y8.2,y9.2,y10.2]) (M.pure (.normal, [y0.1,y1.1,y2.1,y3.1,y4.1,y5.1,y6.1,y7.1,y8.1,y9.1,y10.1]))
theorem d1C (call:j4) (u0:Value) (u1:Value) (u2:Value) (u3:Value) (u4:Value) (u5:Value) (u6:Value) (u7:Value) (u8:Value) (u9:Value) (u10:Value) (u11:Value) (u12:Value):b4L call u0 u1 u2 u3 u4 u5 u6 u7 u8 u9 u10 u11 u12=b7w call u0 u1 u2 u3 u4 u5 u6 u7 u8 u9 u10 u11 u12:=by
 simp only [b4L,b7w,l5,fun F hl=>G6 (ops:=a3z) (L:=[(0, 4),(1, 4),(2, 4),(3, 4),(0, 5),(1, 5),(2, 5),(3, 5),(4, 5),(0, 6),(1, 6),(2, 6),(3, 6),(0, 7),(1, 7),(2, 7),(3, 7),(0, 8),(1, 8),(2, 8),(3, 8)]) (n:=11) (by kernel_rfl) (by kernel_rfl) F hl,D9,F7]
noncomputable def b2w (call:j4) (u0:Value) (u1:Value) (u2:Value) (u3:Value) (u4:Value) (u5:Value) (u6:Value) (u7:Value) (u8:Value) (u9:Value):M R2:=
 M.bind (M.foot (M.pure u3)) fun y0=>
 M.bind (M.foot (q8 y0.1)) fun y1=>
 M.bind (M.foot (l9 0 y1.1)) fun y2=>
 M.bind (M.foot (j5 y2.1)) fun y3=>
 M.bind (M.foot (M.pure u3)) fun y4=>
 M.bind (M.foot (q8 y4.1)) fun y5=>
 M.bind (M.foot (l9 3 y5.1)) fun y6=>
 M.bind (M.foot (j5 y6.1)) fun y7=>
 M.bind (M.foot (D7 call 72 [y3.1,y7.1,(.int .i64 (.ofNat 4))])) fun y8=>
 M.bind (M.foot (M.pure y8.1)) fun y9=>
 M.guard (G9 [(0, 4),(1, 4),(2, 4),(3, 4),(0, 5),(1, 5),(2, 5),(3, 5),(0, 6),(1, 6),(2, 6),(3, 6),(0, 7),(1, 7),(2, 7),(3, 7)] [y0.2,y1.2,y2.2,y3.2,y4.2,y5.2,y6.2,y7.2,y8.2,y9.2]) (M.pure (.normal, [y0.1,y1.1,y2.1,y3.1,y4.1,y5.1,y6.1,y7.1,y8.1,y9.1]))
theorem c8r (call:j4) (u0:Value) (u1:Value) (u2:Value) (u3:Value) (u4:Value) (u5:Value) (u6:Value) (u7:Value) (u8:Value) (u9:Value):b2M call u0 u1 u2 u3 u4 u5 u6 u7 u8 u9=b2w call u0 u1 u2 u3 u4 u5 u6 u7 u8 u9:=by
 simp only [b2M,b2w,l5,fun F hl=>G6 (ops:=a2R) (L:=[(0, 4),(1, 4),(2, 4),(3, 4),(0, 5),(1, 5),(2, 5),(3, 5),(0, 6),(1, 6),(2, 6),(3, 6),(0, 7),(1, 7),(2, 7),(3, 7)]) (n:=10) (by kernel_rfl) (by kernel_rfl) F hl,D9,F7]
noncomputable def a7c (cb:Cb) (N:Nat) (call:j4) (a0:Value) (a1:Value) (a2:Value):M CR:=
 cb.bj CR (b7w call a0 undef undef undef a1 a2 undef undef undef undef undef undef undef) fun _ vs2=>
 M.pure (.ret (d9 vs2 10))
theorem c7v (cb:Cb) (N:Nat) (call:j4) (a0:Value) (a1:Value) (a2:Value):b1K cb N call a0 a1 a2=a7c cb N call a0 a1 a2:=by
 simp only [b1K,a7c,c9m,d1C]
noncomputable def a9C (cb:Cb) (N:Nat) (call:j4) (a0:Value):M CR:=
 cb.bj CR (b2w call undef undef undef a0 undef undef undef undef undef undef) fun _ vs3=>
 M.pure (.ret (d9 vs3 9))
theorem c4u (cb:Cb) (N:Nat) (call:j4) (a0:Value):b8x cb N call a0=a9C cb N call a0:=by
 simp only [b8x,a9C,d2m,c8r]
noncomputable def b5W (cb:Cb) (N:Nat) (call:j4) (a0:Value) (a1:Value) (a2:Value):M CR:=
 cb.bv CR (H6 a1) fun v0=>
 cb.bv CR (bq .lss 3 (.tmp 7) (.tmp 9) a2 v0) fun v1=>
 j6 v1 (
 a7c cb N call a0 a1 a2) (
 a9C cb N call a0)
theorem d1A (cb:Cb) (N:Nat) (call:j4) (a0:Value) (a1:Value) (a2:Value):c0P cb N call a0 a1 a2=b5W cb N call a0 a1 a2:=by
 simp only [c0P,b5W,l5,c7v,c4u]
noncomputable def a7i (cb:Cb) (N:Nat) (call:j4) (xs0:List Value) (v3:Value) (v4:Value) (a0:Value) (v5:Value):M R2:=
 cb.bv R2 (bq .add 24 (.tmp 7) (.const (.int .i64 (.ofNat 1))) (d9 xs0 11) (.int .i64 (.ofNat 1))) fun v6=>
 M.pure (.normal, [(d9 xs0 11),v3,(d9 xs0 11),v4,a0,v5,(d9 xs0 6),(d9 xs0 7),(d9 xs0 8),(d9 xs0 11),v6,v6])
theorem c4T (cb:Cb) (N:Nat) (call:j4) (xs0:List Value) (v3:Value) (v4:Value) (a0:Value) (v5:Value):b6Q cb N call xs0 v3 v4 a0 v5=a7i cb N call xs0 v3 v4 a0 v5:=by
 simp only [b6Q,a7i,l5]
noncomputable def a7I (cb:Cb) (N:Nat) (call:j4) (xs0:List Value) (a0:Value) (v3:Value):M R2:=
 cb.bc R2 (call 40 [(d9 xs0 11)]) (fun v4=>
 cb.bv R2 (bq .eql 9 (.tmp 10) (.tmp 11) v4 a0) fun v5=>
 j6 v5 (
 M.pure (.ret, [(d9 xs0 11),v3,(d9 xs0 11),v4,a0,v5,(d9 xs0 11),(d9 xs0 11),(.bool true),(d9 xs0 9),(d9 xs0 10),(d9 xs0 11)])) (
 a7i cb N call xs0 v3 v4 a0 v5)) l6
theorem c3d (cb:Cb) (N:Nat) (call:j4) (xs0:List Value) (a0:Value) (v3:Value):b5g cb N call xs0 a0 v3=a7I cb N call xs0 a0 v3:=by
 simp only [b5g,a7I,l5,c4T]
noncomputable def a6S (cb:Cb) (N:Nat) (call:j4) (a0:Value) (xs0:List Value):M R2:=
 cb.bv R2 (bq .leq 24 (.tmp 5) (.const (.int .i64 (.ofNat 4))) (d9 xs0 11) (.int .i64 (.ofNat 4))) fun v3=>
 j6 v3 (
 a7I cb N call xs0 a0 v3) (
 c8o cb N call xs0 v3)
theorem c1L (cb:Cb) (N:Nat) (call:j4) (a0:Value):b6G cb N call a0=a6S cb N call a0:=by
 funext xs0
 simp only [b6G,a6S,l5,c3d]
noncomputable def b2L (cb:Cb) (N:Nat) (call:j4) (a0:Value):M CR:=
 cb.bj CR (cb.lp (a6S cb N call a0) N [undef,undef,undef,undef,undef,undef,undef,(.int .i64 (.ofNat 0)),(.bool false),undef,undef,(.int .i64 (.ofNat 1))]) fun x1 vs2=>
 l7 x1 (M.fail) (fun i7=>l8 (Nat.beq i7 0) (M.pure (.ret (.tuple ⟨[(.int .i64 (.ofNat 0)),(.bool false)]⟩))) (M.fail)) (M.pure (.ret (.tuple ⟨[(d9 vs2 7),(d9 vs2 8)]⟩))) l6
theorem c9x (cb:Cb) (N:Nat) (call:j4) (a0:Value):c5E cb N call a0=b2L cb N call a0:=by
 simp only [c5E,b2L,c1L]
noncomputable def b1B (call:j4) (u0:Value) (u1:Value) (u2:Value) (u3:Value) (u4:Value) (u5:Value) (u6:Value) (u7:Value) (u8:Value) (u9:Value) (u10:Value):M R2:=
 M.bind (M.foot (M.pure u3)) fun y0=>
 M.bind (M.foot (M.pure u3)) fun y1=>
 M.bind (M.foot (q8 y1.1)) fun y2=>
 M.bind (M.foot (l9 1 y2.1)) fun y3=>
 M.bind (M.foot (j5 y3.1)) fun y4=>
 M.bind (M.foot (M.pure u3)) fun y5=>
 M.bind (M.foot (q8 y5.1)) fun y6=>
 M.bind (M.foot (l9 2 y6.1)) fun y7=>
 M.bind (M.foot (j5 y7.1)) fun y8=>
 M.bind (M.foot (D7 call 181 [y0.1,y4.1,y8.1])) fun y9=>
 M.bind (M.foot (M.pure y9.1)) fun y10=>
 M.guard (G9 [(0, 1),(0, 2),(0, 3),(0, 4),(0, 5),(1, 5),(2, 5),(3, 5),(4, 5),(0, 6),(1, 6),(2, 6),(3, 6),(4, 6),(0, 7),(1, 7),(2, 7),(3, 7),(4, 7),(0, 8),(1, 8),(2, 8),(3, 8),(4, 8)] [y0.2,y1.2,y2.2,y3.2,y4.2,y5.2,y6.2,y7.2,y8.2,y9.2,y10.2]) (M.pure (.normal, [y0.1,y1.1,y2.1,y3.1,y4.1,y5.1,y6.1,y7.1,y8.1,y9.1,y10.1]))
theorem d2Q (call:j4) (u0:Value) (u1:Value) (u2:Value) (u3:Value) (u4:Value) (u5:Value) (u6:Value) (u7:Value) (u8:Value) (u9:Value) (u10:Value):b7t call u0 u1 u2 u3 u4 u5 u6 u7 u8 u9 u10=b1B call u0 u1 u2 u3 u4 u5 u6 u7 u8 u9 u10:=by
 simp only [b7t,b1B,l5,fun F hl=>G6 (ops:=a3r) (L:=[(0, 1),(0, 2),(0, 3),(0, 4),(0, 5),(1, 5),(2, 5),(3, 5),(4, 5),(0, 6),(1, 6),(2, 6),(3, 6),(4, 6),(0, 7),(1, 7),(2, 7),(3, 7),(4, 7),(0, 8),(1, 8),(2, 8),(3, 8),(4, 8)]) (n:=11) (by kernel_rfl) (by kernel_rfl) F hl,D9,F7]
noncomputable def a6x (cb:Cb) (N:Nat) (call:j4) (a0:Value):M CR:=
 cb.bj CR (b1B call undef undef undef a0 undef undef undef undef undef undef undef) fun _ vs12=>
 M.pure (.ret (d9 vs12 10))
theorem c5t (cb:Cb) (N:Nat) (call:j4) (a0:Value):b7U cb N call a0=a6x cb N call a0:=by
 simp only [b7U,a6x,d0C,d2Q]
noncomputable def a8e (cb:Cb) (N:Nat) (call:j4) (v3:Value) (a0:Value) (a1:Value) (a2:Value):M CR:=
 cb.bv CR (E8 4 v3) fun v13=>
 cb.bc CR (call 185 [a0,v13,a1]) (fun v14=>
 cb.bv CR (z8 0 v14) fun v15=>
 cb.bv CR (z8 1 v14) fun v16=>
 cb.bv CR (q8 a0) fun v17=>
 cb.bv CR (l9 2 v17) fun v18=>
 cb.bv CR (j5 v18) fun v19=>
 cb.bv CR (bq .add 3 (.tmp 42) (.const (.int .i64 (.ofNat 1))) v19 (.int .i64 (.ofNat 1))) fun v20=>
 cb.bv CR (q8 a0) fun v21=>
 cb.bv CR (l9 2 v21) fun v22=>
 cb.bv CR (r9 1 v22 v20) fun v23=>
 cb.bv CR (q8 a2) fun v24=>
 cb.bv CR (r9 1 v24 v15) fun v25=>
 M.pure (.ret v16)) l6
theorem c7u (cb:Cb) (N:Nat) (call:j4) (v3:Value) (a0:Value) (a1:Value) (a2:Value):b5G cb N call v3 a0 a1 a2=a8e cb N call v3 a0 a1 a2:=by
 simp only [b5G,a8e,l5]
noncomputable def a9q (cb:Cb) (N:Nat) (call:j4) (v1:Value) (v2:Value) (a0:Value) (a1:Value) (a2:Value):M CR:=
 cb.bv CR (J6 [(.int .i64 (.ofNat 0)),(.int .i64 (.ofNat 0)),(.string ⟨⟨[]⟩⟩),(.slice none 0 0)]) fun v3=>
 cb.bv CR (r9 4 v3 v1) fun v4=>
 cb.bv CR (un .not v2) fun v5=>
 cb.bj CR (l8 (o7 false v5) (cb.bv R2 (E8 4 v3) fun v8=>
 cb.bc R2 (call 184 [v8]) (fun v9=>
 cb.bv R2 (un .not v9) fun v10=>
 M.pure (.normal, [v8,v9,v10])) l6) (M.pure (.normal, [undef,undef,undef]))) fun x6 vs7=>l7 x6 (cb.bv CR (q9 v5 (.bool true) (d9 vs7 2)) fun v11=>
 j6 v11 (
 a6x cb N call a0) (
 a8e cb N call v3 a0 a1 a2)) (fun _=>M.fail) M.fail l6
theorem c2v (cb:Cb) (N:Nat) (call:j4) (v1:Value) (v2:Value) (a0:Value) (a1:Value) (a2:Value):b6Y cb N call v1 v2 a0 a1 a2=a9q cb N call v1 v2 a0 a1 a2:=by
 simp only [b6Y,a9q,c5t,c7u]
noncomputable def b8g (cb:Cb) (N:Nat) (call:j4) (a0:Value) (a1:Value) (a2:Value):M CR:=
 cb.bc CR (call 138 [a0]) (fun v0=>
 cb.bv CR (z8 0 v0) fun v1=>
 cb.bv CR (z8 1 v0) fun v2=>
 a9q cb N call v1 v2 a0 a1 a2) l6
theorem d0N (cb:Cb) (N:Nat) (call:j4) (a0:Value) (a1:Value) (a2:Value):c6j cb N call a0 a1 a2=b8g cb N call a0 a1 a2:=by
 simp only [c6j,b8g,c2v]
noncomputable def a7u (cb:Cb) (N:Nat) (call:j4) (vs11:List Value) (v0:Value) (v9:Value):M CR:=
 cb.bj CR (l8 (o7 false (d9 vs11 4)) (cb.bv R2 (l9 2 v0) fun v18=>
 cb.bv R2 (j5 v18) fun v19=>
 cb.bv R2 (J5 v19 (.int .i64 (.ofNat 0))) fun v20=>
 cb.bv R2 (bq .geq 5 (.tmp 19) (.const (.int .u8 (.ofNat 48))) v20 (.int .u8 (.ofNat 48))) fun v21=>
 M.pure (.normal, [v18,v19,v20,v21,v21])) (M.pure (.normal, [undef,undef,undef,undef,undef]))) fun x16 vs17=>l7 x16 (cb.bj CR (l8 (o7 true (d9 vs17 4)) (cb.bv R2 (l9 2 v0) fun v24=>
 cb.bv R2 (j5 v24) fun v25=>
 cb.bv R2 (J5 v25 (.int .i64 (.ofNat 0))) fun v26=>
 cb.bv R2 (bq .leq 5 (.tmp 24) (.const (.int .u8 (.ofNat 57))) v26 (.int .u8 (.ofNat 57))) fun v27=>
 M.pure (.normal, [v24,v25,v26,v27])) (M.pure (.normal, [undef,undef,undef,undef]))) fun x22 vs23=>l7 x22 (c8Z cb N call vs11 vs17 vs23 v9) (fun _=>M.fail) M.fail l6) (fun _=>M.fail) M.fail l6
theorem c5Y (cb:Cb) (N:Nat) (call:j4) (vs11:List Value) (v0:Value) (v9:Value):b7c cb N call vs11 v0 v9=a7u cb N call vs11 v0 v9:=by
 simp only [b7c,a7u,l5]
noncomputable def a9S (cb:Cb) (N:Nat) (call:j4) (v3:Value) (v0:Value):M CR:=
 cb.bj CR (l8 (o7 true v3) (cb.bv R2 (l9 2 v0) fun v6=>
 cb.bv R2 (j5 v6) fun v7=>
 cb.bv R2 (bq .neq 9 (.tmp 8) (.const (.string ⟨⟨[]⟩⟩)) v7 (.string ⟨⟨[]⟩⟩)) fun v8=>
 M.pure (.normal, [v6,v7,v8])) (M.pure (.normal, [undef,undef,undef]))) fun x4 vs5=>l7 x4 (cb.bv CR (q9 v3 (d9 vs5 2) (.bool false)) fun v9=>
 cb.bj CR (l8 (o7 true v9) (cb.bv R2 (l9 2 v0) fun v12=>
 cb.bv R2 (j5 v12) fun v13=>
 cb.bv R2 (J5 v13 (.int .i64 (.ofNat 0))) fun v14=>
 cb.bv R2 (bq .eql 5 (.tmp 14) (.const (.int .u8 (.ofNat 36))) v14 (.int .u8 (.ofNat 36))) fun v15=>
 M.pure (.normal, [v12,v13,v14,v15,v15])) (M.pure (.normal, [undef,undef,undef,undef,undef]))) fun x10 vs11=>l7 x10 (a7u cb N call vs11 v0 v9) (fun _=>M.fail) M.fail l6) (fun _=>M.fail) M.fail l6
theorem c2K (cb:Cb) (N:Nat) (call:j4) (v3:Value) (v0:Value):b3p cb N call v3 v0=a9S cb N call v3 v0:=by
 simp only [b3p,a9S,l5,c5Y]
noncomputable def b3s (cb:Cb) (N:Nat) (call:j4) (a0:Value):M CR:=
 cb.bv CR (U7 a0) fun v0=>
 cb.bv CR (l9 0 v0) fun v1=>
 cb.bv CR (j5 v1) fun v2=>
 cb.bv CR (bq .eql 117 (.tmp 4) (.const (.int .i64 (.ofNat 2))) v2 (.int .i64 (.ofNat 2))) fun v3=>
 a9S cb N call v3 v0
theorem d0l (cb:Cb) (N:Nat) (call:j4) (a0:Value):c7f cb N call a0=b3s cb N call a0:=by
 simp only [c7f,b3s,l5,c2K]
noncomputable def b6u (call:j4) (u0:Value) (u1:Value) (u2:Value) (u3:Value) (u4:Value) (u5:Value) (u6:Value) (u7:Value) (u8:Value) (u9:Value) (u10:Value) (u11:Value) (u12:Value) (u13:Value) (u14:Value):M R2:=
 M.bind (M.foot (M.pure u0)) fun y0=>
 M.bind (M.foot (q8 y0.1)) fun y1=>
 M.bind (M.foot (l9 0 y1.1)) fun y2=>
 M.bind (M.foot (j5 y2.1)) fun y3=>
 M.bind (M.foot (q8 y3.1)) fun y4=>
 M.bind (M.foot (l9 0 y4.1)) fun y5=>
 M.bind (M.foot (j5 y5.1)) fun y6=>
 M.bind (M.foot (l9 2 u7)) fun y7=>
 M.bind (M.foot (j5 y7.1)) fun y8=>
 M.bind (M.foot (D7 call 32 [y6.1,y8.1])) fun y9=>
 M.bind (M.foot (M.pure y9.1)) fun y10=>
 M.bind (M.foot (z8 0 y10.1)) fun y11=>
 M.bind (M.foot (z8 1 y10.1)) fun y12=>
 M.bind (M.foot (M.pure y11.1)) fun y13=>
 M.bind (M.foot (M.pure y12.1)) fun y14=>
 M.guard (G9 [(0, 7),(1, 7),(2, 7),(3, 7),(4, 7),(5, 7),(6, 7),(0, 8),(1, 8),(2, 8),(3, 8),(4, 8),(5, 8),(6, 8),(11, 12),(12, 13)] [y0.2,y1.2,y2.2,y3.2,y4.2,y5.2,y6.2,y7.2,y8.2,y9.2,y10.2,y11.2,y12.2,y13.2,y14.2]) (M.pure (.normal, [y0.1,y1.1,y2.1,y3.1,y4.1,y5.1,y6.1,y7.1,y8.1,y9.1,y10.1,y11.1,y12.1,y13.1,y14.1]))
theorem d1k (call:j4) (u0:Value) (u1:Value) (u2:Value) (u3:Value) (u4:Value) (u5:Value) (u6:Value) (u7:Value) (u8:Value) (u9:Value) (u10:Value) (u11:Value) (u12:Value) (u13:Value) (u14:Value):b2x call u0 u1 u2 u3 u4 u5 u6 u7 u8 u9 u10 u11 u12 u13 u14=b6u call u0 u1 u2 u3 u4 u5 u6 u7 u8 u9 u10 u11 u12 u13 u14:=by
 simp only [b2x,b6u,l5,fun F hl=>G6 (ops:=a3g) (L:=[(0, 7),(1, 7),(2, 7),(3, 7),(4, 7),(5, 7),(6, 7),(0, 8),(1, 8),(2, 8),(3, 8),(4, 8),(5, 8),(6, 8),(11, 12),(12, 13)]) (n:=15) (by kernel_rfl) (by kernel_rfl) F hl,D9,F7]
noncomputable def b7h (call:j4) (u0:Value) (u1:Value) (u2:Value) (u3:Value) (u4:Value) (u5:Value) (u6:Value) (u7:Value) (u8:Value) (u9:Value) (u10:Value) (u11:Value) (u12:Value) (u13:Value) (u14:Value) (u15:Value) (u16:Value):M R2:=
 M.bind (M.foot (M.pure u0)) fun y0=>
 M.bind (M.foot (q8 y0.1)) fun y1=>
 M.bind (M.foot (l9 0 y1.1)) fun y2=>
 M.bind (M.foot (j5 y2.1)) fun y3=>
 M.bind (M.foot (q8 y3.1)) fun y4=>
 M.bind (M.foot (l9 0 y4.1)) fun y5=>
 M.bind (M.foot (j5 y5.1)) fun y6=>
 M.bind (M.foot (M.pure u7)) fun y7=>
 M.bind (M.foot (l9 2 u8)) fun y8=>
 M.bind (M.foot (j5 y8.1)) fun y9=>
 M.bind (M.foot (D7 call 207 [y6.1,y7.1,y9.1])) fun y10=>
 M.bind (M.foot (M.pure y10.1)) fun y11=>
 M.bind (M.foot (z8 0 y11.1)) fun y12=>
 M.bind (M.foot (z8 1 y11.1)) fun y13=>
 M.bind (M.foot (M.pure y12.1)) fun y14=>
 M.bind (M.foot (M.pure y13.1)) fun y15=>
 M.guard (G9 [(0, 7),(1, 7),(2, 7),(3, 7),(4, 7),(5, 7),(6, 7),(0, 8),(1, 8),(2, 8),(3, 8),(4, 8),(5, 8),(6, 8),(7, 8),(0, 9),(1, 9),(2, 9),(3, 9),(4, 9),(5, 9),(6, 9),(7, 9),(12, 13),(13, 14)] [y0.2,y1.2,y2.2,y3.2,y4.2,y5.2,y6.2,y7.2,y8.2,y9.2,y10.2,y11.2,y12.2,y13.2,y14.2,y15.2]) (M.pure (.normal, [y0.1,y1.1,y2.1,y3.1,y4.1,y5.1,y6.1,y7.1,y8.1,y9.1,y10.1,y11.1,y12.1,y13.1,y14.1,y15.1]))
theorem c9h (call:j4) (u0:Value) (u1:Value) (u2:Value) (u3:Value) (u4:Value) (u5:Value) (u6:Value) (u7:Value) (u8:Value) (u9:Value) (u10:Value) (u11:Value) (u12:Value) (u13:Value) (u14:Value) (u15:Value) (u16:Value):b3j call u0 u1 u2 u3 u4 u5 u6 u7 u8 u9 u10 u11 u12 u13 u14 u15 u16=b7h call u0 u1 u2 u3 u4 u5 u6 u7 u8 u9 u10 u11 u12 u13 u14 u15 u16:=by
 simp only [b3j,b7h,l5,fun F hl=>G6 (ops:=a3b) (L:=[(0, 7),(1, 7),(2, 7),(3, 7),(4, 7),(5, 7),(6, 7),(0, 8),(1, 8),(2, 8),(3, 8),(4, 8),(5, 8),(6, 8),(7, 8),(0, 9),(1, 9),(2, 9),(3, 9),(4, 9),(5, 9),(6, 9),(7, 9),(12, 13),(13, 14)]) (n:=16) (by kernel_rfl) (by kernel_rfl) F hl,D9,F7]
noncomputable def b7g (call:j4) (u0:Value) (u1:Value) (u2:Value) (u3:Value) (u4:Value) (u5:Value) (u6:Value) (u7:Value) (u8:Value) (u9:Value) (u10:Value):M R2:=
 M.bind (M.foot (M.pure u0)) fun y0=>
 M.bind (M.foot (q8 y0.1)) fun y1=>
 M.bind (M.foot (l9 0 y1.1)) fun y2=>
 M.bind (M.foot (j5 y2.1)) fun y3=>
 M.bind (M.foot (l9 1 u4)) fun y4=>
 M.bind (M.foot (j5 y4.1)) fun y5=>
 M.bind (M.foot (M.pure u6)) fun y6=>
 M.bind (M.foot (D7 call 72 [y3.1,y5.1,y6.1])) fun y7=>
 M.bind (M.foot (M.pure (.int .i64 (.ofNat 0)))) fun y8=>
 M.bind (M.foot (M.pure y7.1)) fun y9=>
 M.guard (G9 [(0, 4),(1, 4),(2, 4),(3, 4),(0, 5),(1, 5),(2, 5),(3, 5),(0, 6),(1, 6),(2, 6),(3, 6),(4, 6),(5, 6)] [y0.2,y1.2,y2.2,y3.2,y4.2,y5.2,y6.2,y7.2,y8.2,y9.2]) (M.pure (.normal, [y0.1,y1.1,y2.1,y3.1,y4.1,y5.1,y6.1,y7.1,y8.1,y9.1]))
theorem d0o (call:j4) (u0:Value) (u1:Value) (u2:Value) (u3:Value) (u4:Value) (u5:Value) (u6:Value) (u7:Value) (u8:Value) (u9:Value) (u10:Value):b8H call u0 u1 u2 u3 u4 u5 u6 u7 u8 u9 u10=b7g call u0 u1 u2 u3 u4 u5 u6 u7 u8 u9 u10:=by
 simp only [b8H,b7g,l5,fun F hl=>G6 (ops:=a3w) (L:=[(0, 4),(1, 4),(2, 4),(3, 4),(0, 5),(1, 5),(2, 5),(3, 5),(0, 6),(1, 6),(2, 6),(3, 6),(4, 6),(5, 6)]) (n:=10) (by kernel_rfl) (by kernel_rfl) F hl,D9,F7]
noncomputable def a8Q (cb:Cb) (N:Nat) (call:j4) (a0:Value) (v0:Value) (a2:Value) (v3:Value):M R2:=
 cb.bj R2 (b6u call a0 undef undef undef undef undef undef v0 undef undef undef undef undef undef undef) fun _ vs4=>
 M.pure (.normal, [a2,v3,(d9 vs4 0),(d9 vs4 1),(d9 vs4 2),(d9 vs4 3),(d9 vs4 4),(d9 vs4 5),(d9 vs4 6),(d9 vs4 7),(d9 vs4 8),(d9 vs4 9),(d9 vs4 10),(d9 vs4 11),(d9 vs4 12),undef,undef,undef,undef,undef,undef,undef,undef,undef,undef,undef,undef,undef,undef,(d9 vs4 13),(d9 vs4 14)])
theorem c1f (cb:Cb) (N:Nat) (call:j4) (a0:Value) (v0:Value) (a2:Value) (v3:Value):b4w cb N call a0 v0 a2 v3=a8Q cb N call a0 v0 a2 v3:=by
 simp only [b4w,a8Q,c8D,d1k]
noncomputable def a8h (cb:Cb) (N:Nat) (call:j4) (a0:Value) (a2:Value) (v0:Value) (v3:Value):M R2:=
 cb.bj R2 (b7h call a0 undef undef undef undef undef undef a2 v0 undef undef undef undef undef undef undef undef) fun _ vs5=>
 M.pure (.normal, [a2,v3,undef,undef,undef,undef,undef,undef,undef,undef,undef,undef,undef,undef,undef,(d9 vs5 0),(d9 vs5 1),(d9 vs5 2),(d9 vs5 3),(d9 vs5 4),(d9 vs5 5),(d9 vs5 6),(d9 vs5 7),(d9 vs5 8),(d9 vs5 9),(d9 vs5 10),(d9 vs5 11),(d9 vs5 12),(d9 vs5 13),(d9 vs5 14),(d9 vs5 15)])
theorem c3J (cb:Cb) (N:Nat) (call:j4) (a0:Value) (a2:Value) (v0:Value) (v3:Value):b4g cb N call a0 a2 v0 v3=a8h cb N call a0 a2 v0 v3:=by
 simp only [b4g,a8h,d1B,c9h]
noncomputable def a7X (cb:Cb) (N:Nat) (call:j4) (a0:Value) (v0:Value) (vs2:List Value):M CR:=
 cb.bj CR (b7g call a0 undef undef undef v0 undef (d9 vs2 30) undef undef undef undef) fun _ vs7=>
 M.pure (.ret (.tuple ⟨[(d9 vs7 8),(d9 vs7 9)]⟩))
theorem c2h (cb:Cb) (N:Nat) (call:j4) (a0:Value) (v0:Value) (vs2:List Value):b4X cb N call a0 v0 vs2=a7X cb N call a0 v0 vs2:=by
 simp only [b4X,a7X,d2x,d0o]
noncomputable def b6C (cb:Cb) (N:Nat) (call:j4) (a0:Value) (a1:Value) (a2:Value):M CR:=
 cb.bv CR (U7 a1) fun v0=>
 cb.bj CR (cb.bv R2 (bq .eql 3 (.tmp 10) (.const (.int .i64 (.negSucc 0))) a2 (.int .i64 (.negSucc 0))) fun v3=>
 j6 v3 (
 a8Q cb N call a0 v0 a2 v3) (
 a8h cb N call a0 a2 v0 v3)) fun x1 vs2=>
 l7 x1 (cb.bv CR (bq .neq 41 (.tmp 39) (.const (.int .i64 (.ofNat 0))) (d9 vs2 30) (.int .i64 (.ofNat 0))) fun v6=>
 j6 v6 (
 a7X cb N call a0 v0 vs2) (
 M.pure (.ret (.tuple ⟨[(d9 vs2 29),(.bool true)]⟩)))) (fun _=>M.fail) (M.fail) l6
theorem d2J (cb:Cb) (N:Nat) (call:j4) (a0:Value) (a1:Value) (a2:Value):c7N cb N call a0 a1 a2=b6C cb N call a0 a1 a2:=by
 simp only [c7N,b6C,l5,c1f,c3J,c2h]
noncomputable def b1E (call:j4) (u0:Value) (u1:Value) (u2:Value) (u3:Value) (u4:Value) (u5:Value):M R2:=
 M.bind (M.foot (M.pure u2)) fun y0=>
 M.bind (M.foot (J5 y0.1 (.int .i64 (.ofNat 0)))) fun y1=>
 M.bind (M.foot (bq .eql 5 (.tmp 30) (.const (.int .u8 (.ofNat 45))) y1.1 (.int .u8 (.ofNat 45)))) fun y2=>
 M.bind (M.foot (M.pure u2)) fun y3=>
 M.bind (M.foot (J4 y3.1 (some (.int .i64 (.ofNat 1))) none)) fun y4=>
 M.bind (M.foot (M.pure y2.1)) fun y5=>
 M.bind (M.foot (M.pure y4.1)) fun y6=>
 M.guard (G9 [(0, 3),(1, 3),(2, 3),(0, 4),(1, 4),(2, 4),(3, 5),(4, 5)] [y0.2,y1.2,y2.2,y3.2,y4.2,y5.2,y6.2]) (M.pure (.normal, [y0.1,y1.1,y2.1,y3.1,y4.1,y5.1,y6.1]))
theorem d0f (call:j4) (u0:Value) (u1:Value) (u2:Value) (u3:Value) (u4:Value) (u5:Value):b8m call u0 u1 u2 u3 u4 u5=b1E call u0 u1 u2 u3 u4 u5:=by
 simp only [b8m,b1E,l5,fun F hl=>G6 (ops:=a3N) (L:=[(0, 3),(1, 3),(2, 3),(0, 4),(1, 4),(2, 4),(3, 5),(4, 5)]) (n:=7) (by kernel_rfl) (by kernel_rfl) F hl,D9,F7]
noncomputable def a6Q (cb:Cb) (N:Nat) (call:j4) (a0:Value) (v7:Value) (vs9:List Value) (vs13:List Value) (vs17:List Value) (v19:Value):M R2:=
 cb.bj R2 (b1E call undef undef a0 undef undef undef) fun _ vs20=>
 M.pure (.normal, [a0,v7,v7,(d9 vs9 0),(d9 vs9 1),(d9 vs9 2),(d9 vs9 3),(d9 vs13 0),(d9 vs13 1),(d9 vs13 2),(d9 vs17 0),v19,(d9 vs20 0),(d9 vs20 1),(d9 vs20 2),(d9 vs20 3),(d9 vs20 4),(d9 vs20 5),(d9 vs20 6)])
theorem c5H (cb:Cb) (N:Nat) (call:j4) (a0:Value) (v7:Value) (vs9:List Value) (vs13:List Value) (vs17:List Value) (v19:Value):b8I cb N call a0 v7 vs9 vs13 vs17 v19=a6Q cb N call a0 v7 vs9 vs13 vs17 v19:=by
 simp only [b8I,a6Q,c9D,d0f]
noncomputable def a9H (cb:Cb) (N:Nat) (call:j4) (vs9:List Value) (a0:Value) (v7:Value):M R2:=
 cb.bj R2 (l8 (o7 false (d9 vs9 3)) (cb.bv R2 (J5 a0 (.int .i64 (.ofNat 0))) fun v14=>
 cb.bv R2 (bq .eql 5 (.tmp 25) (.const (.int .u8 (.ofNat 43))) v14 (.int .u8 (.ofNat 43))) fun v15=>
 M.pure (.normal, [a0,v14,v15])) (M.pure (.normal, [undef,undef,undef]))) fun x12 vs13=>l7 x12 (cb.bj R2 (l8 (o7 true v7) (cb.bv R2 (q9 (d9 vs9 3) (.bool true) (d9 vs13 2)) fun v18=>
 M.pure (.normal, [v18])) (M.pure (.normal, [undef]))) fun x16 vs17=>l7 x16 (cb.bv R2 (q9 v7 (d9 vs17 0) (.bool false)) fun v19=>
 j6 v19 (
 a6Q cb N call a0 v7 vs9 vs13 vs17 v19) (
 c9H cb N call a0 v7 vs9 vs13 vs17 v19)) (fun _=>M.fail) M.fail l6) (fun _=>M.fail) M.fail l6
theorem c2k (cb:Cb) (N:Nat) (call:j4) (vs9:List Value) (a0:Value) (v7:Value):b4n cb N call vs9 a0 v7=a9H cb N call vs9 a0 v7:=by
 simp only [b4n,a9H,l5,c5H]
noncomputable def b0i (cb:Cb) (N:Nat) (call:j4) (vs6:List Value) (v27:Value) (v22:Value) (v23:Value) (v30:Value) (vs32:List Value) (v34:Value):M R2:=
 cb.bj R2 (l8 (o7 true (d9 vs6 17)) (cb.bv R2 (bq .shr 23 (.tmp 57) (.const (.int .u64 (.ofNat 1))) v27 (.int .u64 (.ofNat 1))) fun v37=>
 cb.bv R2 (bq .add 23 (.tmp 58) (.const (.int .u64 (.ofNat 1))) v37 (.int .u64 (.ofNat 1))) fun v38=>
 cb.bv R2 (bq .gtr 23 (.tmp 56) (.tmp 59) v22 v38) fun v39=>
 M.pure (.normal, [v22,v27,v37,v38,v39])) (M.pure (.normal, [undef,undef,undef,undef,undef]))) fun x35 vs36=>l7 x35 (cb.bv R2 (q9 (d9 vs6 17) (d9 vs36 4) (.bool false)) fun v40=>
 M.pure (.normal, [v23,(d9 vs6 17),v30,v30,(d9 vs32 0),(d9 vs32 1),(d9 vs32 2),v34,(d9 vs6 17),(d9 vs6 17),(d9 vs36 0),(d9 vs36 1),(d9 vs36 2),(d9 vs36 3),(d9 vs36 4),v40,v40])) (fun _=>M.fail) M.fail l6
theorem c3f (cb:Cb) (N:Nat) (call:j4) (vs6:List Value) (v27:Value) (v22:Value) (v23:Value) (v30:Value) (vs32:List Value) (v34:Value):b4E cb N call vs6 v27 v22 v23 v30 vs32 v34=b0i cb N call vs6 v27 v22 v23 v30 vs32 v34:=by
 simp only [b4E,b0i,l5]
noncomputable def a6I (cb:Cb) (N:Nat) (call:j4) (vs6:List Value) (v22:Value) (v27:Value) (v23:Value):M R2:=
 cb.bv R2 (un .not (d9 vs6 17)) fun v30=>
 cb.bj R2 (l8 (o7 true v30) (cb.bv R2 (bq .gtr 23 (.tmp 50) (.tmp 51) v22 v27) fun v33=>
 M.pure (.normal, [v22,v27,v33])) (M.pure (.normal, [undef,undef,undef]))) fun x31 vs32=>l7 x31 (cb.bv R2 (q9 v30 (d9 vs32 2) (.bool false)) fun v34=>
 j6 v34 (
 c9S cb N call v23 vs6 v30 vs32 v34) (
 b0i cb N call vs6 v27 v22 v23 v30 vs32 v34)) (fun _=>M.fail) M.fail l6
theorem c6q (cb:Cb) (N:Nat) (call:j4) (vs6:List Value) (v22:Value) (v27:Value) (v23:Value):b2U cb N call vs6 v22 v27 v23=a6I cb N call vs6 v22 v27 v23:=by
 simp only [b2U,a6I,l5,c3f]
noncomputable def a6n (cb:Cb) (N:Nat) (call:j4) (vs6:List Value) (v22:Value) (v27:Value):M CR:=
 j6 (d9 vs6 17) (
 cb.bv CR (un .neg v22) fun v41=>
 cb.bv CR (bq .and 23 (.tmp 65) (.tmp 66) v41 v27) fun v42=>
 M.pure (.ret (.tuple ⟨[v42,(.int .i64 (.ofNat 0))]⟩))) (
 M.pure (.ret (.tuple ⟨[v22,(.int .i64 (.ofNat 0))]⟩)))
theorem c3E (cb:Cb) (N:Nat) (call:j4) (vs6:List Value) (v22:Value) (v27:Value):b3J cb N call vs6 v22 v27=a6n cb N call vs6 v22 v27:=by
 simp only [b3J,a6n,l5]
noncomputable def a6g (cb:Cb) (N:Nat) (call:j4) (v26:Value) (v23:Value) (vs6:List Value) (v22:Value):M CR:=
 cb.bv CR (bq .shr 23 (.const (.int .u64 (.ofNat 18446744073709551615))) (.tmp 43) (.int .u64 (.ofNat 18446744073709551615)) v26) fun v27=>
 cb.bj CR (j6 v23 (
 M.pure (.normal, [v23,undef,undef,undef,undef,undef,undef,undef,undef,undef,undef,undef,undef,undef,undef,undef,v23])) (
 a6I cb N call vs6 v22 v27 v23)) fun x28 vs29=>
 l7 x28 (j6 (d9 vs29 16) (
 M.pure (.ret (.tuple ⟨[(.int .u64 (.ofNat 0)),(.int .i64 (.ofNat 6))]⟩))) (
 a6n cb N call vs6 v22 v27)) (fun _=>M.fail) (M.fail) l6
theorem c7M (cb:Cb) (N:Nat) (call:j4) (v26:Value) (v23:Value) (vs6:List Value) (v22:Value):b4a cb N call v26 v23 vs6 v22=a6g cb N call v26 v23 vs6 v22:=by
 simp only [b4a,a6g,l5,c6q,c3E]
noncomputable def b0a (cb:Cb) (N:Nat) (call:j4) (a0:Value) (a1:Value):M CR:=
 cb.bj CR (cb.bv R2 (bq .neq 9 (.tmp 17) (.const (.string ⟨⟨[]⟩⟩)) a0 (.string ⟨⟨[]⟩⟩)) fun v7=>
 cb.bj R2 (l8 (o7 true v7) (cb.bv R2 (J5 a0 (.int .i64 (.ofNat 0))) fun v10=>
 cb.bv R2 (bq .eql 5 (.tmp 21) (.const (.int .u8 (.ofNat 45))) v10 (.int .u8 (.ofNat 45))) fun v11=>
 M.pure (.normal, [a0,v10,v11,v11])) (M.pure (.normal, [undef,undef,undef,undef]))) fun x8 vs9=>l7 x8 (a9H cb N call vs9 a0 v7) (fun _=>M.fail) M.fail l6) fun x5 vs6=>
 l7 x5 (cb.bc CR (call 118 [(d9 vs6 18)]) (fun v21=>
 cb.bv CR (z8 0 v21) fun v22=>
 cb.bv CR (z8 1 v21) fun v23=>
 cb.bv CR (z8 2 v21) fun v24=>
 cb.bv CR (un .not v24) fun v25=>
 j6 v25 (
 M.pure (.ret (.tuple ⟨[(.int .u64 (.ofNat 0)),(.int .i64 (.ofNat 4))]⟩))) (
 cb.bv CR (bq .sub 3 (.const (.int .i64 (.ofNat 64))) (.tmp 42) (.int .i64 (.ofNat 64)) a1) fun v26=>
 a6g cb N call v26 v23 vs6 v22)) l6) (fun _=>M.fail) (M.fail) l6
theorem c2P (cb:Cb) (N:Nat) (call:j4) (a0:Value) (a1:Value):b4o cb N call a0 a1=b0a cb N call a0 a1:=by
 simp only [b4o,b0a,l5,c2k,c7M]
noncomputable def b8E (cb:Cb) (N:Nat) (call:j4) (a0:Value) (a1:Value):M CR:=
 cb.bv CR (bq .lss 3 (.tmp 11) (.const (.int .i64 (.ofNat 1))) a1 (.int .i64 (.ofNat 1))) fun v0=>
 cb.bj CR (l8 (o7 false v0) (cb.bv R2 (bq .gtr 3 (.tmp 14) (.const (.int .i64 (.ofNat 64))) a1 (.int .i64 (.ofNat 64))) fun v3=>
 M.pure (.normal, [a1,v3])) (M.pure (.normal, [undef,undef]))) fun x1 vs2=>l7 x1 (cb.bv CR (q9 v0 (.bool true) (d9 vs2 1)) fun v4=>
 j6 v4 (
 M.pure (.ret (.tuple ⟨[(.int .u64 (.ofNat 0)),(.int .i64 (.ofNat 1))]⟩))) (
 b0a cb N call a0 a1)) (fun _=>M.fail) M.fail l6
theorem d2F (cb:Cb) (N:Nat) (call:j4) (a0:Value) (a1:Value):c3U cb N call a0 a1=b8E cb N call a0 a1:=by
 simp only [c3U,b8E,l5,c2P]
noncomputable def a8V (cb:Cb) (N:Nat) (call:j4) (v10:Value) (v11:Value):M CR:=
 cb.bv CR (bq .add 23 (.tmp 20) (.tmp 22) v10 v11) fun v12=>
 cb.bv CR (bq .shr 23 (.tmp 25) (.const (.int .u64 (.ofNat 16))) v12 (.int .u64 (.ofNat 16))) fun v13=>
 cb.bv CR (bq .add 23 (.tmp 24) (.tmp 26) v12 v13) fun v14=>
 cb.bv CR (bq .shr 23 (.tmp 29) (.const (.int .u64 (.ofNat 32))) v14 (.int .u64 (.ofNat 32))) fun v15=>
 cb.bv CR (bq .add 23 (.tmp 28) (.tmp 30) v14 v15) fun v16=>
 cb.bv CR (I7 .i64 v16) fun v17=>
 cb.bv CR (bq .and 3 (.tmp 33) (.const (.int .i64 (.ofNat 127))) v17 (.int .i64 (.ofNat 127))) fun v18=>
 M.pure (.ret v18)
theorem c3T (cb:Cb) (N:Nat) (call:j4) (v10:Value) (v11:Value):b2n cb N call v10 v11=a8V cb N call v10 v11:=by
 simp only [b2n,a8V,l5]
noncomputable def a6H (cb:Cb) (N:Nat) (call:j4) (v3:Value) (v5:Value):M CR:=
 cb.bv CR (bq .and 23 (.tmp 12) (.const (.int .u64 (.ofNat 3689348814741910323))) v3 (.int .u64 (.ofNat 3689348814741910323))) fun v6=>
 cb.bv CR (bq .add 23 (.tmp 11) (.tmp 13) v5 v6) fun v7=>
 cb.bv CR (bq .shr 23 (.tmp 15) (.const (.int .u64 (.ofNat 4))) v7 (.int .u64 (.ofNat 4))) fun v8=>
 cb.bv CR (bq .add 23 (.tmp 16) (.tmp 17) v8 v7) fun v9=>
 cb.bv CR (bq .and 23 (.tmp 18) (.const (.int .u64 (.ofNat 1085102592571150095))) v9 (.int .u64 (.ofNat 1085102592571150095))) fun v10=>
 cb.bv CR (bq .shr 23 (.tmp 21) (.const (.int .u64 (.ofNat 8))) v10 (.int .u64 (.ofNat 8))) fun v11=>
 a8V cb N call v10 v11
theorem c0O (cb:Cb) (N:Nat) (call:j4) (v3:Value) (v5:Value):b4s cb N call v3 v5=a6H cb N call v3 v5:=by
 simp only [b4s,a6H,l5,c3T]
noncomputable def a6D (cb:Cb) (N:Nat) (call:j4) (v0:Value) (a0:Value):M CR:=
 cb.bv CR (bq .and 23 (.tmp 4) (.const (.int .u64 (.ofNat 6148914691236517205))) v0 (.int .u64 (.ofNat 6148914691236517205))) fun v1=>
 cb.bv CR (bq .and 23 (.tmp 6) (.const (.int .u64 (.ofNat 6148914691236517205))) a0 (.int .u64 (.ofNat 6148914691236517205))) fun v2=>
 cb.bv CR (bq .add 23 (.tmp 5) (.tmp 7) v1 v2) fun v3=>
 cb.bv CR (bq .shr 23 (.tmp 9) (.const (.int .u64 (.ofNat 2))) v3 (.int .u64 (.ofNat 2))) fun v4=>
 cb.bv CR (bq .and 23 (.tmp 10) (.const (.int .u64 (.ofNat 3689348814741910323))) v4 (.int .u64 (.ofNat 3689348814741910323))) fun v5=>
 a6H cb N call v3 v5
theorem c6n (cb:Cb) (N:Nat) (call:j4) (v0:Value) (a0:Value):b6f cb N call v0 a0=a6D cb N call v0 a0:=by
 simp only [b6f,a6D,l5,c0O]
noncomputable def b3q (cb:Cb) (N:Nat) (call:j4) (a0:Value):M CR:=
 cb.bv CR (bq .shr 23 (.tmp 3) (.const (.int .u64 (.ofNat 1))) a0 (.int .u64 (.ofNat 1))) fun v0=>
 a6D cb N call v0 a0
theorem c8L (cb:Cb) (N:Nat) (call:j4) (a0:Value):c7i cb N call a0=b3q cb N call a0:=by
 simp only [c7i,b3q,l5,c6n]
noncomputable def a8S (cb:Cb) (N:Nat) (call:j4) (a0:Value):M CR:=
 cb.bv CR (un .neg a0) fun v1=>
 cb.bv CR (bq .and 23 (.tmp 5) (.tmp 7) a0 v1) fun v2=>
 cb.bv CR (bq .mul 23 (.tmp 8) (.const (.int .u64 (.ofNat 285870213051353865))) v2 (.int .u64 (.ofNat 285870213051353865))) fun v3=>
 cb.bv CR (bq .shr 23 (.tmp 9) (.const (.int .u64 (.ofNat 58))) v3 (.int .u64 (.ofNat 58))) fun v4=>
 cb.bv CR (e0i 1 64 (.pointer (some ⟨4, 0,some 0⟩)) v4) fun v5=>
 cb.bv CR (j5 v5) fun v6=>
 cb.bv CR (I7 .i64 v6) fun v7=>
 M.pure (.ret v7)
theorem c4Q (cb:Cb) (N:Nat) (call:j4) (a0:Value):b8F cb N call a0=a8S cb N call a0:=by
 simp only [b8F,a8S,l5]
noncomputable def b7r (cb:Cb) (N:Nat) (call:j4) (a0:Value):M CR:=
 cb.bv CR (bq .eql 23 (.tmp 3) (.const (.int .u64 (.ofNat 0))) a0 (.int .u64 (.ofNat 0))) fun v0=>
 j6 v0 (
 M.pure (.ret (.int .i64 (.ofNat 64)))) (
 a8S cb N call a0)
theorem c8K (cb:Cb) (N:Nat) (call:j4) (a0:Value):c3m cb N call a0=b7r cb N call a0:=by
 simp only [c3m,b7r,l5,c4Q]
noncomputable def a9J (cb:Cb) (N:Nat) (call:j4) (a0:Value) (a1:Value) (a2:Value):M CR:=
 cb.bc CR (call 106 [a0,a1]) (fun v2=>
 cb.bv CR (bq .eql 93 (.tmp 17) (.const (.pointer none)) v2 (.pointer none)) fun v3=>
 j6 v3 (
 M.pure (.ret (.tuple ⟨[(.int .i64 (.ofNat 0)),(.int .i64 (.ofNat 1))]⟩))) (
 cb.bc CR (call 80 [a2,(.string ⟨⟨[36]⟩⟩)]) (fun v4=>
 cb.bv CR (un .not v4) fun v5=>
 j6 v5 (
 c8v cb N call a2) (
 c9W cb N call v2 a2)) l6)) l6
theorem c2S (cb:Cb) (N:Nat) (call:j4) (a0:Value) (a1:Value) (a2:Value):b4e cb N call a0 a1 a2=a9J cb N call a0 a1 a2:=by
 simp only [b4e,a9J,l5]
noncomputable def b1O (cb:Cb) (N:Nat) (call:j4) (a0:Value) (a1:Value) (a2:Value):M CR:=
 cb.bc CR (call 79 [a0]) (fun v0=>
 cb.bv CR (un .not v0) fun v1=>
 j6 v1 (
 M.pure (.ret (.tuple ⟨[(.int .i64 (.ofNat 0)),(.int .i64 (.ofNat 2))]⟩))) (
 a9J cb N call a0 a1 a2)) l6
theorem d0H (cb:Cb) (N:Nat) (call:j4) (a0:Value) (a1:Value) (a2:Value):c1c cb N call a0 a1 a2=b1O cb N call a0 a1 a2:=by
 simp only [c1c,b1O,c2S]
end Go.Proofs.YtmomonnlmbljoaaGreatDoor
end
