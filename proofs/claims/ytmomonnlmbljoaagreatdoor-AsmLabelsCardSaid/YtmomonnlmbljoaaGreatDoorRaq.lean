import Derived.Test.YtmomonnlmbljoaaGreatDoorRap
section
namespace Go.Proofs.YtmomonnlmbljoaaGreatDoor
open Go.V Go.Proofs
set_option maxRecDepth 100000
set_option linter.unusedVariables false
noncomputable def c7:Code:=D6 Tryz.f7
noncomputable def pl7:Pl:=(.s none .d (.s none .d (.s none .d (.s none .d (.s none (.s none .d (.s none (.l [27, 28, 29, 32, 33, 34, 35, 36, 37, 38, 7, 30, 31, 8] .d) .d)) (.s none .d (.s none (.s none .d (.s none (.l [46, 47, 48, 51, 52, 7, 49, 50, 9] .d) .d)) .d)))))))
noncomputable def d4j (cb:Cb) (N:Nat) (call:j4) (v10:Value) (xs5:List Value) (v2:Value) (v8:Value) (v9:Value):M R2:=
 cb.bv R2 (bn .add 9 (.const (.string ⟨⟨[98, 108, 111, 99, 107, 32, 36, 108]⟩⟩)) (.tmp 35) (.string ⟨⟨[98, 108, 111, 99, 107, 32, 36, 108]⟩⟩) v10) fun v11=>
 cb.bv R2 (bn .add 9 (.tmp 36) (.const (.string ⟨⟨[32]⟩⟩)) v11 (.string ⟨⟨[32]⟩⟩)) fun v12=>
 cb.bv R2 (bn .add 9 (.tmp 32) (.tmp 37) (d9 xs5 10) v12) fun v13=>
 cb.bv R2 (bn .add 3 (.tmp 30) (.const (.int .i64 (.ofNat 1))) (d9 xs5 13) (.int .i64 (.ofNat 1))) fun v14=>
 M.pure (.normal, [(d9 xs5 13),v2,v8,(d9 xs5 10),(d9 xs5 13),v9,v10,v11,v12,v13,v13,(d9 xs5 13),v14,v14])
noncomputable def e1X (cb:Cb) (N:Nat) (call:j4) (xs5:List Value) (v2:Value) (v8:Value):M R2:=
 M.pure (.exit 0, [(d9 xs5 13),v2,v8,(d9 xs5 3),(d9 xs5 4),(d9 xs5 5),(d9 xs5 6),(d9 xs5 7),(d9 xs5 8),(d9 xs5 9),(d9 xs5 10),(d9 xs5 11),(d9 xs5 12),(d9 xs5 13)])
noncomputable def d2U (cb:Cb) (N:Nat) (call:j4) (v2:Value) (xs5:List Value):M R2:=
 cb.bv R2 (bn .lss 3 (.tmp 27) (.tmp 28) (d9 xs5 13) v2) fun v8=>
 j6 v8 (
 cb.bv R2 (I7 .u64 (d9 xs5 13)) fun v9=>
 cb.bc R2 (call 25 [v9]) (fun v10=>
 d4j cb N call v10 xs5 v2 v8 v9) l6) (
 e1X cb N call xs5 v2 v8)
noncomputable def d3r (cb:Cb) (N:Nat) (call:j4) (xs21:List Value) (v2:Value) (v24:Value):M R2:=
 cb.bv R2 (bn .add 9 (.tmp 51) (.const (.string ⟨⟨[101, 110, 100, 32]⟩⟩)) (d9 xs21 5) (.string ⟨⟨[101, 110, 100, 32]⟩⟩)) fun v25=>
 cb.bv R2 (bn .add 3 (.tmp 49) (.const (.int .i64 (.ofNat 1))) (d9 xs21 8) (.int .i64 (.ofNat 1))) fun v26=>
 M.pure (.normal, [(d9 xs21 8),v2,v24,(d9 xs21 5),v25,v25,(d9 xs21 8),v26,v26])
noncomputable def d6A (cb:Cb) (N:Nat) (call:j4) (v2:Value) (xs21:List Value):M R2:=
 cb.bv R2 (bn .lss 3 (.tmp 46) (.tmp 47) (d9 xs21 8) v2) fun v24=>
 j6 v24 (
 d3r cb N call xs21 v2 v24) (
 M.pure (.exit 2, [(d9 xs21 8),v2,v24,(d9 xs21 3),(d9 xs21 4),(d9 xs21 5),(d9 xs21 6),(d9 xs21 7),(d9 xs21 8)]))
noncomputable def d4Z (cb:Cb) (N:Nat) (call:j4) (v67:Value) (vs23:List Value) (v37:Value):M CR:=
 cb.bj CR (l8 (o7 true v67) (cb.bv R2 (K7 (d9 vs23 5)) fun v70=>
 cb.bv R2 (bn .add 3 (.tmp 108) (.const (.int .i64 (.ofNat 3))) v70 (.int .i64 (.ofNat 3))) fun v71=>
 cb.bv R2 (bn .eql 3 (.tmp 106) (.tmp 109) v37 v71) fun v72=>
 M.pure (.normal, [v37,(d9 vs23 5),v70,v71,v72])) (M.pure (.normal, [undef,undef,undef,undef,undef]))) fun x68 vs69=>l7 x68 (cb.bv CR (q9 v67 (d9 vs69 4) (.bool false)) fun v73=>
 cb.bj CR (l8 (o7 true v73) (cb.bc R2 (call 11 []) (fun v76=>
 M.pure (.normal, [v76])) l6) (M.pure (.normal, [undef]))) fun x74 vs75=>l7 x74 (cb.bv CR (q9 v73 (d9 vs75 0) (.bool false)) fun v77=>
 M.pure (.ret v77)) (fun _=>M.fail) M.fail l6) (fun _=>M.fail) M.fail l6
noncomputable def d3N (cb:Cb) (N:Nat) (call:j4) (v54:Value) (v30:Value) (v2:Value) (v4:Value) (v38:Value) (vs23:List Value) (v37:Value):M CR:=
 cb.bj CR (l8 (o7 true v54) (cb.bv R2 (F3 9 v30 v2) fun v57=>
 cb.bv R2 (l9 1 v57) fun v58=>
 cb.bv R2 (j5 v58) fun v59=>
 cb.bv R2 (bn .sub 3 (.tmp 95) (.const (.int .i64 (.ofNat 1))) v2 (.int .i64 (.ofNat 1))) fun v60=>
 cb.bv R2 (bn .sub 3 (.tmp 96) (.tmp 97) v60 v4) fun v61=>
 cb.bv R2 (bn .eql 3 (.tmp 94) (.tmp 98) v59 v61) fun v62=>
 M.pure (.normal, [v30,v2,v57,v58,v59,v2,v60,v4,v61,v62])) (M.pure (.normal, [undef,undef,undef,undef,undef,undef,undef,undef,undef,undef]))) fun x55 vs56=>l7 x55 (cb.bv CR (q9 v54 (d9 vs56 9) (.bool false)) fun v63=>
 cb.bj CR (l8 (o7 true v63) (cb.bv R2 (bn .eql 41 (.tmp 102) (.const (.int .i64 (.ofNat 24))) v38 (.int .i64 (.ofNat 24))) fun v66=>
 M.pure (.normal, [v38,v66])) (M.pure (.normal, [undef,undef]))) fun x64 vs65=>l7 x64 (cb.bv CR (q9 v63 (d9 vs65 1) (.bool false)) fun v67=>
 d4Z cb N call v67 vs23 v37) (fun _=>M.fail) M.fail l6) (fun _=>M.fail) M.fail l6
noncomputable def d6b (cb:Cb) (N:Nat) (call:j4) (v47:Value) (v30:Value) (v2:Value) (v4:Value) (v38:Value) (vs23:List Value) (v37:Value):M CR:=
 cb.bj CR (l8 (o7 true v47) (cb.bv R2 (F3 9 v30 v2) fun v50=>
 cb.bv R2 (l9 0 v50) fun v51=>
 cb.bv R2 (j5 v51) fun v52=>
 cb.bv R2 (bn .eql 22 (.tmp 86) (.const (.int .i64 (.ofNat 12))) v52 (.int .i64 (.ofNat 12))) fun v53=>
 M.pure (.normal, [v30,v2,v50,v51,v52,v53])) (M.pure (.normal, [undef,undef,undef,undef,undef,undef]))) fun x48 vs49=>l7 x48 (cb.bv CR (q9 v47 (d9 vs49 5) (.bool false)) fun v54=>
 d3N cb N call v54 v30 v2 v4 v38 vs23 v37) (fun _=>M.fail) M.fail l6
noncomputable def d2X (cb:Cb) (N:Nat) (call:j4) (v40:Value) (v30:Value) (v2:Value) (v4:Value) (v38:Value) (vs23:List Value) (v37:Value):M CR:=
 cb.bj CR (l8 (o7 true v40) (cb.bv R2 (H6 v30) fun v43=>
 cb.bv R2 (bn .mul 3 (.const (.int .i64 (.ofNat 2))) (.tmp 76) (.int .i64 (.ofNat 2)) v2) fun v44=>
 cb.bv R2 (bn .add 3 (.tmp 77) (.const (.int .i64 (.ofNat 1))) v44 (.int .i64 (.ofNat 1))) fun v45=>
 cb.bv R2 (bn .eql 3 (.tmp 75) (.tmp 78) v43 v45) fun v46=>
 M.pure (.normal, [v30,v43,v2,v44,v45,v46])) (M.pure (.normal, [undef,undef,undef,undef,undef,undef]))) fun x41 vs42=>l7 x41 (cb.bv CR (q9 v40 (d9 vs42 5) (.bool false)) fun v47=>
 d6b cb N call v47 v30 v2 v4 v38 vs23 v37) (fun _=>M.fail) M.fail l6
noncomputable def d4b (cb:Cb) (N:Nat) (call:j4) (v29:Value) (vs23:List Value) (v28:Value) (v32:Value) (v30:Value) (v2:Value) (v4:Value):M CR:=
 cb.bv CR (z8 3 v29) fun v33=>
 cb.bv CR (bn .add 9 (.tmp 63) (.const (.string ⟨⟨[98, 114, 32, 36, 108, 48]⟩⟩)) (d9 vs23 5) (.string ⟨⟨[98, 114, 32, 36, 108, 48]⟩⟩)) fun v34=>
 cb.bc CR (call 20 [v34,v28]) (fun v35=>
 cb.bv CR (z8 0 v35) fun v36=>
 cb.bv CR (z8 1 v35) fun v37=>
 cb.bv CR (z8 2 v35) fun v38=>
 cb.bv CR (z8 3 v35) fun v39=>
 cb.bv CR (bn .eql 41 (.tmp 71) (.const (.int .i64 (.ofNat 0))) v32 (.int .i64 (.ofNat 0))) fun v40=>
 d2X cb N call v40 v30 v2 v4 v38 vs23 v37) l6
noncomputable def c7t (cb:Cb) (N:Nat) (call:j4) (vs7:List Value) (v19:Value) (v2:Value) (v4:Value):M CR:=
 cb.bv CR (bn .add 9 (.tmp 39) (.tmp 44) (d9 vs7 10) v19) fun v20=>
 cb.bj CR (cb.lp (d6A cb N call v2) N [undef,undef,undef,undef,undef,v20,undef,undef,(.int .i64 (.ofNat 0))]) fun x22 vs23=>
 l7 x22 (M.fail) (fun i27=>l8 (Nat.beq i27 2) (cb.bc CR (call 21 []) (fun v28=>
 cb.bc CR (call 20 [(d9 vs23 5),v28]) (fun v29=>
 cb.bv CR (z8 0 v29) fun v30=>
 cb.bv CR (z8 1 v29) fun v31=>
 cb.bv CR (z8 2 v29) fun v32=>
 d4b cb N call v29 vs23 v28 v32 v30 v2 v4) l6) l6) (M.fail)) (M.fail) l6
noncomputable def c2G (cb:Cb) (N:Nat) (call:j4) (v2:Value) (v4:Value):M CR:=
 cb.bj CR (cb.lp (d2U cb N call v2) N [undef,undef,undef,undef,undef,undef,undef,undef,undef,undef,(.string ⟨⟨[]⟩⟩),undef,undef,(.int .i64 (.ofNat 0))]) fun x6 vs7=>
 l7 x6 (M.fail) (fun i15=>l8 (Nat.beq i15 0) (cb.bv CR (I7 .u64 v4) fun v16=>
 cb.bc CR (call 25 [v16]) (fun v17=>
 cb.bv CR (bn .add 9 (.const (.string ⟨⟨[98, 114, 32, 36, 108]⟩⟩)) (.tmp 42) (.string ⟨⟨[98, 114, 32, 36, 108]⟩⟩) v17) fun v18=>
 cb.bv CR (bn .add 9 (.tmp 43) (.const (.string ⟨⟨[32]⟩⟩)) v18 (.string ⟨⟨[32]⟩⟩)) fun v19=>
 c7t cb N call vs7 v19 v2 v4) l6) (M.fail)) (M.fail) l6
noncomputable def sh7 (cb:Cb) (N:Nat) (call:j4) (a0:Value) (a1:Value):M CR:=
 cb.bv CR (bn .rem 5 (.tmp 19) (.const (.int .u8 (.ofNat 10))) a0 (.int .u8 (.ofNat 10))) fun v0=>
 cb.bv CR (I7 .i64 v0) fun v1=>
 cb.bv CR (bn .add 3 (.tmp 21) (.const (.int .i64 (.ofNat 1))) v1 (.int .i64 (.ofNat 1))) fun v2=>
 cb.bv CR (I7 .i64 a1) fun v3=>
 cb.bv CR (bn .rem 3 (.tmp 24) (.tmp 25) v3 v2) fun v4=>
 c2G cb N call v2 v4
theorem d9A (cb:Cb) (N:Nat) (call:j4) (a0:Value) (a1:Value):D5 Tryz.prog A9 cb false N call Tryz.f7 c7 pl7 [a0,a1]=sh7 cb N call a0 a1:=by kernel_rfl
noncomputable def c20:Code:=D6 Tryz.f20
noncomputable def e9A:Pl:=.d
noncomputable def d6T (cb:Cb) (N:Nat) (call:j4) (v1:Value) (a1:Value):M CR:=
 cb.bc CR (call 30 [v1]) (fun v5=>
 cb.bc CR (call 29 [v5,a1]) (fun v6=>
 cb.bv CR (z8 0 v6) fun v7=>
 cb.bv CR (z8 1 v6) fun v8=>
 cb.bv CR (z8 2 v6) fun v9=>
 M.pure (.ret (.tuple ⟨[v7,v8,v9,(.bool true)]⟩))) l6) l6
noncomputable def d4u (cb:Cb) (N:Nat) (call:j4) (a0:Value) (a1:Value):M CR:=
 cb.bc CR (call 27 [a0]) (fun v0=>
 cb.bv CR (z8 0 v0) fun v1=>
 cb.bv CR (z8 1 v0) fun v2=>
 cb.bv CR (z8 2 v0) fun v3=>
 cb.bv CR (bn .neq 41 (.tmp 20) (.const (.int .i64 (.ofNat 0))) v3 (.int .i64 (.ofNat 0))) fun v4=>
 j6 v4 (
 M.pure (.ret (.tuple ⟨[(.slice none 0 0),(.int .i64 (.ofNat 0)),v3,(.bool false)]⟩))) (
 d6T cb N call v1 a1)) l6
theorem d8w (cb:Cb) (N:Nat) (call:j4) (a0:Value) (a1:Value):D5 Tryz.prog A9 cb false N call Tryz.f20 c20 e9A [a0,a1]=d4u cb N call a0 a1:=by kernel_rfl
noncomputable def c21:Code:=D6 Tryz.f21
noncomputable def f0f:Pl:=(.s none .d (.s none .d (.s none (.s none .d (.s none (.l [7, 8, 2, 9, 10, 11, 12, 13, 14, 15, 16, 17, 6] .d) .d)) .d)))
noncomputable def c6S (cb:Cb) (N:Nat) (call:j4) (v2:Value) (xs3:List Value) (v6:Value):M R2:=
 cb.bv R2 (q8 v2) fun v7=>
 cb.bv R2 (l9 0 v7) fun v8=>
 cb.bv R2 (j5 v8) fun v9=>
 cb.bv R2 (b1c) fun v10=>
 cb.bv R2 (H7 [(2, 1)] [v10] [(.int .i64 (.ofNat 0)),(.slice none 0 0),(.map none)]) fun v11=>
 cb.bv R2 (U7 v11) fun v12=>
 cb.bv R2 (e0L A9 90 v9 (d9 xs3 12) v12) fun v13=>
 cb.bv R2 (bn .add 3 (.tmp 6) (.const (.int .i64 (.ofNat 1))) (d9 xs3 12) (.int .i64 (.ofNat 1))) fun v14=>
 M.pure (.normal, [v6,(d9 xs3 12),(d9 xs3 12),v2,v7,v8,v9,(d9 xs3 12),v10,v11,v12,v14,v14])
noncomputable def d7q (cb:Cb) (N:Nat) (call:j4) (v6:Value) (xs3:List Value):M R2:=
 M.pure (.exit 0, [v6,(d9 xs3 1),(d9 xs3 2),(d9 xs3 3),(d9 xs3 4),(d9 xs3 5),(d9 xs3 6),(d9 xs3 7),(d9 xs3 8),(d9 xs3 9),(d9 xs3 10),(d9 xs3 11),(d9 xs3 12)])
noncomputable def c6x (cb:Cb) (N:Nat) (call:j4) (v2:Value) (xs3:List Value):M R2:=
 cb.bv R2 (bn .lss 3 (.tmp 6) (.const (.int .i64 (.ofNat 9))) (d9 xs3 12) (.int .i64 (.ofNat 9))) fun v6=>
 j6 v6 (
 c6S cb N call v2 xs3 v6) (
 d7q cb N call v6 xs3)
noncomputable def d3e (cb:Cb) (N:Nat) (call:j4):M CR:=
 cb.bv CR (b1c) fun v0=>
 cb.bv CR (H7 [(0, 1)] [v0] [(.map none),(.slice none 0 0)]) fun v1=>
 cb.bv CR (U7 v1) fun v2=>
 cb.bj CR (cb.lp (c6x cb N call v2) N [undef,undef,undef,undef,undef,undef,undef,undef,undef,undef,undef,undef,(.int .i64 (.ofNat 0))]) fun x4 vs5=>
 l7 x4 (M.fail) (fun i15=>l8 (Nat.beq i15 0) (M.pure (.ret v2)) (M.fail)) (M.fail) l6
theorem d8T (cb:Cb) (N:Nat) (call:j4):D5 Tryz.prog A9 cb false N call Tryz.f21 c21 f0f []=d3e cb N call:=by kernel_rfl
noncomputable def c25:Code:=D6 Tryz.f25
noncomputable def e8N:Pl:=.d
noncomputable def a5a:List Oper:=J7 c25 3
noncomputable def c6b (call:j4) (u0:Value) (u1:Value) (u2:Value) (u3:Value) (u4:Value) (u5:Value) (u6:Value) (u7:Value) (u8:Value) (u9:Value) (u10:Value):M R2:=
 M.bind (M.foot (M.pure u3)) fun y0=>
 M.bind (M.foot (bn .quo 23 (.tmp 9) (.const (.int .u64 (.ofNat 10))) y0.1 (.int .u64 (.ofNat 10)))) fun y1=>
 M.bind (M.foot (D7 call 25 [y1.1])) fun y2=>
 M.bind (M.foot (M.pure u3)) fun y3=>
 M.bind (M.foot (bn .rem 23 (.tmp 12) (.const (.int .u64 (.ofNat 10))) y3.1 (.int .u64 (.ofNat 10)))) fun y4=>
 M.bind (M.foot (M.pure u3)) fun y5=>
 M.bind (M.foot (bn .rem 23 (.tmp 14) (.const (.int .u64 (.ofNat 10))) y5.1 (.int .u64 (.ofNat 10)))) fun y6=>
 M.bind (M.foot (bn .add 23 (.tmp 15) (.const (.int .u64 (.ofNat 1))) y6.1 (.int .u64 (.ofNat 1)))) fun y7=>
 M.bind (M.foot (J4 (.string ⟨⟨[48, 49, 50, 51, 52, 53, 54, 55, 56, 57, 97, 98, 99, 100, 101, 102]⟩⟩) (some y4.1) (some y7.1))) fun y8=>
 M.bind (M.foot (bn .add 9 (.tmp 11) (.tmp 17) y2.1 y8.1)) fun y9=>
 M.bind (M.foot (M.pure y9.1)) fun y10=>
 M.guard (E9 a5a (H9 a5a [y0.2,y1.2,y2.2,y3.2,y4.2,y5.2,y6.2,y7.2,y8.2,y9.2,y10.2]) [] [] 0) (M.pure (.normal, [y0.1,y1.1,y2.1,y3.1,y4.1,y5.1,y6.1,y7.1,y8.1,y9.1,y10.1]))
theorem d4t (call:j4) (u0:Value) (u1:Value) (u2:Value) (u3:Value) (u4:Value) (u5:Value) (u6:Value) (u7:Value) (u8:Value) (u9:Value) (u10:Value):dr call a5a 19 [9, 10, 12, 0, 14, 15, 13, 16, 11, 17, 18] [u0,u1,u2,u3,u4,u5,u6,u7,u8,u9,u10] [9, 10, 11, 12, 13, 14, 15, 16, 17, 18, 2]=c6b call u0 u1 u2 u3 u4 u5 u6 u7 u8 u9 u10:=(F6 _ _ _ _ _ _ _ _).trans (by kernel_rfl)
noncomputable def c1d (cb:Cb) (N:Nat) (call:j4) (a0:Value):M CR:=
 cb.bv CR (bn .add 23 (.tmp 6) (.const (.int .u64 (.ofNat 1))) a0 (.int .u64 (.ofNat 1))) fun v1=>
 cb.bv CR (J4 (.string ⟨⟨[48, 49, 50, 51, 52, 53, 54, 55, 56, 57, 97, 98, 99, 100, 101, 102]⟩⟩) (some a0) (some v1)) fun v2=>
 M.pure (.ret v2)
noncomputable def c4s (cb:Cb) (N:Nat) (call:j4) (a0:Value):M CR:=
 cb.bj CR (dr call a5a 19 [9, 10, 12, 0, 14, 15, 13, 16, 11, 17, 18] [undef,undef,undef,a0,undef,undef,undef,undef,undef,undef,undef] [9, 10, 11, 12, 13, 14, 15, 16, 17, 18, 2]) fun _ vs3=>
 M.pure (.ret (d9 vs3 10))
noncomputable def d6w (cb:Cb) (N:Nat) (call:j4) (a0:Value):M CR:=
 cb.bv CR (bn .lss 23 (.tmp 3) (.const (.int .u64 (.ofNat 10))) a0 (.int .u64 (.ofNat 10))) fun v0=>
 j6 v0 (
 c1d cb N call a0) (
 c4s cb N call a0)
theorem d8I (cb:Cb) (N:Nat) (call:j4) (a0:Value):D5 Tryz.prog A9 cb false N call Tryz.f25 c25 e8N [a0]=d6w cb N call a0:=by kernel_rfl
noncomputable def c27:Code:=D6 Tryz.f27
noncomputable def e9a:Pl:=.d
noncomputable def a5T:List Oper:=J7 c27 5
noncomputable def c4j (call:j4) (u0:Value) (u1:Value) (u2:Value) (u3:Value) (u4:Value) (u5:Value) (u6:Value):M R2:=
 M.bind (M.foot (l9 0 u2)) fun y0=>
 M.bind (M.foot (j5 y0.1)) fun y1=>
 M.bind (M.foot (l9 2 u2)) fun y2=>
 M.bind (M.foot (j5 y2.1)) fun y3=>
 M.bind (M.foot (l9 3 u2)) fun y4=>
 M.bind (M.foot (j5 y4.1)) fun y5=>
 M.bind (M.foot (M.pure y1.1)) fun y6=>
 M.bind (M.foot (M.pure y3.1)) fun y7=>
 M.bind (M.foot (M.pure y5.1)) fun y8=>
 M.guard (E9 a5T (H9 a5T [y0.2,y1.2,y2.2,y3.2,y4.2,y5.2,y6.2,y7.2,y8.2]) [] [] 0) (M.pure (.normal, [y0.1,y1.1,y2.1,y3.1,y4.1,y5.1,y6.1,y7.1,y8.1]))
theorem d4H (call:j4) (u0:Value) (u1:Value) (u2:Value) (u3:Value) (u4:Value) (u5:Value) (u6:Value):dr call a5T 27 [21, 23, 8, 25, 22, 24, 26] [u0,u1,u2,u3,u4,u5,u6] [21, 22, 23, 24, 25, 26, 2, 3, 4]=c4j call u0 u1 u2 u3 u4 u5 u6:=(F6 _ _ _ _ _ _ _ _).trans (by kernel_rfl)
noncomputable def c6Y (cb:Cb) (N:Nat) (call:j4) (v1:Value):M CR:=
 cb.bc CR (call 65 [v1,(.int .i64 (.ofNat 0)),(.int .i64 (.ofNat 0)),(.int .i64 (.ofNat 0))]) (fun v5=>
 cb.bv CR (J6 [(.slice none 0 0),(.int .i64 (.ofNat 0)),(.int .i64 (.ofNat 0)),(.int .i64 (.ofNat 0))]) fun v6=>
 cb.bv CR (r9 4 v6 v5) fun v7=>
 cb.bj CR (dr call a5T 27 [21, 23, 8, 25, 22, 24, 26] [undef,undef,v6,undef,undef,undef,undef] [21, 22, 23, 24, 25, 26, 2, 3, 4]) fun _ vs8=>
 M.pure (.ret (.tuple ⟨[(d9 vs8 6),(d9 vs8 7),(d9 vs8 8)]⟩))) l6
noncomputable def d5F (cb:Cb) (N:Nat) (call:j4) (a0:Value):M CR:=
 cb.bc CR (call 64 [a0]) (fun v0=>
 cb.bv CR (z8 0 v0) fun v1=>
 cb.bv CR (z8 1 v0) fun v2=>
 cb.bv CR (z8 2 v0) fun v3=>
 cb.bv CR (bn .neq 41 (.tmp 15) (.const (.int .i64 (.ofNat 0))) v3 (.int .i64 (.ofNat 0))) fun v4=>
 j6 v4 (
 M.pure (.ret (.tuple ⟨[(.slice none 0 0),v2,v3]⟩))) (
 c6Y cb N call v1)) l6
theorem d8Q (cb:Cb) (N:Nat) (call:j4) (a0:Value):D5 Tryz.prog A9 cb false N call Tryz.f27 c27 e9a [a0]=d5F cb N call a0:=by kernel_rfl
noncomputable def c29:Code:=D6 Tryz.f29
noncomputable def e7Y:Pl:=(.s none .d (.s none .d (.s none .d (.s none .d (.s none .d (.s none (.s none .d (.s none (.l [25, 26, 27, 28, 24] .d) .d)) .d))))))
noncomputable def a3t:List Oper:=J7 c29 11
noncomputable def b2F (call:j4) (u0:Value) (u1:Value) (u2:Value) (u3:Value) (u4:Value) (u5:Value) (u6:Value) (u7:Value) (u8:Value):M R2:=
 M.bind (M.foot (j5 u3)) fun y0=>
 M.bind (M.foot (q8 y0.1)) fun y1=>
 M.bind (M.foot (l9 3 y1.1)) fun y2=>
 M.bind (M.foot (j5 y2.1)) fun y3=>
 M.bind (M.foot (j5 u3)) fun y4=>
 M.bind (M.foot (q8 y4.1)) fun y5=>
 M.bind (M.foot (l9 4 y5.1)) fun y6=>
 M.bind (M.foot (j5 y6.1)) fun y7=>
 M.bind (M.foot (M.pure (.slice none 0 0))) fun y8=>
 M.bind (M.foot (M.pure y3.1)) fun y9=>
 M.bind (M.foot (M.pure y7.1)) fun y10=>
 M.guard (E9 a3t (H9 a3t [y0.2,y1.2,y2.2,y3.2,y4.2,y5.2,y6.2,y7.2,y8.2,y9.2,y10.2]) [] [] 0) (M.pure (.normal, [y0.1,y1.1,y2.1,y3.1,y4.1,y5.1,y6.1,y7.1,y8.1,y9.1,y10.1]))
theorem d1N (call:j4) (u0:Value) (u1:Value) (u2:Value) (u3:Value) (u4:Value) (u5:Value) (u6:Value) (u7:Value) (u8:Value):dr call a3t 46 [34, 35, 36, 7, 38, 39, 40, 37, 41] [u0,u1,u2,u3,u4,u5,u6,u7,u8] [34, 35, 36, 37, 38, 39, 40, 41, 4, 5, 6]=b2F call u0 u1 u2 u3 u4 u5 u6 u7 u8:=(F6 _ _ _ _ _ _ _ _).trans (by kernel_rfl)
noncomputable def c6w (cb:Cb) (N:Nat) (call:j4) (a1:Value) (xs16:List Value) (v19:Value):M R2:=
 cb.bc R2 (call 77 [a1]) (fun v20=>
 cb.bv R2 (bn .add 3 (.tmp 24) (.const (.int .i64 (.ofNat 1))) (d9 xs16 4) (.int .i64 (.ofNat 1))) fun v21=>
 M.pure (.normal, [v19,a1,v20,v21,v21])) l6
noncomputable def c7E (cb:Cb) (N:Nat) (call:j4) (v15:Value) (a1:Value) (xs16:List Value):M R2:=
 cb.bv R2 (bn .lss 3 (.tmp 24) (.tmp 23) (d9 xs16 4) v15) fun v19=>
 j6 v19 (
 c6w cb N call a1 xs16 v19) (
 M.pure (.exit 0, [v19,(d9 xs16 1),(d9 xs16 2),(d9 xs16 3),(d9 xs16 4)]))
noncomputable def c3D (cb:Cb) (N:Nat) (call:j4) (v3:Value):M CR:=
 cb.bj CR (dr call a3t 46 [34, 35, 36, 7, 38, 39, 40, 37, 41] [undef,undef,undef,v3,undef,undef,undef,undef,undef] [34, 35, 36, 37, 38, 39, 40, 41, 4, 5, 6]) fun _ vs28=>
 M.pure (.ret (.tuple ⟨[(d9 vs28 8),(d9 vs28 9),(d9 vs28 10)]⟩))
noncomputable def d6G (cb:Cb) (N:Nat) (call:j4) (v3:Value):M CR:=
 cb.bv CR (j5 v3) fun v29=>
 cb.bv CR (q8 v29) fun v30=>
 cb.bv CR (l9 1 v30) fun v31=>
 cb.bv CR (j5 v31) fun v32=>
 M.pure (.ret (.tuple ⟨[v32,(.int .i64 (.ofNat 0)),(.int .i64 (.ofNat 0))]⟩))
noncomputable def c1R (cb:Cb) (N:Nat) (call:j4) (v14:Value) (a1:Value) (v3:Value):M CR:=
 cb.bv CR (j5 v14) fun v15=>
 cb.bj CR (cb.lp (c7E cb N call v15 a1) N [undef,undef,undef,undef,(.int .i64 (.ofNat 0))]) fun x17 vs18=>
 l7 x17 (M.fail) (fun i22=>l8 (Nat.beq i22 0) (cb.bv CR (j5 v3) fun v23=>
 cb.bv CR (q8 v23) fun v24=>
 cb.bv CR (l9 4 v24) fun v25=>
 cb.bv CR (j5 v25) fun v26=>
 cb.bv CR (bn .neq 41 (.tmp 32) (.const (.int .i64 (.ofNat 0))) v26 (.int .i64 (.ofNat 0))) fun v27=>
 j6 v27 (
 c3D cb N call v3) (
 d6G cb N call v3)) (M.fail)) (M.fail) l6
noncomputable def c2m (cb:Cb) (N:Nat) (call:j4) (a1:Value) (a0:Value):M CR:=
 cb.bv CR (H7 [(0, 1)] [a1] [(.pointer none),(.slice none 0 0),(.int .i64 (.ofNat 0)),(.int .i64 (.ofNat 0)),(.int .i64 (.ofNat 0)),.nilFunc]) fun v1=>
 cb.bv CR (U7 v1) fun v2=>
 cb.bv CR (J6 [(.pointer none)]) fun v3=>
 cb.bv CR (r9 1 v3 v2) fun v4=>
 cb.bv CR (j5 v3) fun v5=>
 cb.bv CR (d7s (.func 71) [] [v3]) fun v6=>
 cb.bv CR (q8 v5) fun v7=>
 cb.bv CR (l9 5 v7) fun v8=>
 cb.bv CR (r9 1 v8 v6) fun v9=>
 cb.bv CR (j5 v3) fun v10=>
 cb.bc CR (call 76 [v10,a0]) (fun v11=>
 cb.bv CR (j5 v3) fun v12=>
 cb.bv CR (q8 v12) fun v13=>
 cb.bv CR (l9 2 v13) fun v14=>
 c1R cb N call v14 a1 v3) l6
noncomputable def d5J (cb:Cb) (N:Nat) (call:j4) (a0:Value) (a1:Value):M CR:=
 cb.bv CR (bn .eql 44 (.tmp 8) (.const (.pointer none)) a1 (.pointer none)) fun v0=>
 j6 v0 (
 M.pure (.ret (.tuple ⟨[(.slice none 0 0),(.int .i64 (.ofNat 0)),(.int .i64 (.ofNat 2))]⟩))) (
 c2m cb N call a1 a0)
theorem d7T (cb:Cb) (N:Nat) (call:j4) (a0:Value) (a1:Value):D5 Tryz.prog A9 cb false N call Tryz.f29 c29 e7Y [a0,a1]=d5J cb N call a0 a1:=by kernel_rfl
noncomputable def c30:Code:=D6 Tryz.f30
noncomputable def e8H:Pl:=(.s none .d (.s none .d (.s none (.s none .d (.s none (.l [5, 6, 7, 8, 11, 12, 13, 14, 15, 16, 17, 18, 19, 20, 21, 22, 23, 24, 25, 26, 27, 28, 29, 30, 31, 32, 33, 34, 35, 3, 9, 10, 4] .d) .d)) .d)))
noncomputable def a5Q:List Oper:=J7 c30 5
noncomputable def c2n (call:j4) (u0:Value) (u1:Value) (u2:Value) (u3:Value) (u4:Value) (u5:Value) (u6:Value) (u7:Value) (u8:Value) (u9:Value) (u10:Value) (u11:Value) (u12:Value) (u13:Value) (u14:Value) (u15:Value) (u16:Value) (u17:Value) (u18:Value) (u19:Value) (u20:Value) (u21:Value) (u22:Value) (u23:Value) (u24:Value) (u25:Value) (u26:Value) (u27:Value):M R2:=
 M.bind (M.foot (M.pure u0)) fun y0=>
 M.bind (M.foot (M.pure u13)) fun y1=>
 M.bind (M.foot (M.pure u14)) fun y2=>
 M.bind (M.foot (F3 4 y1.1 y2.1)) fun y3=>
 M.bind (M.foot (l9 0 y3.1)) fun y4=>
 M.bind (M.foot (j5 y4.1)) fun y5=>
 M.bind (M.foot (M.pure u13)) fun y6=>
 M.bind (M.foot (M.pure u14)) fun y7=>
 M.bind (M.foot (F3 4 y6.1 y7.1)) fun y8=>
 M.bind (M.foot (l9 1 y8.1)) fun y9=>
 M.bind (M.foot (j5 y9.1)) fun y10=>
 M.bind (M.foot (M.pure u13)) fun y11=>
 M.bind (M.foot (M.pure u14)) fun y12=>
 M.bind (M.foot (F3 4 y11.1 y12.1)) fun y13=>
 M.bind (M.foot (l9 2 y13.1)) fun y14=>
 M.bind (M.foot (j5 y14.1)) fun y15=>
 M.bind (M.foot (M.pure u13)) fun y16=>
 M.bind (M.foot (M.pure u14)) fun y17=>
 M.bind (M.foot (F3 4 y16.1 y17.1)) fun y18=>
 M.bind (M.foot (l9 3 y18.1)) fun y19=>
 M.bind (M.foot (j5 y19.1)) fun y20=>
 M.bind (M.foot (D7 call 30 [y20.1])) fun y21=>
 M.bind (M.foot (H7 [(0, 1),(1, 1),(2, 1),(3, 1)] [y5.1,y10.1,y15.1,y21.1] [(.int .i64 (.ofNat 0)),(.int .i64 (.ofNat 0)),(.string ⟨⟨[]⟩⟩),(.slice none 0 0)])) fun y22=>
 M.bind (M.foot (H8 4 1 [(0, 4)] [y22.1] [(.int .i64 (.ofNat 0)),(.int .i64 (.ofNat 0)),(.string ⟨⟨[]⟩⟩),(.slice none 0 0)])) fun y23=>
 M.bind (M.foot (Q9 c5C y0.1 y23.1)) fun y24=>
 M.bind (M.foot (M.pure y24.1)) fun y25=>
 M.guard (E9 a5Q (H9 a5Q [y0.2,y1.2,y2.2,y3.2,y4.2,y5.2,y6.2,y7.2,y8.2,y9.2,y10.2,y11.2,y12.2,y13.2,y14.2,y15.2,y16.2,y17.2,y18.2,y19.2,y20.2,y21.2,y22.2,y23.2,y24.2,y25.2]) [] [] 0) (M.pure (.normal, [y0.1,y1.1,y2.1,y3.1,y4.1,y5.1,y6.1,y7.1,y8.1,y9.1,y10.1,y11.1,y12.1,y13.1,y14.1,y15.1,y16.1,y17.1,y18.1,y19.1,y20.1,y21.1,y22.1,y23.1,y24.1,y25.1]))
theorem d5Q (call:j4) (u0:Value) (u1:Value) (u2:Value) (u3:Value) (u4:Value) (u5:Value) (u6:Value) (u7:Value) (u8:Value) (u9:Value) (u10:Value) (u11:Value) (u12:Value) (u13:Value) (u14:Value) (u15:Value) (u16:Value) (u17:Value) (u18:Value) (u19:Value) (u20:Value) (u21:Value) (u22:Value) (u23:Value) (u24:Value) (u25:Value) (u26:Value) (u27:Value):dr call a5Q 37 [3, 12, 13, 14, 15, 17, 18, 19, 20, 22, 23, 24, 25, 0, 4, 27, 28, 29, 30, 31, 16, 21, 26, 32, 33, 11, 34, 35] [u0,u1,u2,u3,u4,u5,u6,u7,u8,u9,u10,u11,u12,u13,u14,u15,u16,u17,u18,u19,u20,u21,u22,u23,u24,u25,u26,u27] [11, 12, 13, 14, 15, 16, 17, 18, 19, 20, 21, 22, 23, 24, 25, 26, 27, 28, 29, 30, 31, 32, 33, 34, 35, 3]=c2n call u0 u1 u2 u3 u4 u5 u6 u7 u8 u9 u10 u11 u12 u13 u14 u15 u16 u17 u18 u19 u20 u21 u22 u23 u24 u25 u26 u27:=(F6 _ _ _ _ _ _ _ _).trans (by kernel_rfl)
noncomputable def c6H (cb:Cb) (N:Nat) (call:j4) (xs0:List Value) (a0:Value) (v3:Value) (v4:Value) (vs5:List Value):M R2:=
 cb.bv R2 (bn .add 3 (.tmp 9) (.const (.int .i64 (.ofNat 1))) (d9 xs0 32) (.int .i64 (.ofNat 1))) fun v6=>
 M.pure (.normal, [(d9 xs0 32),a0,v3,v4,(d9 vs5 0),(d9 vs5 1),(d9 vs5 2),(d9 vs5 3),(d9 vs5 4),(d9 vs5 5),(d9 vs5 6),(d9 vs5 7),(d9 vs5 8),(d9 vs5 9),(d9 vs5 10),(d9 vs5 11),(d9 vs5 12),(d9 vs5 13),(d9 vs5 14),(d9 vs5 15),(d9 vs5 16),(d9 vs5 17),(d9 vs5 18),(d9 vs5 19),(d9 vs5 20),(d9 vs5 21),(d9 vs5 22),(d9 vs5 23),(d9 vs5 24),(d9 vs5 25),(d9 xs0 32),v6,v6])
noncomputable def c0C (cb:Cb) (N:Nat) (call:j4) (xs0:List Value) (a0:Value) (v3:Value) (v4:Value):M R2:=
 cb.bj R2 (dr call a5Q 37 [3, 12, 13, 14, 15, 17, 18, 19, 20, 22, 23, 24, 25, 0, 4, 27, 28, 29, 30, 31, 16, 21, 26, 32, 33, 11, 34, 35] [(d9 xs0 29),(d9 xs0 5),(d9 xs0 6),(d9 xs0 7),(d9 xs0 8),(d9 xs0 10),(d9 xs0 11),(d9 xs0 12),(d9 xs0 13),(d9 xs0 15),(d9 xs0 16),(d9 xs0 17),(d9 xs0 18),a0,(d9 xs0 32),(d9 xs0 20),(d9 xs0 21),(d9 xs0 22),(d9 xs0 23),(d9 xs0 24),(d9 xs0 9),(d9 xs0 14),(d9 xs0 19),(d9 xs0 25),(d9 xs0 26),(d9 xs0 4),(d9 xs0 27),(d9 xs0 28)] [11, 12, 13, 14, 15, 16, 17, 18, 19, 20, 21, 22, 23, 24, 25, 26, 27, 28, 29, 30, 31, 32, 33, 34, 35, 3]) fun _ vs5=>
 c6H cb N call xs0 a0 v3 v4 vs5
noncomputable def d6U (cb:Cb) (N:Nat) (call:j4) (xs0:List Value) (a0:Value) (v3:Value) (v4:Value):M R2:=
 M.pure (.exit 0, [(d9 xs0 32),a0,v3,v4,(d9 xs0 4),(d9 xs0 5),(d9 xs0 6),(d9 xs0 7),(d9 xs0 8),(d9 xs0 9),(d9 xs0 10),(d9 xs0 11),(d9 xs0 12),(d9 xs0 13),(d9 xs0 14),(d9 xs0 15),(d9 xs0 16),(d9 xs0 17),(d9 xs0 18),(d9 xs0 19),(d9 xs0 20),(d9 xs0 21),(d9 xs0 22),(d9 xs0 23),(d9 xs0 24),(d9 xs0 25),(d9 xs0 26),(d9 xs0 27),(d9 xs0 28),(d9 xs0 29),(d9 xs0 30),(d9 xs0 31),(d9 xs0 32)])
noncomputable def c4B (cb:Cb) (N:Nat) (call:j4) (a0:Value) (xs0:List Value):M R2:=
 cb.bv R2 (H6 a0) fun v3=>
 cb.bv R2 (bn .lss 3 (.tmp 5) (.tmp 7) (d9 xs0 32) v3) fun v4=>
 j6 v4 (
 c0C cb N call xs0 a0 v3 v4) (
 d6U cb N call xs0 a0 v3 v4)
noncomputable def d3z (cb:Cb) (N:Nat) (call:j4) (a0:Value):M CR:=
 cb.bj CR (cb.lp (c4B cb N call a0) N [undef,undef,undef,undef,undef,undef,undef,undef,undef,undef,undef,undef,undef,undef,undef,undef,undef,undef,undef,undef,undef,undef,undef,undef,undef,undef,undef,undef,undef,(.slice none 0 0),undef,undef,(.int .i64 (.ofNat 0))]) fun x1 vs2=>
 l7 x1 (M.fail) (fun i7=>l8 (Nat.beq i7 0) (M.pure (.ret (d9 vs2 29))) (M.fail)) (M.fail) l6
theorem d9i (cb:Cb) (N:Nat) (call:j4) (a0:Value):D5 Tryz.prog A9 cb false N call Tryz.f30 c30 e8H [a0]=d3z cb N call a0:=by kernel_rfl
noncomputable def c32:Code:=D6 Tryz.f32
noncomputable def f0C:Pl:=(.s none .d (.s none .d (.s none .d (.s none (.s none .d (.s none (.l [23, 24, 6, 25, 26, 27, 28, 29, 30, 31, 32, 33, 34, 35, 36, 37, 38, 39, 40, 41, 4, 5, 42, 22] .d) .d)) .d))))
noncomputable def a5d:List Oper:=J7 c32 8
noncomputable def c2N (call:j4) (u0:Value) (u1:Value) (u2:Value) (u3:Value) (u4:Value) (u5:Value) (u6:Value) (u7:Value) (u8:Value) (u9:Value) (u10:Value) (u11:Value) (u12:Value) (u13:Value) (u14:Value) (u15:Value) (u16:Value) (u17:Value):M R2:=
 M.bind (M.foot (M.pure u3)) fun y0=>
 M.bind (M.foot (q8 y0.1)) fun y1=>
 M.bind (M.foot (l9 1 y1.1)) fun y2=>
 M.bind (M.foot (j5 y2.1)) fun y3=>
 M.bind (M.foot (M.pure u3)) fun y4=>
 M.bind (M.foot (q8 y4.1)) fun y5=>
 M.bind (M.foot (l9 1 y5.1)) fun y6=>
 M.bind (M.foot (j5 y6.1)) fun y7=>
 M.bind (M.foot (H6 y7.1)) fun y8=>
 M.bind (M.foot (bn .sub 3 (.tmp 33) (.const (.int .i64 (.ofNat 1))) y8.1 (.int .i64 (.ofNat 1)))) fun y9=>
 M.bind (M.foot (M.pure u9)) fun y10=>
 M.bind (M.foot (bn .sub 3 (.tmp 34) (.tmp 35) y9.1 y10.1)) fun y11=>
 M.bind (M.foot (F3 1 y3.1 y11.1)) fun y12=>
 M.bind (M.foot (j5 y12.1)) fun y13=>
 M.bind (M.foot (M.pure u15)) fun y14=>
 M.bind (M.foot (bn .eql 9 (.tmp 38) (.tmp 39) y13.1 y14.1)) fun y15=>
 M.guard (E9 a5d (H9 a5d [y0.2,y1.2,y2.2,y3.2,y4.2,y5.2,y6.2,y7.2,y8.2,y9.2,y10.2,y11.2,y12.2,y13.2,y14.2,y15.2]) [] [] 0) (M.pure (.normal, [y0.1,y1.1,y2.1,y3.1,y4.1,y5.1,y6.1,y7.1,y8.1,y9.1,y10.1,y11.1,y12.1,y13.1,y14.1,y15.1]))
theorem d5s (call:j4) (u0:Value) (u1:Value) (u2:Value) (u3:Value) (u4:Value) (u5:Value) (u6:Value) (u7:Value) (u8:Value) (u9:Value) (u10:Value) (u11:Value) (u12:Value) (u13:Value) (u14:Value) (u15:Value) (u16:Value) (u17:Value):dr call a5d 43 [25, 26, 27, 0, 29, 30, 31, 32, 33, 6, 34, 35, 28, 36, 37, 1, 38, 39] [u0,u1,u2,u3,u4,u5,u6,u7,u8,u9,u10,u11,u12,u13,u14,u15,u16,u17] [25, 26, 27, 28, 29, 30, 31, 32, 33, 34, 35, 36, 37, 38, 39, 40]=c2N call u0 u1 u2 u3 u4 u5 u6 u7 u8 u9 u10 u11 u12 u13 u14 u15 u16 u17:=(F6 _ _ _ _ _ _ _ _).trans (by kernel_rfl)
noncomputable def d6P (cb:Cb) (N:Nat) (call:j4) (a1:Value):M CR:=
 cb.bc CR (call 81 [a1,(.int .i64 (.ofNat 4294967295))]) (fun v4=>
 cb.bv CR (z8 0 v4) fun v5=>
 cb.bv CR (z8 1 v4) fun v6=>
 M.pure (.ret (.tuple ⟨[v5,v6]⟩))) l6
noncomputable def d6L (cb:Cb) (N:Nat) (call:j4) (v14:Value) (xs11:List Value) (vs15:List Value):M R2:=
 M.pure (.ret, [v14,(d9 xs11 23),(d9 xs11 23),(d9 vs15 0),(d9 vs15 1),(d9 vs15 2),(d9 vs15 3),(d9 vs15 4),(d9 vs15 5),(d9 vs15 6),(d9 vs15 7),(d9 vs15 8),(d9 vs15 9),(d9 vs15 10),(d9 vs15 11),(d9 vs15 12),(d9 vs15 13),(d9 vs15 14),(d9 vs15 15),(d9 xs11 23),(d9 xs11 23),(.int .i64 (.ofNat 0)),(d9 xs11 22),(d9 xs11 23)])
noncomputable def c5V (cb:Cb) (N:Nat) (call:j4) (xs11:List Value) (v14:Value) (vs15:List Value):M R2:=
 cb.bv R2 (bn .add 3 (.tmp 22) (.const (.int .i64 (.ofNat 1))) (d9 xs11 23) (.int .i64 (.ofNat 1))) fun v16=>
 M.pure (.normal, [v14,(d9 xs11 23),(d9 xs11 23),(d9 vs15 0),(d9 vs15 1),(d9 vs15 2),(d9 vs15 3),(d9 vs15 4),(d9 vs15 5),(d9 vs15 6),(d9 vs15 7),(d9 vs15 8),(d9 vs15 9),(d9 vs15 10),(d9 vs15 11),(d9 vs15 12),(d9 vs15 13),(d9 vs15 14),(d9 vs15 15),(d9 xs11 19),(d9 xs11 20),(d9 xs11 21),v16,v16])
noncomputable def c6s (cb:Cb) (N:Nat) (call:j4) (xs11:List Value) (a0:Value) (a1:Value) (v14:Value):M R2:=
 cb.bj R2 (dr call a5d 43 [25, 26, 27, 0, 29, 30, 31, 32, 33, 6, 34, 35, 28, 36, 37, 1, 38, 39] [(d9 xs11 3),(d9 xs11 4),(d9 xs11 5),a0,(d9 xs11 7),(d9 xs11 8),(d9 xs11 9),(d9 xs11 10),(d9 xs11 11),(d9 xs11 23),(d9 xs11 12),(d9 xs11 13),(d9 xs11 6),(d9 xs11 14),(d9 xs11 15),a1,(d9 xs11 16),(d9 xs11 17)] [25, 26, 27, 28, 29, 30, 31, 32, 33, 34, 35, 36, 37, 38, 39, 40]) fun _ vs15=>
 j6 (d9 vs15 15) (
 d6L cb N call v14 xs11 vs15) (
 c5V cb N call xs11 v14 vs15)
noncomputable def d7y (cb:Cb) (N:Nat) (call:j4) (v14:Value) (xs11:List Value):M R2:=
 M.pure (.exit 0, [v14,(d9 xs11 1),(d9 xs11 2),(d9 xs11 3),(d9 xs11 4),(d9 xs11 5),(d9 xs11 6),(d9 xs11 7),(d9 xs11 8),(d9 xs11 9),(d9 xs11 10),(d9 xs11 11),(d9 xs11 12),(d9 xs11 13),(d9 xs11 14),(d9 xs11 15),(d9 xs11 16),(d9 xs11 17),(d9 xs11 18),(d9 xs11 19),(d9 xs11 20),(d9 xs11 21),(d9 xs11 22),(d9 xs11 23)])
noncomputable def c1o (cb:Cb) (N:Nat) (call:j4) (v10:Value) (a0:Value) (a1:Value) (xs11:List Value):M R2:=
 cb.bv R2 (bn .lss 3 (.tmp 22) (.tmp 21) (d9 xs11 23) v10) fun v14=>
 j6 v14 (
 c6s cb N call xs11 a0 a1 v14) (
 d7y cb N call v14 xs11)
noncomputable def c1x (cb:Cb) (N:Nat) (call:j4) (v9:Value) (a0:Value) (a1:Value):M CR:=
 cb.bv CR (H6 v9) fun v10=>
 cb.bj CR (cb.lp (c1o cb N call v10 a0 a1) N [undef,undef,undef,undef,undef,undef,undef,undef,undef,undef,undef,undef,undef,undef,undef,undef,undef,undef,undef,undef,(.int .i64 (.ofNat 0)),(.int .i64 (.ofNat 0)),undef,(.int .i64 (.ofNat 0))]) fun x12 vs13=>
 l7 x12 (M.fail) (fun i17=>l8 (Nat.beq i17 0) (M.pure (.ret (.tuple ⟨[(.int .i64 (.ofNat 0)),(.int .i64 (.ofNat 24))]⟩))) (M.fail)) (M.pure (.ret (.tuple ⟨[(d9 vs13 20),(d9 vs13 21)]⟩))) l6
noncomputable def c2X (cb:Cb) (N:Nat) (call:j4) (a1:Value) (a0:Value):M CR:=
 cb.bc CR (call 80 [a1,(.string ⟨⟨[36]⟩⟩)]) (fun v2=>
 cb.bv CR (un .not v2) fun v3=>
 j6 v3 (
 d6P cb N call a1) (
 cb.bv CR (q8 a0) fun v7=>
 cb.bv CR (l9 1 v7) fun v8=>
 cb.bv CR (j5 v8) fun v9=>
 c1x cb N call v9 a0 a1)) l6
noncomputable def d3G (cb:Cb) (N:Nat) (call:j4) (a0:Value) (a1:Value):M CR:=
 cb.bc CR (call 79 [a0]) (fun v0=>
 cb.bv CR (un .not v0) fun v1=>
 j6 v1 (
 M.pure (.ret (.tuple ⟨[(.int .i64 (.ofNat 0)),(.int .i64 (.ofNat 2))]⟩))) (
 c2X cb N call a1 a0)) l6
theorem d8X (cb:Cb) (N:Nat) (call:j4) (a0:Value) (a1:Value):D5 Tryz.prog A9 cb false N call Tryz.f32 c32 f0C [a0,a1]=d3G cb N call a0 a1:=by kernel_rfl
noncomputable def c39:Code:=D6 Tryz.f39
noncomputable def f0G:Pl:=(.s none .d (.s none (.s none .d (.s none (.s (some [5, 6, 7, 4]) .d (.s none .d (.s (some [9, 10, 8]) .d (.s none .d (.s none .d (.s none .d (.s (some [14, 15, 13]) .d (.s none .d (.s none .d (.s none .d (.s none .d (.s none .d (.s (some [21, 22, 23, 20]) .d (.s none .d (.s (some [25, 26, 24]) .d .d))))))))))))))) .d)) .d))
noncomputable def c2a (cb:Cb) (N:Nat) (call:j4) (a0:Value) (v2:Value):M R2:=
 cb.bv R2 (bn .eql 22 (.tmp 3) (.const (.int .i64 (.ofNat 3))) a0 (.int .i64 (.ofNat 3))) fun v3=>
 j6 v3 (
 M.pure (.normal, [v2,v3,undef,v3])) (
 cb.bv R2 (bn .eql 22 (.tmp 3) (.const (.int .i64 (.ofNat 4))) a0 (.int .i64 (.ofNat 4))) fun v4=>
 M.pure (.normal, [v2,v3,v4,v4]))
noncomputable def c3A (cb:Cb) (N:Nat) (call:j4) (a0:Value) (v18:Value):M R2:=
 cb.bv R2 (bn .eql 22 (.tmp 3) (.const (.int .i64 (.ofNat 33))) a0 (.int .i64 (.ofNat 33))) fun v19=>
 j6 v19 (
 M.pure (.normal, [v18,v19,undef,v19])) (
 cb.bv R2 (bn .eql 22 (.tmp 3) (.const (.int .i64 (.ofNat 34))) a0 (.int .i64 (.ofNat 34))) fun v20=>
 M.pure (.normal, [v18,v19,v20,v20]))
noncomputable def c3r (cb:Cb) (N:Nat) (call:j4) (a0:Value):M CR:=
 cb.bc CR (call 91 [a0]) (fun v28=>
 cb.bv CR (bn .gtr 3 (.tmp 34) (.const (.int .i64 (.ofNat 0))) v28 (.int .i64 (.ofNat 0))) fun v29=>
 j6 v29 (
 M.pure (.ret (.int .i64 (.ofNat 17)))) (
 cb.bc CR (call 92 [a0]) (fun v30=>
 M.pure (.ret v30)) l6)) l6
noncomputable def c3P (cb:Cb) (N:Nat) (call:j4) (a0:Value):M CR:=
 cb.bv CR (bn .eql 22 (.tmp 3) (.const (.int .i64 (.ofNat 208))) a0 (.int .i64 (.ofNat 208))) fun v27=>
 j6 v27 (
 M.pure (.ret (.int .i64 (.ofNat 20)))) (
 c3r cb N call a0)
noncomputable def c5m (cb:Cb) (N:Nat) (call:j4) (a0:Value):M CR:=
 cb.bv CR (bn .eql 22 (.tmp 3) (.const (.int .i64 (.ofNat 66))) a0 (.int .i64 (.ofNat 66))) fun v26=>
 j6 v26 (
 M.pure (.ret (.int .i64 (.ofNat 19)))) (
 c3P cb N call a0)
noncomputable def c6Q (cb:Cb) (N:Nat) (call:j4) (a0:Value):M CR:=
 cb.bv CR (bn .eql 22 (.tmp 3) (.const (.int .i64 (.ofNat 65))) a0 (.int .i64 (.ofNat 65))) fun v25=>
 j6 v25 (
 M.pure (.ret (.int .i64 (.ofNat 18)))) (
 c5m cb N call a0)
noncomputable def c3w (cb:Cb) (N:Nat) (call:j4) (a0:Value):M CR:=
 cb.bj CR (cb.bv R2 (bn .eql 22 (.tmp 3) (.const (.int .i64 (.ofNat 35))) a0 (.int .i64 (.ofNat 35))) fun v23=>
 j6 v23 (
 M.pure (.normal, [v23,undef,v23])) (
 cb.bv R2 (bn .eql 22 (.tmp 3) (.const (.int .i64 (.ofNat 36))) a0 (.int .i64 (.ofNat 36))) fun v24=>
 M.pure (.normal, [v23,v24,v24]))) fun x21 vs22=>
 l7 x21 (j6 (d9 vs22 2) (
 M.pure (.ret (.int .i64 (.ofNat 8)))) (
 c6Q cb N call a0)) (fun _=>M.fail) (M.fail) l6
noncomputable def c5Z (cb:Cb) (N:Nat) (call:j4) (a0:Value):M CR:=
 cb.bj CR (cb.bv R2 (bn .eql 22 (.tmp 3) (.const (.int .i64 (.ofNat 32))) a0 (.int .i64 (.ofNat 32))) fun v18=>
 j6 v18 (
 M.pure (.normal, [v18,undef,undef,v18])) (
 c3A cb N call a0 v18)) fun x16 vs17=>
 l7 x16 (j6 (d9 vs17 3) (
 M.pure (.ret (.int .i64 (.ofNat 7)))) (
 c3w cb N call a0)) (fun _=>M.fail) (M.fail) l6
noncomputable def c0B (cb:Cb) (N:Nat) (call:j4) (a0:Value):M CR:=
 cb.bv CR (bn .eql 22 (.tmp 3) (.const (.int .i64 (.ofNat 28))) a0 (.int .i64 (.ofNat 28))) fun v15=>
 j6 v15 (
 M.pure (.ret (.int .i64 (.ofNat 6)))) (
 c5Z cb N call a0)
noncomputable def c5r (cb:Cb) (N:Nat) (call:j4) (a0:Value):M CR:=
 cb.bv CR (bn .eql 22 (.tmp 3) (.const (.int .i64 (.ofNat 17))) a0 (.int .i64 (.ofNat 17))) fun v14=>
 j6 v14 (
 M.pure (.ret (.int .i64 (.ofNat 5)))) (
 c0B cb N call a0)
noncomputable def b5r (cb:Cb) (N:Nat) (call:j4) (a0:Value):M CR:=
 cb.bj CR (cb.bv R2 (bn .eql 22 (.tmp 3) (.const (.int .i64 (.ofNat 16))) a0 (.int .i64 (.ofNat 16))) fun v12=>
 j6 v12 (
 M.pure (.normal, [v12,undef,v12])) (
 cb.bv R2 (bn .eql 22 (.tmp 3) (.const (.int .i64 (.ofNat 210))) a0 (.int .i64 (.ofNat 210))) fun v13=>
 M.pure (.normal, [v12,v13,v13]))) fun x10 vs11=>
 l7 x10 (j6 (d9 vs11 2) (
 M.pure (.ret (.int .i64 (.ofNat 4)))) (
 c5r cb N call a0)) (fun _=>M.fail) (M.fail) l6
noncomputable def b5R (cb:Cb) (N:Nat) (call:j4) (a0:Value):M CR:=
 cb.bv CR (bn .eql 22 (.tmp 3) (.const (.int .i64 (.ofNat 14))) a0 (.int .i64 (.ofNat 14))) fun v9=>
 j6 v9 (
 M.pure (.ret (.int .i64 (.ofNat 3)))) (
 b5r cb N call a0)
noncomputable def b7M (cb:Cb) (N:Nat) (call:j4) (a0:Value):M CR:=
 cb.bj CR (cb.bv R2 (bn .eql 22 (.tmp 3) (.const (.int .i64 (.ofNat 12))) a0 (.int .i64 (.ofNat 12))) fun v7=>
 j6 v7 (
 M.pure (.normal, [v7,undef,v7])) (
 cb.bv R2 (bn .eql 22 (.tmp 3) (.const (.int .i64 (.ofNat 13))) a0 (.int .i64 (.ofNat 13))) fun v8=>
 M.pure (.normal, [v7,v8,v8]))) fun x5 vs6=>
 l7 x5 (j6 (d9 vs6 2) (
 M.pure (.ret (.int .i64 (.ofNat 2)))) (
 b5R cb N call a0)) (fun _=>M.fail) (M.fail) l6
noncomputable def d6E (cb:Cb) (N:Nat) (call:j4) (a0:Value):M CR:=
 cb.bj CR (cb.bv R2 (bn .eql 22 (.tmp 3) (.const (.int .i64 (.ofNat 2))) a0 (.int .i64 (.ofNat 2))) fun v2=>
 j6 v2 (
 M.pure (.normal, [v2,undef,undef,v2])) (
 c2a cb N call a0 v2)) fun x0 vs1=>
 l7 x0 (j6 (d9 vs1 3) (
 M.pure (.ret (.int .i64 (.ofNat 1)))) (
 b7M cb N call a0)) (fun _=>M.fail) (M.fail) l6
theorem d8q (cb:Cb) (N:Nat) (call:j4) (a0:Value):D5 Tryz.prog A9 cb false N call Tryz.f39 c39 f0G [a0]=d6E cb N call a0:=by kernel_rfl
noncomputable def c40:Code:=D6 Tryz.f40
noncomputable def e8m:Pl:=.d
noncomputable def c2q (cb:Cb) (N:Nat) (call:j4) (a0:Value):M CR:=
 cb.bv CR (bn .eql 24 (.tmp 3) (.const (.int .i64 (.ofNat 4))) a0 (.int .i64 (.ofNat 4))) fun v3=>
 j6 v3 (
 M.pure (.ret (.string ⟨⟨[101, 120, 116, 101, 114, 110, 114, 101, 102]⟩⟩))) (
 M.pure (.ret (.string ⟨⟨[]⟩⟩)))
noncomputable def c7a (cb:Cb) (N:Nat) (call:j4) (a0:Value):M CR:=
 cb.bv CR (bn .eql 24 (.tmp 3) (.const (.int .i64 (.ofNat 3))) a0 (.int .i64 (.ofNat 3))) fun v2=>
 j6 v2 (
 M.pure (.ret (.string ⟨⟨[102, 117, 110, 99, 114, 101, 102]⟩⟩))) (
 c2q cb N call a0)
noncomputable def c5d (cb:Cb) (N:Nat) (call:j4) (a0:Value):M CR:=
 cb.bv CR (bn .eql 24 (.tmp 3) (.const (.int .i64 (.ofNat 2))) a0 (.int .i64 (.ofNat 2))) fun v1=>
 j6 v1 (
 M.pure (.ret (.string ⟨⟨[105, 54, 52]⟩⟩))) (
 c7a cb N call a0)
noncomputable def d4m (cb:Cb) (N:Nat) (call:j4) (a0:Value):M CR:=
 cb.bv CR (bn .eql 24 (.tmp 3) (.const (.int .i64 (.ofNat 1))) a0 (.int .i64 (.ofNat 1))) fun v0=>
 j6 v0 (
 M.pure (.ret (.string ⟨⟨[105, 51, 50]⟩⟩))) (
 c5d cb N call a0)
theorem d8j (cb:Cb) (N:Nat) (call:j4) (a0:Value):D5 Tryz.prog A9 cb false N call Tryz.f40 c40 e8m [a0]=d4m cb N call a0:=by kernel_rfl
noncomputable def c64:Code:=D6 Tryz.f64
noncomputable def e9n:Pl:=(.s none .d (.s none .d (.s none .d (.s none .d (.s none (.s none (.l [14, 15, 16, 17, 18, 19, 20, 7, 21, 22, 23, 24, 25, 26, 27, 29, 30, 31, 28, 32, 33, 34, 8, 9, 10, 35, 36, 37, 38, 2, 3, 4, 39, 40, 41, 42, 5, 43, 6] .d) .d) .d)))))
noncomputable def d6J (cb:Cb) (N:Nat) (call:j4) (xs2:List Value) (a0:Value) (v5:Value) (v6:Value) (v7:Value) (v8:Value):M R2:=
 M.pure (.ret, [(d9 xs2 38),a0,v5,v6,a0,(d9 xs2 38),v7,v7,v7,v8,(d9 xs2 38),(d9 xs2 11),(d9 xs2 12),(d9 xs2 13),(d9 xs2 14),(d9 xs2 15),(d9 xs2 16),(d9 xs2 17),(d9 xs2 18),(d9 xs2 19),(d9 xs2 20),(d9 xs2 21),(d9 xs2 22),(d9 xs2 23),(d9 xs2 24),(d9 xs2 25),(d9 xs2 26),(d9 xs2 27),(d9 xs2 28),(.slice none 0 0),(d9 xs2 38),(.int .i64 (.ofNat 3)),(d9 xs2 32),(d9 xs2 33),(d9 xs2 34),(d9 xs2 35),(d9 xs2 36),(d9 xs2 37),(d9 xs2 38)])
noncomputable def d6R (cb:Cb) (N:Nat) (call:j4) (xs2:List Value) (a0:Value) (v5:Value) (v6:Value) (v7:Value) (v8:Value) (v9:Value):M R2:=
 M.pure (.normal, [(d9 xs2 38),a0,v5,v6,a0,(d9 xs2 38),v7,v7,v7,v8,(d9 xs2 10),v7,(d9 xs2 38),v9,v7,(d9 xs2 15),(d9 xs2 16),(d9 xs2 17),(d9 xs2 18),(d9 xs2 19),(d9 xs2 20),(d9 xs2 21),(d9 xs2 22),(d9 xs2 23),(d9 xs2 24),(d9 xs2 25),(d9 xs2 26),(d9 xs2 27),(d9 xs2 28),(d9 xs2 29),(d9 xs2 30),(d9 xs2 31),(d9 xs2 32),(d9 xs2 33),(d9 xs2 34),(d9 xs2 35),(d9 xs2 36),(d9 xs2 37),v7])
noncomputable def d6V (cb:Cb) (N:Nat) (call:j4) (xs2:List Value) (a0:Value) (v5:Value) (v6:Value) (v7:Value) (v8:Value) (v9:Value) (v10:Value) (v11:Value) (v12:Value) (v13:Value) (v14:Value) (v16:Value):M R2:=
 M.pure (.ret, [(d9 xs2 38),a0,v5,v6,a0,(d9 xs2 38),v7,v7,v7,v8,(d9 xs2 10),v7,(d9 xs2 38),v9,(d9 xs2 14),a0,(d9 xs2 38),v10,v10,v11,v12,v13,v14,v12,v13,v13,v16,v12,v13,(.slice none 0 0),v12,v13,(d9 xs2 32),(d9 xs2 33),(d9 xs2 34),(d9 xs2 35),(d9 xs2 36),(d9 xs2 37),(d9 xs2 38)])
noncomputable def d6Q (cb:Cb) (N:Nat) (call:j4) (v14:Value) (xs2:List Value) (a0:Value) (v5:Value) (v6:Value) (v7:Value) (v8:Value) (v9:Value) (v10:Value) (v11:Value) (v12:Value) (v13:Value) (v16:Value):M R2:=
 cb.bv R2 (E8 3 v14) fun v17=>
 cb.bv R2 (H8 3 1 [(0, 3)] [v17] [(.int .i64 (.ofNat 0)),(.int .i64 (.ofNat 0)),(.string ⟨⟨[]⟩⟩)]) fun v18=>
 cb.bv R2 (Q9 b1n (d9 xs2 36) v18) fun v19=>
 M.pure (.normal, [(d9 xs2 38),a0,v5,v6,a0,(d9 xs2 38),v7,v7,v7,v8,(d9 xs2 10),v7,(d9 xs2 38),v9,(d9 xs2 14),a0,(d9 xs2 38),v10,v10,v11,v12,v13,v14,v12,v13,v13,v16,(d9 xs2 27),(d9 xs2 28),(d9 xs2 29),(d9 xs2 30),(d9 xs2 31),(d9 xs2 36),v17,v18,v19,v19,v12,v12])
noncomputable def c4E (cb:Cb) (N:Nat) (call:j4) (a0:Value) (xs2:List Value) (v5:Value) (v6:Value) (v7:Value) (v8:Value) (v9:Value):M R2:=
 cb.bc R2 (call 105 [a0,(d9 xs2 38)]) (fun v10=>
 cb.bv R2 (z8 0 v10) fun v11=>
 cb.bv R2 (z8 1 v10) fun v12=>
 cb.bv R2 (z8 2 v10) fun v13=>
 cb.bv R2 (J6 [(.int .i64 (.ofNat 0)),(.int .i64 (.ofNat 0)),(.string ⟨⟨[]⟩⟩)]) fun v14=>
 cb.bv R2 (r9 3 v14 v11) fun v15=>
 cb.bv R2 (bn .neq 41 (.tmp 35) (.const (.int .i64 (.ofNat 0))) v13 (.int .i64 (.ofNat 0))) fun v16=>
 j6 v16 (
 d6V cb N call xs2 a0 v5 v6 v7 v8 v9 v10 v11 v12 v13 v14 v16) (
 d6Q cb N call v14 xs2 a0 v5 v6 v7 v8 v9 v10 v11 v12 v13 v16)) l6
noncomputable def c6K (cb:Cb) (N:Nat) (call:j4) (v7:Value) (xs2:List Value) (a0:Value) (v5:Value) (v6:Value) (v8:Value):M R2:=
 cb.bv R2 (bn .gtr 3 (.tmp 24) (.tmp 25) v7 (d9 xs2 38)) fun v9=>
 j6 v9 (
 d6R cb N call xs2 a0 v5 v6 v7 v8 v9) (
 c4E cb N call a0 xs2 v5 v6 v7 v8 v9)
noncomputable def c1i (cb:Cb) (N:Nat) (call:j4) (a0:Value) (xs2:List Value) (v5:Value) (v6:Value):M R2:=
 cb.bc R2 (call 104 [a0,(d9 xs2 38)]) (fun v7=>
 cb.bv R2 (bn .lss 3 (.tmp 21) (.const (.int .i64 (.ofNat 0))) v7 (.int .i64 (.ofNat 0))) fun v8=>
 j6 v8 (
 d6J cb N call xs2 a0 v5 v6 v7 v8) (
 c6K cb N call v7 xs2 a0 v5 v6 v8)) l6
noncomputable def d7F (cb:Cb) (N:Nat) (call:j4) (xs2:List Value) (a0:Value) (v5:Value) (v6:Value):M R2:=
 M.pure (.exit 0, [(d9 xs2 38),a0,v5,v6,(d9 xs2 4),(d9 xs2 5),(d9 xs2 6),(d9 xs2 7),(d9 xs2 8),(d9 xs2 9),(d9 xs2 10),(d9 xs2 11),(d9 xs2 12),(d9 xs2 13),(d9 xs2 14),(d9 xs2 15),(d9 xs2 16),(d9 xs2 17),(d9 xs2 18),(d9 xs2 19),(d9 xs2 20),(d9 xs2 21),(d9 xs2 22),(d9 xs2 23),(d9 xs2 24),(d9 xs2 25),(d9 xs2 26),(d9 xs2 27),(d9 xs2 28),(d9 xs2 29),(d9 xs2 30),(d9 xs2 31),(d9 xs2 32),(d9 xs2 33),(d9 xs2 34),(d9 xs2 35),(d9 xs2 36),(d9 xs2 37),(d9 xs2 38)])
noncomputable def c0w (cb:Cb) (N:Nat) (call:j4) (a0:Value) (xs2:List Value):M R2:=
 cb.bv R2 (K7 a0) fun v5=>
 cb.bv R2 (bn .lss 3 (.tmp 14) (.tmp 16) (d9 xs2 38) v5) fun v6=>
 j6 v6 (
 c1i cb N call a0 xs2 v5 v6) (
 d7F cb N call xs2 a0 v5 v6)
noncomputable def c7b (cb:Cb) (N:Nat) (call:j4) (a0:Value):M CR:=
 cb.bj CR (cb.lp (c0w cb N call a0) N [undef,undef,undef,undef,undef,undef,undef,undef,undef,undef,undef,undef,undef,undef,undef,undef,undef,undef,undef,undef,undef,undef,undef,undef,undef,undef,undef,undef,undef,(.slice none 0 0),(.int .i64 (.ofNat 0)),(.int .i64 (.ofNat 0)),undef,undef,undef,undef,(.slice none 0 0),undef,(.int .i64 (.ofNat 0))]) fun x3 vs4=>
 l7 x3 (M.fail) (fun i20=>l8 (Nat.beq i20 0) (cb.bv CR (K7 a0) fun v21=>
 cb.bv CR (H7 [(0, 1),(1, 1)] [(.int .i64 (.ofNat 4)),v21] [(.int .i64 (.ofNat 0)),(.int .i64 (.ofNat 0)),(.string ⟨⟨[]⟩⟩)]) fun v22=>
 cb.bv CR (H8 3 1 [(0, 3)] [v22] [(.int .i64 (.ofNat 0)),(.int .i64 (.ofNat 0)),(.string ⟨⟨[]⟩⟩)]) fun v23=>
 cb.bv CR (Q9 b1n (d9 vs4 36) v23) fun v24=>
 M.pure (.ret (.tuple ⟨[v24,(.int .i64 (.ofNat 0)),(.int .i64 (.ofNat 0))]⟩))) (l8 (Nat.beq i20 1) (M.fail) (M.fail))) (M.pure (.ret (.tuple ⟨[(d9 vs4 29),(d9 vs4 30),(d9 vs4 31)]⟩))) l6
noncomputable def d6g (cb:Cb) (N:Nat) (call:j4) (a0:Value):M CR:=
 cb.bv CR (K7 a0) fun v0=>
 cb.bv CR (bn .gtr 3 (.tmp 12) (.const (.int .i64 (.ofNat 1048576))) v0 (.int .i64 (.ofNat 1048576))) fun v1=>
 j6 v1 (
 M.pure (.ret (.tuple ⟨[(.slice none 0 0),(.int .i64 (.ofNat 0)),(.int .i64 (.ofNat 6))]⟩))) (
 c7b cb N call a0)
theorem d8b (cb:Cb) (N:Nat) (call:j4) (a0:Value):D5 Tryz.prog A9 cb false N call Tryz.f64 c64 e9n [a0]=d6g cb N call a0:=by kernel_rfl
noncomputable def c65:Code:=D6 Tryz.f65
noncomputable def e8A:Pl:=(.s none .d (.s none .d (.s none (.s none (.l [12, 13, 14, 15, 16, 17, 18, 19, 20, 21, 22, 23, 24, 25, 26, 27, 10, 28, 29, 43, 42, 44, 45, 46, 47, 48, 49, 50, 51, 52, 54, 53, 55, 56, 57, 58, 59, 60, 61, 62, 63, 64, 65, 66, 67, 11, 68, 69, 70, 71, 72, 73, 74, 75, 76, 77, 78, 79, 80, 81, 30, 31, 32, 33, 34, 35, 36, 37, 38, 39, 9, 40, 41, 1] .d) .d) .d)))
noncomputable def e6i (cb:Cb) (N:Nat) (call:j4) (xs1:List Value) (a0:Value) (v4:Value) (v5:Value) (vs7:List Value) (v12:Value) (v13:Value) (v14:Value) (v15:Value) (v17:Value) (v18:Value) (v19:Value) (a2:Value) (v20:Value) (v21:Value) (v22:Value) (v23:Value):M R2:=
 M.pure (.ret, [(d9 xs1 73),a0,v4,v5,v5,(d9 vs7 0),(d9 vs7 1),(d9 vs7 2),(d9 vs7 3),(d9 vs7 4),(d9 vs7 5),v12,a0,(d9 xs1 73),v13,v14,v15,v17,v18,v19,v19,a2,v20,v21,v22,v23,(d9 xs1 26),(d9 xs1 27),(d9 xs1 28),(d9 xs1 29),(d9 xs1 30),(d9 xs1 31),(d9 xs1 32),(d9 xs1 33),(d9 xs1 34),(d9 xs1 35),(d9 xs1 36),(d9 xs1 37),(d9 xs1 38),(d9 xs1 39),(d9 xs1 40),(d9 xs1 41),(d9 xs1 42),(d9 xs1 43),(d9 xs1 44),(d9 xs1 45),(d9 xs1 46),(d9 xs1 47),(d9 xs1 48),(d9 xs1 49),(d9 xs1 50),(d9 xs1 51),(d9 xs1 52),(d9 xs1 53),(d9 xs1 54),(d9 xs1 55),(d9 xs1 56),(d9 xs1 57),(d9 xs1 58),(d9 xs1 59),(d9 xs1 60),(d9 xs1 61),(d9 xs1 62),(d9 xs1 63),(d9 xs1 64),(d9 xs1 65),(d9 xs1 66),(d9 xs1 67),(d9 xs1 68),(d9 xs1 69),(d9 xs1 70),(d9 xs1 71),(d9 xs1 72),(d9 xs1 73)])
noncomputable def d7w (cb:Cb) (N:Nat) (call:j4) (v15:Value) (v0:Value) (xs1:List Value) (a0:Value) (v4:Value) (v5:Value) (vs7:List Value) (v12:Value) (v13:Value) (v14:Value) (v17:Value) (v18:Value) (v19:Value) (a2:Value) (v20:Value):M R2:=
 cb.bv R2 (l9 1 v15) fun v21=>
 cb.bv R2 (j5 v21) fun v22=>
 cb.bv R2 (H7 [(2, 1),(3, 1)] [v22,(.int .i64 (.ofNat 4))] [(.slice none 0 0),(.int .i64 (.ofNat 0)),(.int .i64 (.ofNat 0)),(.int .i64 (.ofNat 0))]) fun v23=>
 cb.bv R2 (r9 4 v0 v23) fun v24=>
 e6i cb N call xs1 a0 v4 v5 vs7 v12 v13 v14 v15 v17 v18 v19 a2 v20 v21 v22 v23
noncomputable def d6N (cb:Cb) (N:Nat) (call:j4) (xs1:List Value) (a0:Value) (v4:Value) (v5:Value) (vs7:List Value) (v12:Value) (v13:Value) (v14:Value) (v15:Value) (v17:Value) (v18:Value) (v19:Value) (a2:Value) (v20:Value) (v25:Value) (v26:Value):M R2:=
 M.pure (.ret, [(d9 xs1 73),a0,v4,v5,v5,(d9 vs7 0),(d9 vs7 1),(d9 vs7 2),(d9 vs7 3),(d9 vs7 4),(d9 vs7 5),v12,a0,(d9 xs1 73),v13,v14,v15,v17,v18,v19,v19,a2,v20,(d9 xs1 23),(d9 xs1 24),(d9 xs1 25),(d9 xs1 70),(d9 xs1 73),v25,v26,(d9 xs1 30),(d9 xs1 31),(d9 xs1 32),(d9 xs1 33),(d9 xs1 34),(d9 xs1 35),(d9 xs1 36),(d9 xs1 37),(d9 xs1 38),(d9 xs1 39),(d9 xs1 40),(d9 xs1 41),(d9 xs1 42),(d9 xs1 43),(d9 xs1 44),(d9 xs1 45),(d9 xs1 46),(d9 xs1 47),(d9 xs1 48),(d9 xs1 49),(d9 xs1 50),(d9 xs1 51),(d9 xs1 52),(d9 xs1 53),(d9 xs1 54),(d9 xs1 55),(d9 xs1 56),(d9 xs1 57),(d9 xs1 58),(d9 xs1 59),(d9 xs1 60),(d9 xs1 61),(d9 xs1 62),(d9 xs1 63),(d9 xs1 64),(d9 xs1 65),(d9 xs1 66),(d9 xs1 67),(d9 xs1 68),(d9 xs1 69),(d9 xs1 70),(d9 xs1 71),(d9 xs1 72),(d9 xs1 73)])
noncomputable def c0I (cb:Cb) (N:Nat) (call:j4) (xs1:List Value) (v0:Value) (a0:Value) (v4:Value) (v5:Value) (vs7:List Value) (v12:Value) (v13:Value) (v14:Value) (v15:Value) (v17:Value) (v18:Value) (v19:Value) (a2:Value) (v20:Value):M R2:=
 cb.bv R2 (bn .add 3 (.tmp 50) (.const (.int .i64 (.ofNat 1))) (d9 xs1 73) (.int .i64 (.ofNat 1))) fun v25=>
 cb.bv R2 (H7 [(0, 1),(1, 1)] [(d9 xs1 70),v25] [(.slice none 0 0),(.int .i64 (.ofNat 0)),(.int .i64 (.ofNat 0)),(.int .i64 (.ofNat 0))]) fun v26=>
 cb.bv R2 (r9 4 v0 v26) fun v27=>
 d6N cb N call xs1 a0 v4 v5 vs7 v12 v13 v14 v15 v17 v18 v19 a2 v20 v25 v26
noncomputable def c6I (cb:Cb) (N:Nat) (call:j4) (a2:Value) (v15:Value) (v0:Value) (xs1:List Value) (a0:Value) (v4:Value) (v5:Value) (vs7:List Value) (v12:Value) (v13:Value) (v14:Value) (v17:Value) (v18:Value) (v19:Value):M R2:=
 cb.bv R2 (bn .eql 3 (.tmp 44) (.const (.int .i64 (.ofNat 0))) a2 (.int .i64 (.ofNat 0))) fun v20=>
 j6 v20 (
 d7w cb N call v15 v0 xs1 a0 v4 v5 vs7 v12 v13 v14 v17 v18 v19 a2 v20) (
 c0I cb N call xs1 v0 a0 v4 v5 vs7 v12 v13 v14 v15 v17 v18 v19 a2 v20)
noncomputable def e3t (cb:Cb) (N:Nat) (call:j4) (xs1:List Value) (a0:Value) (v4:Value) (v5:Value) (vs7:List Value) (v12:Value) (v13:Value) (v14:Value) (v15:Value) (v17:Value) (v18:Value) (v19:Value) (v28:Value) (a2:Value) (v29:Value) (v30:Value) (v31:Value) (v32:Value):M R2:=
 M.pure (.ret, [(d9 xs1 73),a0,v4,v5,v5,(d9 vs7 0),(d9 vs7 1),(d9 vs7 2),(d9 vs7 3),(d9 vs7 4),(d9 vs7 5),v12,a0,(d9 xs1 73),v13,v14,v15,v17,v18,v19,v19,(d9 xs1 21),(d9 xs1 22),(d9 xs1 23),(d9 xs1 24),(d9 xs1 25),(d9 xs1 26),(d9 xs1 27),(d9 xs1 28),(d9 xs1 29),v28,v28,a2,v29,v30,v31,v32,(d9 xs1 37),(d9 xs1 38),(d9 xs1 39),(d9 xs1 40),(d9 xs1 41),(d9 xs1 42),(d9 xs1 43),(d9 xs1 44),(d9 xs1 45),(d9 xs1 46),(d9 xs1 47),(d9 xs1 48),(d9 xs1 49),(d9 xs1 50),(d9 xs1 51),(d9 xs1 52),(d9 xs1 53),(d9 xs1 54),(d9 xs1 55),(d9 xs1 56),(d9 xs1 57),(d9 xs1 58),(d9 xs1 59),(d9 xs1 60),(d9 xs1 61),(d9 xs1 62),(d9 xs1 63),(d9 xs1 64),(d9 xs1 65),(d9 xs1 66),(d9 xs1 67),(d9 xs1 68),(d9 xs1 69),(d9 xs1 70),(d9 xs1 71),(d9 xs1 72),(d9 xs1 73)])
noncomputable def d7o (cb:Cb) (N:Nat) (call:j4) (v15:Value) (v0:Value) (xs1:List Value) (a0:Value) (v4:Value) (v5:Value) (vs7:List Value) (v12:Value) (v13:Value) (v14:Value) (v17:Value) (v18:Value) (v19:Value) (v28:Value) (a2:Value) (v29:Value):M R2:=
 cb.bv R2 (l9 1 v15) fun v30=>
 cb.bv R2 (j5 v30) fun v31=>
 cb.bv R2 (H7 [(2, 1),(3, 1)] [v31,(.int .i64 (.ofNat 6))] [(.slice none 0 0),(.int .i64 (.ofNat 0)),(.int .i64 (.ofNat 0)),(.int .i64 (.ofNat 0))]) fun v32=>
 cb.bv R2 (r9 4 v0 v32) fun v33=>
 e3t cb N call xs1 a0 v4 v5 vs7 v12 v13 v14 v15 v17 v18 v19 v28 a2 v29 v30 v31 v32
noncomputable def e5V (cb:Cb) (N:Nat) (call:j4) (xs1:List Value) (a0:Value) (v4:Value) (v5:Value) (vs7:List Value) (v12:Value) (v13:Value) (v14:Value) (v15:Value) (v17:Value) (v18:Value) (v19:Value) (v28:Value) (a2:Value) (v29:Value) (v34:Value) (v35:Value) (v36:Value) (v37:Value) (v38:Value) (v39:Value) (v41:Value) (v42:Value) (v43:Value) (v44:Value):M R2:=
 M.pure (.ret, [(d9 xs1 73),a0,v4,v5,v5,(d9 vs7 0),(d9 vs7 1),(d9 vs7 2),(d9 vs7 3),(d9 vs7 4),(d9 vs7 5),v12,a0,(d9 xs1 73),v13,v14,v15,v17,v18,v19,v19,(d9 xs1 21),(d9 xs1 22),(d9 xs1 23),(d9 xs1 24),(d9 xs1 25),(d9 xs1 26),(d9 xs1 27),(d9 xs1 28),(d9 xs1 29),v28,v28,a2,v29,(d9 xs1 34),(d9 xs1 35),(d9 xs1 36),a0,(d9 xs1 73),v34,a2,v35,v36,v37,v38,v39,v41,v42,v43,v44,(d9 xs1 50),(d9 xs1 51),(d9 xs1 52),(d9 xs1 53),(d9 xs1 54),(d9 xs1 55),(d9 xs1 56),(d9 xs1 57),(d9 xs1 58),(d9 xs1 59),(d9 xs1 60),(d9 xs1 61),(d9 xs1 62),(d9 xs1 63),(d9 xs1 64),(d9 xs1 65),(d9 xs1 66),(d9 xs1 67),(d9 xs1 68),(d9 xs1 69),(d9 xs1 70),(d9 xs1 71),(d9 xs1 72),(d9 xs1 73)])
noncomputable def d7f (cb:Cb) (N:Nat) (call:j4) (v39:Value) (v0:Value) (xs1:List Value) (a0:Value) (v4:Value) (v5:Value) (vs7:List Value) (v12:Value) (v13:Value) (v14:Value) (v15:Value) (v17:Value) (v18:Value) (v19:Value) (v28:Value) (a2:Value) (v29:Value) (v34:Value) (v35:Value) (v36:Value) (v37:Value) (v38:Value) (v41:Value) (v42:Value) (v43:Value):M R2:=
 cb.bv R2 (E8 4 v39) fun v44=>
 cb.bv R2 (r9 4 v0 v44) fun v45=>
 e5V cb N call xs1 a0 v4 v5 vs7 v12 v13 v14 v15 v17 v18 v19 v28 a2 v29 v34 v35 v36 v37 v38 v39 v41 v42 v43 v44
noncomputable def e5X (cb:Cb) (N:Nat) (call:j4) (xs1:List Value) (a0:Value) (v4:Value) (v5:Value) (vs7:List Value) (v12:Value) (v13:Value) (v14:Value) (v15:Value) (v17:Value) (v18:Value) (v19:Value) (v28:Value) (a2:Value) (v29:Value) (v34:Value) (v35:Value) (v36:Value) (v37:Value) (v38:Value) (v39:Value) (v41:Value) (v42:Value) (v43:Value) (v46:Value) (v47:Value) (v48:Value) (v49:Value) (v50:Value) (v51:Value) (v52:Value) (v53:Value) (v54:Value):M R2:=
 M.pure (.normal, [(d9 xs1 73),a0,v4,v5,v5,(d9 vs7 0),(d9 vs7 1),(d9 vs7 2),(d9 vs7 3),(d9 vs7 4),(d9 vs7 5),v12,a0,(d9 xs1 73),v13,v14,v15,v17,v18,v19,v19,(d9 xs1 21),(d9 xs1 22),(d9 xs1 23),(d9 xs1 24),(d9 xs1 25),(d9 xs1 26),(d9 xs1 27),(d9 xs1 28),(d9 xs1 29),v28,v28,a2,v29,(d9 xs1 34),(d9 xs1 35),(d9 xs1 36),a0,(d9 xs1 73),v34,a2,v35,v36,v37,v38,v39,v41,v42,v43,(d9 xs1 49),(d9 xs1 70),v46,v47,v48,v49,v50,v51,v52,v53,v54,(d9 xs1 60),(d9 xs1 61),(d9 xs1 62),(d9 xs1 63),(d9 xs1 64),(d9 xs1 65),(d9 xs1 66),(d9 xs1 67),(d9 xs1 68),(d9 xs1 69),v52,(d9 xs1 71),(d9 xs1 72),v54])
noncomputable def e0s (cb:Cb) (N:Nat) (call:j4) (v47:Value) (v49:Value) (xs1:List Value) (v39:Value) (a0:Value) (v4:Value) (v5:Value) (vs7:List Value) (v12:Value) (v13:Value) (v14:Value) (v15:Value) (v17:Value) (v18:Value) (v19:Value) (v28:Value) (a2:Value) (v29:Value) (v34:Value) (v35:Value) (v36:Value) (v37:Value) (v38:Value) (v41:Value) (v42:Value) (v43:Value) (v46:Value) (v48:Value):M R2:=
 cb.bv R2 (H7 [(1, 1),(3, 1)] [v47,v49] [(.int .i64 (.ofNat 0)),(.int .i64 (.ofNat 0)),(.string ⟨⟨[]⟩⟩),(.slice none 0 0)]) fun v50=>
 cb.bv R2 (H8 4 1 [(0, 4)] [v50] [(.int .i64 (.ofNat 0)),(.int .i64 (.ofNat 0)),(.string ⟨⟨[]⟩⟩),(.slice none 0 0)]) fun v51=>
 cb.bv R2 (Q9 b1e (d9 xs1 70) v51) fun v52=>
 cb.bv R2 (l9 1 v39) fun v53=>
 cb.bv R2 (j5 v53) fun v54=>
 e5X cb N call xs1 a0 v4 v5 vs7 v12 v13 v14 v15 v17 v18 v19 v28 a2 v29 v34 v35 v36 v37 v38 v39 v41 v42 v43 v46 v47 v48 v49 v50 v51 v52 v53 v54
noncomputable def d1D (cb:Cb) (N:Nat) (call:j4) (v15:Value) (v39:Value) (xs1:List Value) (a0:Value) (v4:Value) (v5:Value) (vs7:List Value) (v12:Value) (v13:Value) (v14:Value) (v17:Value) (v18:Value) (v19:Value) (v28:Value) (a2:Value) (v29:Value) (v34:Value) (v35:Value) (v36:Value) (v37:Value) (v38:Value) (v41:Value) (v42:Value) (v43:Value):M R2:=
 cb.bv R2 (l9 1 v15) fun v46=>
 cb.bv R2 (j5 v46) fun v47=>
 cb.bv R2 (l9 0 v39) fun v48=>
 cb.bv R2 (j5 v48) fun v49=>
 e0s cb N call v47 v49 xs1 v39 a0 v4 v5 vs7 v12 v13 v14 v15 v17 v18 v19 v28 a2 v29 v34 v35 v36 v37 v38 v41 v42 v43 v46 v48
noncomputable def b8K (cb:Cb) (N:Nat) (call:j4) (v38:Value) (v0:Value) (xs1:List Value) (a0:Value) (v4:Value) (v5:Value) (vs7:List Value) (v12:Value) (v13:Value) (v14:Value) (v15:Value) (v17:Value) (v18:Value) (v19:Value) (v28:Value) (a2:Value) (v29:Value) (v34:Value) (v35:Value) (v36:Value) (v37:Value):M R2:=
 cb.bv R2 (J6 [(.slice none 0 0),(.int .i64 (.ofNat 0)),(.int .i64 (.ofNat 0)),(.int .i64 (.ofNat 0))]) fun v39=>
 cb.bv R2 (r9 4 v39 v38) fun v40=>
 cb.bv R2 (l9 3 v39) fun v41=>
 cb.bv R2 (j5 v41) fun v42=>
 cb.bv R2 (bn .neq 41 (.tmp 69) (.const (.int .i64 (.ofNat 0))) v42 (.int .i64 (.ofNat 0))) fun v43=>
 j6 v43 (
 d7f cb N call v39 v0 xs1 a0 v4 v5 vs7 v12 v13 v14 v15 v17 v18 v19 v28 a2 v29 v34 v35 v36 v37 v38 v41 v42 v43) (
 d1D cb N call v15 v39 xs1 a0 v4 v5 vs7 v12 v13 v14 v17 v18 v19 v28 a2 v29 v34 v35 v36 v37 v38 v41 v42 v43)
noncomputable def b3v (cb:Cb) (N:Nat) (call:j4) (xs1:List Value) (a2:Value) (v15:Value) (a0:Value) (v0:Value) (v4:Value) (v5:Value) (vs7:List Value) (v12:Value) (v13:Value) (v14:Value) (v17:Value) (v18:Value) (v19:Value) (v28:Value) (v29:Value):M R2:=
 cb.bv R2 (bn .add 3 (.tmp 61) (.const (.int .i64 (.ofNat 1))) (d9 xs1 73) (.int .i64 (.ofNat 1))) fun v34=>
 cb.bv R2 (bn .add 3 (.tmp 63) (.const (.int .i64 (.ofNat 1))) a2 (.int .i64 (.ofNat 1))) fun v35=>
 cb.bv R2 (l9 1 v15) fun v36=>
 cb.bv R2 (j5 v36) fun v37=>
 cb.bc R2 (call 65 [a0,v34,v35,v37]) (fun v38=>
 b8K cb N call v38 v0 xs1 a0 v4 v5 vs7 v12 v13 v14 v15 v17 v18 v19 v28 a2 v29 v34 v35 v36 v37) l6
noncomputable def b5k (cb:Cb) (N:Nat) (call:j4) (a2:Value) (v15:Value) (v0:Value) (xs1:List Value) (a0:Value) (v4:Value) (v5:Value) (vs7:List Value) (v12:Value) (v13:Value) (v14:Value) (v17:Value) (v18:Value) (v19:Value) (v28:Value):M R2:=
 cb.bv R2 (bn .eql 3 (.tmp 55) (.const (.int .i64 (.ofNat 200))) a2 (.int .i64 (.ofNat 200))) fun v29=>
 j6 v29 (
 d7o cb N call v15 v0 xs1 a0 v4 v5 vs7 v12 v13 v14 v17 v18 v19 v28 a2 v29) (
 b3v cb N call xs1 a2 v15 a0 v0 v4 v5 vs7 v12 v13 v14 v17 v18 v19 v28 v29)
noncomputable def d1f (cb:Cb) (N:Nat) (call:j4) (xs1:List Value) (a0:Value) (v4:Value) (v5:Value) (vs7:List Value) (v12:Value) (v13:Value) (v14:Value) (v15:Value) (v17:Value) (v18:Value) (v19:Value) (v28:Value) (v55:Value) (v56:Value) (v57:Value) (v58:Value) (v59:Value) (v60:Value) (v61:Value) (v62:Value) (v63:Value) (v64:Value):M R2:=
 M.pure (.normal, [(d9 xs1 73),a0,v4,v5,v5,(d9 vs7 0),(d9 vs7 1),(d9 vs7 2),(d9 vs7 3),(d9 vs7 4),(d9 vs7 5),v12,a0,(d9 xs1 73),v13,v14,v15,v17,v18,v19,v19,(d9 xs1 21),(d9 xs1 22),(d9 xs1 23),(d9 xs1 24),(d9 xs1 25),(d9 xs1 26),(d9 xs1 27),(d9 xs1 28),(d9 xs1 29),v28,v28,(d9 xs1 32),(d9 xs1 33),(d9 xs1 34),(d9 xs1 35),(d9 xs1 36),(d9 xs1 37),(d9 xs1 38),(d9 xs1 39),(d9 xs1 40),(d9 xs1 41),(d9 xs1 42),(d9 xs1 43),(d9 xs1 44),(d9 xs1 45),(d9 xs1 46),(d9 xs1 47),(d9 xs1 48),(d9 xs1 49),(d9 xs1 50),(d9 xs1 51),(d9 xs1 52),(d9 xs1 53),(d9 xs1 54),(d9 xs1 55),(d9 xs1 56),(d9 xs1 57),(d9 xs1 58),(d9 xs1 59),(d9 xs1 70),v55,v56,v57,v58,v59,v60,v61,v62,v63,v63,(d9 xs1 73),v64,v64])
noncomputable def b4Q (cb:Cb) (N:Nat) (call:j4) (v56:Value) (v58:Value) (v60:Value) (xs1:List Value) (a0:Value) (v4:Value) (v5:Value) (vs7:List Value) (v12:Value) (v13:Value) (v14:Value) (v15:Value) (v17:Value) (v18:Value) (v19:Value) (v28:Value) (v55:Value) (v57:Value) (v59:Value):M R2:=
 cb.bv R2 (H7 [(0, 1),(1, 1),(2, 1)] [v56,v58,v60] [(.int .i64 (.ofNat 0)),(.int .i64 (.ofNat 0)),(.string ⟨⟨[]⟩⟩),(.slice none 0 0)]) fun v61=>
 cb.bv R2 (H8 4 1 [(0, 4)] [v61] [(.int .i64 (.ofNat 0)),(.int .i64 (.ofNat 0)),(.string ⟨⟨[]⟩⟩),(.slice none 0 0)]) fun v62=>
 cb.bv R2 (Q9 b1e (d9 xs1 70) v62) fun v63=>
 cb.bv R2 (bn .add 3 (.tmp 40) (.const (.int .i64 (.ofNat 1))) (d9 xs1 73) (.int .i64 (.ofNat 1))) fun v64=>
 d1f cb N call xs1 a0 v4 v5 vs7 v12 v13 v14 v15 v17 v18 v19 v28 v55 v56 v57 v58 v59 v60 v61 v62 v63 v64
noncomputable def b4r (cb:Cb) (N:Nat) (call:j4) (v15:Value) (xs1:List Value) (a0:Value) (v4:Value) (v5:Value) (vs7:List Value) (v12:Value) (v13:Value) (v14:Value) (v17:Value) (v18:Value) (v19:Value) (v28:Value):M R2:=
 cb.bv R2 (l9 0 v15) fun v55=>
 cb.bv R2 (j5 v55) fun v56=>
 cb.bv R2 (l9 1 v15) fun v57=>
 cb.bv R2 (j5 v57) fun v58=>
 cb.bv R2 (l9 2 v15) fun v59=>
 cb.bv R2 (j5 v59) fun v60=>
 b4Q cb N call v56 v58 v60 xs1 a0 v4 v5 vs7 v12 v13 v14 v15 v17 v18 v19 v28 v55 v57 v59
noncomputable def b5C (cb:Cb) (N:Nat) (call:j4) (v18:Value) (a2:Value) (v15:Value) (v0:Value) (xs1:List Value) (a0:Value) (v4:Value) (v5:Value) (vs7:List Value) (v12:Value) (v13:Value) (v14:Value) (v17:Value) (v19:Value):M R2:=
 cb.bv R2 (bn .eql 3 (.tmp 29) (.const (.int .i64 (.ofNat 0))) v18 (.int .i64 (.ofNat 0))) fun v28=>
 j6 v28 (
 b5k cb N call a2 v15 v0 xs1 a0 v4 v5 vs7 v12 v13 v14 v17 v18 v19 v28) (
 b4r cb N call v15 xs1 a0 v4 v5 vs7 v12 v13 v14 v17 v18 v19 v28)
noncomputable def b3Y (cb:Cb) (N:Nat) (call:j4) (a0:Value) (xs1:List Value) (a2:Value) (v0:Value) (v4:Value) (v5:Value) (vs7:List Value) (v12:Value):M R2:=
 cb.bv R2 (F3 3 a0 (d9 xs1 73)) fun v13=>
 cb.bv R2 (E8 3 v13) fun v14=>
 cb.bv R2 (J6 [(.int .i64 (.ofNat 0)),(.int .i64 (.ofNat 0)),(.string ⟨⟨[]⟩⟩)]) fun v15=>
 cb.bv R2 (r9 3 v15 v14) fun v16=>
 cb.bv R2 (l9 0 v15) fun v17=>
 cb.bv R2 (j5 v17) fun v18=>
 cb.bv R2 (bn .eql 3 (.tmp 29) (.const (.int .i64 (.ofNat 1))) v18 (.int .i64 (.ofNat 1))) fun v19=>
 j6 v19 (
 c6I cb N call a2 v15 v0 xs1 a0 v4 v5 vs7 v12 v13 v14 v17 v18 v19) (
 b5C cb N call v18 a2 v15 v0 xs1 a0 v4 v5 vs7 v12 v13 v14 v17 v19)
noncomputable def d1o (cb:Cb) (N:Nat) (call:j4) (xs1:List Value) (a0:Value) (v4:Value) (v5:Value) (vs7:List Value) (v12:Value):M R2:=
 M.pure (.exit 0, [(d9 xs1 73),a0,v4,v5,v5,(d9 vs7 0),(d9 vs7 1),(d9 vs7 2),(d9 vs7 3),(d9 vs7 4),(d9 vs7 5),v12,(d9 xs1 12),(d9 xs1 13),(d9 xs1 14),(d9 xs1 15),(d9 xs1 16),(d9 xs1 17),(d9 xs1 18),(d9 xs1 19),(d9 xs1 20),(d9 xs1 21),(d9 xs1 22),(d9 xs1 23),(d9 xs1 24),(d9 xs1 25),(d9 xs1 26),(d9 xs1 27),(d9 xs1 28),(d9 xs1 29),(d9 xs1 30),(d9 xs1 31),(d9 xs1 32),(d9 xs1 33),(d9 xs1 34),(d9 xs1 35),(d9 xs1 36),(d9 xs1 37),(d9 xs1 38),(d9 xs1 39),(d9 xs1 40),(d9 xs1 41),(d9 xs1 42),(d9 xs1 43),(d9 xs1 44),(d9 xs1 45),(d9 xs1 46),(d9 xs1 47),(d9 xs1 48),(d9 xs1 49),(d9 xs1 50),(d9 xs1 51),(d9 xs1 52),(d9 xs1 53),(d9 xs1 54),(d9 xs1 55),(d9 xs1 56),(d9 xs1 57),(d9 xs1 58),(d9 xs1 59),(d9 xs1 60),(d9 xs1 61),(d9 xs1 62),(d9 xs1 63),(d9 xs1 64),(d9 xs1 65),(d9 xs1 66),(d9 xs1 67),(d9 xs1 68),(d9 xs1 69),(d9 xs1 70),(d9 xs1 71),(d9 xs1 72),(d9 xs1 73)])
noncomputable def b1w (cb:Cb) (N:Nat) (call:j4) (v5:Value) (a0:Value) (xs1:List Value) (a2:Value) (v0:Value) (v4:Value):M R2:=
 cb.bj R2 (l8 (o7 true v5) (cb.bv R2 (F3 3 a0 (d9 xs1 73)) fun v8=>
 cb.bv R2 (l9 0 v8) fun v9=>
 cb.bv R2 (j5 v9) fun v10=>
 cb.bv R2 (bn .neq 3 (.tmp 21) (.const (.int .i64 (.ofNat 4))) v10 (.int .i64 (.ofNat 4))) fun v11=>
 M.pure (.normal, [a0,(d9 xs1 73),v8,v9,v10,v11])) (M.pure (.normal, [undef,undef,undef,undef,undef,undef]))) fun x6 vs7=>l7 x6 (cb.bv R2 (q9 v5 (d9 vs7 5) (.bool false)) fun v12=>
 j6 v12 (
 b3Y cb N call a0 xs1 a2 v0 v4 v5 vs7 v12) (
 d1o cb N call xs1 a0 v4 v5 vs7 v12)) (fun _=>M.fail) M.fail l6
noncomputable def b3t (cb:Cb) (N:Nat) (call:j4) (a0:Value) (a2:Value) (v0:Value) (xs1:List Value):M R2:=
 cb.bv R2 (H6 a0) fun v4=>
 cb.bv R2 (bn .lss 3 (.tmp 12) (.tmp 14) (d9 xs1 73) v4) fun v5=>
 b1w cb N call v5 a0 xs1 a2 v0 v4
noncomputable def d2L (cb:Cb) (N:Nat) (call:j4) (a3:Value) (v0:Value):M CR:=
 cb.bv CR (H7 [(2, 1),(3, 1)] [a3,(.int .i64 (.ofNat 3))] [(.slice none 0 0),(.int .i64 (.ofNat 0)),(.int .i64 (.ofNat 0)),(.int .i64 (.ofNat 0))]) fun v67=>
 cb.bv CR (r9 4 v0 v67) fun v68=>
 K5 v0 fun ad70=>cb.bv CR (M.bind (loadN ad70 4) fun q=>M.pure (.agg ⟨q⟩)) fun v69=>
 M.pure (.ret v69)
noncomputable def c9s (cb:Cb) (N:Nat) (call:j4) (vs3:List Value) (v0:Value):M CR:=
 cb.bv CR (H7 [(0, 1),(1, 1)] [(d9 vs3 70),(d9 vs3 73)] [(.slice none 0 0),(.int .i64 (.ofNat 0)),(.int .i64 (.ofNat 0)),(.int .i64 (.ofNat 0))]) fun v71=>
 cb.bv CR (r9 4 v0 v71) fun v72=>
 K5 v0 fun ad74=>cb.bv CR (M.bind (loadN ad74 4) fun q=>M.pure (.agg ⟨q⟩)) fun v73=>
 M.pure (.ret v73)
noncomputable def b7i (cb:Cb) (N:Nat) (call:j4) (a0:Value) (a2:Value) (v0:Value) (a1:Value) (a3:Value):M CR:=
 cb.bj CR (cb.lp (b3t cb N call a0 a2 v0) N [undef,undef,undef,undef,undef,undef,undef,undef,undef,undef,undef,undef,undef,undef,undef,undef,undef,undef,undef,undef,undef,undef,undef,undef,undef,undef,undef,undef,undef,undef,undef,undef,undef,undef,undef,undef,undef,undef,undef,undef,undef,undef,undef,undef,undef,undef,undef,undef,undef,undef,undef,undef,undef,undef,undef,undef,undef,undef,undef,undef,undef,undef,undef,undef,undef,undef,undef,undef,undef,undef,(.slice none 0 0),undef,undef,a1]) fun x2 vs3=>
 l7 x2 (M.fail) (fun i65=>l8 (Nat.beq i65 0) (cb.bv CR (bn .gtr 3 (.tmp 82) (.const (.int .i64 (.ofNat 0))) a2 (.int .i64 (.ofNat 0))) fun v66=>
 j6 v66 (
 d2L cb N call a3 v0) (
 c9s cb N call vs3 v0)) (M.fail)) (K5 v0 fun ad76=>cb.bv CR (M.bind (loadN ad76 4) fun q=>M.pure (.agg ⟨q⟩)) fun v75=>
 M.pure (.ret v75)) l6
noncomputable def d3h (cb:Cb) (N:Nat) (call:j4) (a0:Value) (a1:Value) (a2:Value) (a3:Value):M CR:=
 cb.bv CR (J6 [(.slice none 0 0),(.int .i64 (.ofNat 0)),(.int .i64 (.ofNat 0)),(.int .i64 (.ofNat 0))]) fun v0=>
 b7i cb N call a0 a2 v0 a1 a3
theorem d8G (cb:Cb) (N:Nat) (call:j4) (a0:Value) (a1:Value) (a2:Value) (a3:Value):D5 Tryz.prog A9 cb false N call Tryz.f65 c65 e8A [a0,a1,a2,a3]=d3h cb N call a0 a1 a2 a3:=by kernel_rfl
noncomputable def c69:Code:=D6 Tryz.f69
noncomputable def e9V:Pl:=.d
noncomputable def e3r (cb:Cb) (N:Nat) (call:j4) (a0:Value) (a1:Value):M CR:=
 cb.bv CR (q8 a0) fun v1=>
 cb.bv CR (l9 1 v1) fun v2=>
 cb.bv CR (j5 v2) fun v3=>
 cb.bv CR (H8 1 1 [(0, 1)] [a1] [(.string ⟨⟨[]⟩⟩)]) fun v4=>
 cb.bv CR (Q9 ti9 v3 v4) fun v5=>
 cb.bv CR (q8 a0) fun v6=>
 cb.bv CR (l9 1 v6) fun v7=>
 cb.bv CR (r9 1 v7 v5) fun v8=>
 M.pure (.ret (.tuple ⟨[]⟩))
noncomputable def e0n (cb:Cb) (N:Nat) (call:j4) (a0:Value) (a1:Value):M CR:=
 cb.bc CR (call 79 [a0]) (fun v0=>
 j6 v0 (
 e3r cb N call a0 a1) (
 M.pure (.ret (.tuple ⟨[]⟩)))) l6
theorem d8Z (cb:Cb) (N:Nat) (call:j4) (a0:Value) (a1:Value):D5 Tryz.prog A9 cb false N call Tryz.f69 c69 e9V [a0,a1]=e0n cb N call a0 a1:=by kernel_rfl
noncomputable def c71:Code:=D6 Tryz.f71
noncomputable def e9W:Pl:=(.s none .d (.s none .d (.s none .d (.s none .d (.s none .d (.s none .d (.s none .d (.s none (.s none .d (.s none (.s (some [67, 68, 66]) .d .d) .d)) (.s none (.s none .d (.s none (.l [85, 86, 87, 11, 88, 89, 90, 91, 92, 93, 94, 95, 96, 97, 98, 99, 100, 101, 3, 102, 84] .d) .d)) .d)))))))))
noncomputable def a3y:List Oper:=J7 c71 21
noncomputable def a3L:List Oper:=J7 c71 24
noncomputable def b4S (call:j4) (u0:Value) (u1:Value) (u2:Value) (u3:Value) (u4:Value) (u5:Value) (u6:Value) (u7:Value):M R2:=
 M.bind (M.foot (j5 u0)) fun y0=>
 M.bind (M.foot (q8 y0.1)) fun y1=>
 M.bind (M.foot (l9 5 y1.1)) fun y2=>
 M.bind (M.foot (j5 y2.1)) fun y3=>
 M.bind (M.foot (E8 4 u4)) fun y4=>
 M.bind (M.foot (a1C y3.1 [y4.1] (D7 call))) fun y5=>
 M.bind (M.foot (un .not y5.1)) fun y6=>
 M.guard (E9 a3y (H9 a3y [y0.2,y1.2,y2.2,y3.2,y4.2,y5.2,y6.2]) [] [] 0) (M.pure (.normal, [y0.1,y1.1,y2.1,y3.1,y4.1,y5.1,y6.1]))
theorem c8X (call:j4) (u0:Value) (u1:Value) (u2:Value) (u3:Value) (u4:Value) (u5:Value) (u6:Value) (u7:Value):dr call a3y 113 [1, 95, 96, 97, 11, 98, 99, 100] [u0,u1,u2,u3,u4,u5,u6,u7] [95, 96, 97, 98, 99, 100, 101]=b4S call u0 u1 u2 u3 u4 u5 u6 u7:=(F6 _ _ _ _ _ _ _ _).trans (by kernel_rfl)
noncomputable def b3h (call:j4) (u0:Value) (u1:Value) (u2:Value) (u3:Value) (u4:Value) (u5:Value) (u6:Value) (u7:Value) (u8:Value) (u9:Value) (u10:Value) (u11:Value):M R2:=
 M.bind (M.foot (j5 u0)) fun y0=>
 M.bind (M.foot (j5 u0)) fun y1=>
 M.bind (M.foot (q8 y1.1)) fun y2=>
 M.bind (M.foot (l9 1 y2.1)) fun y3=>
 M.bind (M.foot (j5 y3.1)) fun y4=>
 M.bind (M.foot (E8 9 u4)) fun y5=>
 M.bind (M.foot (H8 9 1 [(0, 9)] [y5.1] [(.int .i64 (.ofNat 0)),(.int .i64 (.ofNat 0)),(.int .i64 (.ofNat 0)),(.int .u64 (.ofNat 0)),(.int .i64 (.ofNat 0)),(.int .i64 (.ofNat 0)),(.int .i64 (.ofNat 0)),(.slice none 0 0),(.slice none 0 0)])) fun y6=>
 M.bind (M.foot (Q9 a0B y4.1 y6.1)) fun y7=>
 M.bind (M.foot (q8 y0.1)) fun y8=>
 M.bind (M.foot (l9 1 y8.1)) fun y9=>
 M.bind (M.foot (r9 1 y9.1 y7.1)) fun y10=>
 M.guard (E9 a3L (H9 a3L [y0.2,y1.2,y2.2,y3.2,y4.2,y5.2,y6.2,y7.2,y8.2,y9.2,y10.2]) [] [] 0) (M.pure (.normal, [y0.1,y1.1,y2.1,y3.1,y4.1,y5.1,y6.1,y7.1,y8.1,y9.1]))
theorem c9r (call:j4) (u0:Value) (u1:Value) (u2:Value) (u3:Value) (u4:Value) (u5:Value) (u6:Value) (u7:Value) (u8:Value) (u9:Value) (u10:Value) (u11:Value):dr call a3L 113 [1, 104, 105, 106, 5, 108, 107, 109, 103, 111, 112, 110] [u0,u1,u2,u3,u4,u5,u6,u7,u8,u9,u10,u11] [103, 104, 105, 106, 107, 108, 109, 110, 111, 112]=b3h call u0 u1 u2 u3 u4 u5 u6 u7 u8 u9 u10 u11:=(F6 _ _ _ _ _ _ _ _).trans (by kernel_rfl)
noncomputable def d6Z (cb:Cb) (N:Nat) (call:j4) (a1:Value) (v0:Value):M CR:=
 cb.bv CR (j5 a1) fun v20=>
 cb.bv CR (l9 1 v0) fun v21=>
 cb.bv CR (j5 v21) fun v22=>
 cb.bc CR (call 72 [v20,v22,(.int .i64 (.ofNat 4))]) (fun v23=>
 M.pure (.ret v23)) l6
noncomputable def d7k (cb:Cb) (N:Nat) (call:j4) (a1:Value) (v28:Value):M CR:=
 cb.bv CR (j5 a1) fun v39=>
 cb.bv CR (l9 1 v28) fun v40=>
 cb.bv CR (j5 v40) fun v41=>
 cb.bc CR (call 72 [v39,v41,(.int .i64 (.ofNat 16))]) (fun v42=>
 M.pure (.ret v42)) l6
noncomputable def d6S (cb:Cb) (N:Nat) (call:j4) (a1:Value) (v28:Value) (v51:Value) (v48:Value) (v56:Value):M CR:=
 cb.bv CR (j5 a1) fun v67=>
 cb.bv CR (E8 4 v28) fun v68=>
 cb.bv CR (E8 9 v51) fun v69=>
 cb.bc CR (call 75 [v67,v68,v69,v48,v56]) (fun v70=>
 M.pure (.ret v70)) l6
noncomputable def d7v (cb:Cb) (N:Nat) (call:j4) (a1:Value) (v78:Value) (v75:Value) (v76:Value) (v77:Value) (v80:Value) (v81:Value) (v82:Value) (xs72:List Value):M R2:=
 cb.bv R2 (j5 a1) fun v83=>
 cb.bv R2 (l9 1 v78) fun v84=>
 cb.bv R2 (j5 v84) fun v85=>
 cb.bc R2 (call 72 [v83,v85,(.int .i64 (.ofNat 4))]) (fun v86=>
 M.pure (.ret, [v75,v76,v77,v78,v80,v81,v82,v83,v84,v85,v86,(d9 xs72 11),(d9 xs72 12),(d9 xs72 13),(d9 xs72 14),(d9 xs72 15),(d9 xs72 16),(d9 xs72 17),v86,(d9 xs72 19),(d9 xs72 20)])) l6
noncomputable def d6O (cb:Cb) (N:Nat) (call:j4) (v75:Value) (v76:Value) (v77:Value) (v78:Value) (v80:Value) (v81:Value) (v82:Value) (xs72:List Value) (vs87:List Value):M R2:=
 M.pure (.ret, [v75,v76,v77,v78,v80,v81,v82,(d9 xs72 7),(d9 xs72 8),(d9 xs72 9),(d9 xs72 10),(d9 vs87 0),(d9 vs87 1),(d9 vs87 2),(d9 vs87 3),(d9 vs87 4),(d9 vs87 5),(d9 vs87 6),(.bool false),(d9 xs72 19),(d9 xs72 20)])
noncomputable def c6E (cb:Cb) (N:Nat) (call:j4) (xs72:List Value) (v75:Value) (v76:Value) (v77:Value) (v78:Value) (v80:Value) (v81:Value) (v82:Value) (vs87:List Value):M R2:=
 cb.bv R2 (bn .add 3 (.tmp 84) (.const (.int .i64 (.ofNat 1))) (d9 xs72 20) (.int .i64 (.ofNat 1))) fun v88=>
 M.pure (.normal, [v75,v76,v77,v78,v80,v81,v82,(d9 xs72 7),(d9 xs72 8),(d9 xs72 9),(d9 xs72 10),(d9 vs87 0),(d9 vs87 1),(d9 vs87 2),(d9 vs87 3),(d9 vs87 4),(d9 vs87 5),(d9 vs87 6),(d9 xs72 18),v88,v88])
noncomputable def c1C (cb:Cb) (N:Nat) (call:j4) (a1:Value) (xs72:List Value) (v78:Value) (v75:Value) (v76:Value) (v77:Value) (v80:Value) (v81:Value) (v82:Value):M R2:=
 cb.bj R2 (dr call a3y 113 [1, 95, 96, 97, 11, 98, 99, 100] [a1,(d9 xs72 11),(d9 xs72 12),(d9 xs72 13),v78,(d9 xs72 14),(d9 xs72 15),(d9 xs72 16)] [95, 96, 97, 98, 99, 100, 101]) fun _ vs87=>
 j6 (d9 vs87 6) (
 d6O cb N call v75 v76 v77 v78 v80 v81 v82 xs72 vs87) (
 c6E cb N call xs72 v75 v76 v77 v78 v80 v81 v82 vs87)
noncomputable def c3s (cb:Cb) (N:Nat) (call:j4) (v56:Value) (xs72:List Value) (a1:Value) (v75:Value):M R2:=
 cb.bv R2 (F3 4 v56 (d9 xs72 20)) fun v76=>
 cb.bv R2 (E8 4 v76) fun v77=>
 cb.bv R2 (J6 [(.int .i64 (.ofNat 0)),(.int .i64 (.ofNat 0)),(.string ⟨⟨[]⟩⟩),(.slice none 0 0)]) fun v78=>
 cb.bv R2 (r9 4 v78 v77) fun v79=>
 cb.bv R2 (l9 0 v78) fun v80=>
 cb.bv R2 (j5 v80) fun v81=>
 cb.bv R2 (bn .neq 117 (.tmp 89) (.const (.int .i64 (.ofNat 0))) v81 (.int .i64 (.ofNat 0))) fun v82=>
 j6 v82 (
 d7v cb N call a1 v78 v75 v76 v77 v80 v81 v82 xs72) (
 c1C cb N call a1 xs72 v78 v75 v76 v77 v80 v81 v82)
noncomputable def d7A (cb:Cb) (N:Nat) (call:j4) (v75:Value) (xs72:List Value):M R2:=
 M.pure (.exit 1, [v75,(d9 xs72 1),(d9 xs72 2),(d9 xs72 3),(d9 xs72 4),(d9 xs72 5),(d9 xs72 6),(d9 xs72 7),(d9 xs72 8),(d9 xs72 9),(d9 xs72 10),(d9 xs72 11),(d9 xs72 12),(d9 xs72 13),(d9 xs72 14),(d9 xs72 15),(d9 xs72 16),(d9 xs72 17),(d9 xs72 18),(d9 xs72 19),(d9 xs72 20)])
noncomputable def c3S (cb:Cb) (N:Nat) (call:j4) (v71:Value) (v56:Value) (a1:Value) (xs72:List Value):M R2:=
 cb.bv R2 (bn .lss 3 (.tmp 84) (.tmp 83) (d9 xs72 20) v71) fun v75=>
 j6 v75 (
 c3s cb N call v56 xs72 a1 v75) (
 d7A cb N call v75 xs72)
noncomputable def b6F (cb:Cb) (N:Nat) (call:j4) (v71:Value) (v56:Value) (a1:Value) (v51:Value):M CR:=
 cb.bj CR (cb.lp (c3S cb N call v71 v56 a1) N [undef,undef,undef,undef,undef,undef,undef,undef,undef,undef,undef,undef,undef,undef,undef,undef,undef,undef,(.bool false),undef,(.int .i64 (.ofNat 0))]) fun x73 vs74=>
 l7 x73 (M.fail) (fun i89=>l8 (Nat.beq i89 1) (cb.bj CR (dr call a3L 113 [1, 104, 105, 106, 5, 108, 107, 109, 103, 111, 112, 110] [a1,undef,undef,undef,v51,undef,undef,undef,undef,undef,undef,undef] [103, 104, 105, 106, 107, 108, 109, 110, 111, 112]) fun _ vs90=>
 M.pure (.ret (.bool true))) (M.fail)) (M.pure (.ret (d9 vs74 18))) l6
noncomputable def b4A (cb:Cb) (N:Nat) (call:j4) (v58:Value) (a1:Value) (v28:Value) (v51:Value) (v48:Value) (v56:Value):M CR:=
 cb.bv CR (bn .eql 22 (.tmp 65) (.const (.int .i64 (.ofNat 4))) v58 (.int .i64 (.ofNat 4))) fun v66=>
 j6 v66 (
 d6S cb N call a1 v28 v51 v48 v56) (
 cb.bv CR (H6 v56) fun v71=>
 b6F cb N call v71 v56 a1 v51)
noncomputable def b1C (cb:Cb) (N:Nat) (call:j4) (v58:Value) (a1:Value) (v51:Value) (v48:Value) (v56:Value) (v28:Value):M CR:=
 cb.bj CR (cb.bv R2 (bn .eql 22 (.tmp 65) (.const (.int .i64 (.ofNat 2))) v58 (.int .i64 (.ofNat 2))) fun v61=>
 j6 v61 (
 M.pure (.normal, [v61,undef,v61])) (
 cb.bv R2 (bn .eql 22 (.tmp 65) (.const (.int .i64 (.ofNat 3))) v58 (.int .i64 (.ofNat 3))) fun v62=>
 M.pure (.normal, [v61,v62,v62]))) fun x59 vs60=>
 l7 x59 (j6 (d9 vs60 2) (
 cb.bv CR (j5 a1) fun v63=>
 cb.bv CR (E8 9 v51) fun v64=>
 cb.bc CR (call 74 [v63,v64,v48,v56]) (fun v65=>
 M.pure (.ret v65)) l6) (
 b4A cb N call v58 a1 v28 v51 v48 v56)) (fun _=>M.fail) (M.fail) l6
noncomputable def b1M (cb:Cb) (N:Nat) (call:j4) (v0:Value) (v49:Value) (v51:Value) (a1:Value) (v48:Value) (v28:Value):M CR:=
 cb.bv CR (l9 3 v0) fun v54=>
 cb.bv CR (j5 v54) fun v55=>
 cb.bv CR (Q8 4 v55 (some v49) none) fun v56=>
 cb.bv CR (l9 0 v51) fun v57=>
 cb.bv CR (j5 v57) fun v58=>
 b1C cb N call v58 a1 v51 v48 v56 v28
noncomputable def b6d (cb:Cb) (N:Nat) (call:j4) (v46:Value) (v0:Value) (a1:Value) (v28:Value):M CR:=
 cb.bv CR (z8 0 v46) fun v47=>
 cb.bv CR (z8 1 v46) fun v48=>
 cb.bv CR (z8 2 v46) fun v49=>
 cb.bv CR (z8 3 v46) fun v50=>
 cb.bv CR (J6 [(.int .i64 (.ofNat 0)),(.int .i64 (.ofNat 0)),(.int .i64 (.ofNat 0)),(.int .u64 (.ofNat 0)),(.int .i64 (.ofNat 0)),(.int .i64 (.ofNat 0)),(.int .i64 (.ofNat 0)),(.slice none 0 0),(.slice none 0 0)]) fun v51=>
 cb.bv CR (r9 9 v51 v47) fun v52=>
 cb.bv CR (un .not v50) fun v53=>
 j6 v53 (
 M.pure (.ret (.bool false))) (
 b1M cb N call v0 v49 v51 a1 v48 v28)
noncomputable def b3X (cb:Cb) (N:Nat) (call:j4) (a1:Value) (v0:Value) (v28:Value):M CR:=
 cb.bv CR (j5 a1) fun v43=>
 cb.bv CR (l9 3 v0) fun v44=>
 cb.bv CR (j5 v44) fun v45=>
 cb.bc CR (call 73 [v43,v45,(.int .i64 (.ofNat 0))]) (fun v46=>
 b6d cb N call v46 v0 a1 v28) l6
noncomputable def b3b (cb:Cb) (N:Nat) (call:j4) (v31:Value) (v28:Value) (a1:Value) (v0:Value):M CR:=
 cb.bv CR (bn .eql 9 (.tmp 38) (.const (.string ⟨⟨[101, 108, 115, 101]⟩⟩)) v31 (.string ⟨⟨[101, 108, 115, 101]⟩⟩)) fun v32=>
 cb.bj CR (l8 (o7 false v32) (cb.bv R2 (l9 2 v28) fun v35=>
 cb.bv R2 (j5 v35) fun v36=>
 cb.bv R2 (bn .eql 9 (.tmp 42) (.const (.string ⟨⟨[101, 110, 100]⟩⟩)) v36 (.string ⟨⟨[101, 110, 100]⟩⟩)) fun v37=>
 M.pure (.normal, [v35,v36,v37])) (M.pure (.normal, [undef,undef,undef]))) fun x33 vs34=>l7 x33 (cb.bv CR (q9 v32 (.bool true) (d9 vs34 2)) fun v38=>
 j6 v38 (
 d7k cb N call a1 v28) (
 b3X cb N call a1 v0 v28)) (fun _=>M.fail) M.fail l6
noncomputable def b6M (cb:Cb) (N:Nat) (call:j4) (v0:Value) (a1:Value):M CR:=
 cb.bv CR (l9 3 v0) fun v24=>
 cb.bv CR (j5 v24) fun v25=>
 cb.bv CR (F3 4 v25 (.int .i64 (.ofNat 0))) fun v26=>
 cb.bv CR (E8 4 v26) fun v27=>
 cb.bv CR (J6 [(.int .i64 (.ofNat 0)),(.int .i64 (.ofNat 0)),(.string ⟨⟨[]⟩⟩),(.slice none 0 0)]) fun v28=>
 cb.bv CR (r9 4 v28 v27) fun v29=>
 cb.bv CR (l9 2 v28) fun v30=>
 cb.bv CR (j5 v30) fun v31=>
 b3b cb N call v31 v28 a1 v0
noncomputable def b7o (cb:Cb) (N:Nat) (call:j4) (v10:Value) (v0:Value) (a1:Value):M CR:=
 cb.bj CR (l8 (o7 false v10) (cb.bv R2 (l9 3 v0) fun v13=>
 cb.bv R2 (j5 v13) fun v14=>
 cb.bv R2 (F3 4 v14 (.int .i64 (.ofNat 0))) fun v15=>
 cb.bv R2 (l9 0 v15) fun v16=>
 cb.bv R2 (j5 v16) fun v17=>
 cb.bv R2 (bn .neq 117 (.tmp 26) (.const (.int .i64 (.ofNat 2))) v17 (.int .i64 (.ofNat 2))) fun v18=>
 M.pure (.normal, [v13,v14,v15,v16,v17,v18])) (M.pure (.normal, [undef,undef,undef,undef,undef,undef]))) fun x11 vs12=>l7 x11 (cb.bv CR (q9 v10 (.bool true) (d9 vs12 5)) fun v19=>
 j6 v19 (
 d6Z cb N call a1 v0) (
 b6M cb N call v0 a1)) (fun _=>M.fail) M.fail l6
noncomputable def b8l (cb:Cb) (N:Nat) (call:j4) (v2:Value) (v0:Value) (a1:Value):M CR:=
 cb.bv CR (bn .neq 117 (.tmp 13) (.const (.int .i64 (.ofNat 0))) v2 (.int .i64 (.ofNat 0))) fun v3=>
 cb.bj CR (l8 (o7 false v3) (cb.bv R2 (l9 3 v0) fun v6=>
 cb.bv R2 (j5 v6) fun v7=>
 cb.bv R2 (H6 v7) fun v8=>
 cb.bv R2 (bn .eql 3 (.tmp 18) (.const (.int .i64 (.ofNat 0))) v8 (.int .i64 (.ofNat 0))) fun v9=>
 M.pure (.normal, [v6,v7,v8,v9])) (M.pure (.normal, [undef,undef,undef,undef]))) fun x4 vs5=>l7 x4 (cb.bv CR (q9 v3 (.bool true) (d9 vs5 3)) fun v10=>
 b7o cb N call v10 v0 a1) (fun _=>M.fail) M.fail l6
noncomputable def d3Z (cb:Cb) (N:Nat) (call:j4) (a0:Value) (a1:Value):M CR:=
 cb.bv CR (U7 a0) fun v0=>
 cb.bv CR (l9 0 v0) fun v1=>
 cb.bv CR (j5 v1) fun v2=>
 b8l cb N call v2 v0 a1
theorem d8v (cb:Cb) (N:Nat) (call:j4) (a0:Value) (a1:Value):D5 Tryz.prog A9 cb false N call Tryz.f71 c71 e9W [a0,a1]=d3Z cb N call a0 a1:=by kernel_rfl
noncomputable def c72:Code:=D6 Tryz.f72
noncomputable def e9w:Pl:=.d
noncomputable def e0g (cb:Cb) (N:Nat) (call:j4) (a0:Value) (a1:Value) (a2:Value):M CR:=
 cb.bv CR (q8 a0) fun v0=>
 cb.bv CR (l9 3 v0) fun v1=>
 cb.bv CR (r9 1 v1 a1) fun v2=>
 cb.bv CR (q8 a0) fun v3=>
 cb.bv CR (l9 4 v3) fun v4=>
 cb.bv CR (r9 1 v4 a2) fun v5=>
 M.pure (.ret (.bool false))
theorem d9b (cb:Cb) (N:Nat) (call:j4) (a0:Value) (a1:Value) (a2:Value):D5 Tryz.prog A9 cb false N call Tryz.f72 c72 e9w [a0,a1,a2]=e0g cb N call a0 a1 a2:=by kernel_rfl
noncomputable def c73:Code:=D6 Tryz.f73
noncomputable def f0w:Pl:=.d
noncomputable def a5m:List Oper:=J7 c73 6
noncomputable def c5F (call:j4) (u0:Value) (u1:Value) (u2:Value) (u3:Value) (u4:Value) (u5:Value) (u6:Value) (u7:Value) (u8:Value) (u9:Value) (u10:Value) (u11:Value) (u12:Value) (u13:Value) (u14:Value) (u15:Value):M R2:=
 M.bind (M.foot (M.pure u6)) fun y0=>
 M.bind (M.foot (q8 y0.1)) fun y1=>
 M.bind (M.foot (l9 4 y1.1)) fun y2=>
 M.bind (M.foot (E8 9 y2.1)) fun y3=>
 M.bind (M.foot (M.pure u6)) fun y4=>
 M.bind (M.foot (q8 y4.1)) fun y5=>
 M.bind (M.foot (l9 13 y5.1)) fun y6=>
 M.bind (M.foot (j5 y6.1)) fun y7=>
 M.bind (M.foot (M.pure u6)) fun y8=>
 M.bind (M.foot (q8 y8.1)) fun y9=>
 M.bind (M.foot (l9 2 y9.1)) fun y10=>
 M.bind (M.foot (j5 y10.1)) fun y11=>
 M.bind (M.foot (M.pure u10)) fun y12=>
 M.bind (M.foot (r9 9 u11 y3.1)) fun y13=>
 M.bind (M.foot (M.pure y7.1)) fun y14=>
 M.bind (M.foot (M.pure y11.1)) fun y15=>
 M.bind (M.foot (M.pure y12.1)) fun y16=>
 M.guard (E9 a5m (H9 a5m [y0.2,y1.2,y2.2,y3.2,y4.2,y5.2,y6.2,y7.2,y8.2,y9.2,y10.2,y11.2,y12.2,y13.2,y14.2,y15.2,y16.2]) [] [] 0) (M.pure (.normal, [y0.1,y1.1,y2.1,y3.1,y4.1,y5.1,y6.1,y7.1,y8.1,y9.1,y10.1,y11.1,y12.1,y14.1,y15.1,y16.1]))
theorem d4d (call:j4) (u0:Value) (u1:Value) (u2:Value) (u3:Value) (u4:Value) (u5:Value) (u6:Value) (u7:Value) (u8:Value) (u9:Value) (u10:Value) (u11:Value) (u12:Value) (u13:Value) (u14:Value) (u15:Value):dr call a5m 61 [48, 49, 50, 52, 53, 54, 12, 56, 57, 58, 11, 6, 51, 55, 59, 60] [u0,u1,u2,u3,u4,u5,u6,u7,u8,u9,u10,u11,u12,u13,u14,u15] [48, 49, 50, 51, 52, 53, 54, 55, 56, 57, 58, 59, 60, 7, 8, 9]=c5F call u0 u1 u2 u3 u4 u5 u6 u7 u8 u9 u10 u11 u12 u13 u14 u15:=(F6 _ _ _ _ _ _ _ _).trans (by kernel_rfl)
noncomputable def d6X (cb:Cb) (N:Nat) (call:j4) (a1:Value) (a2:Value) (a0:Value) (v0:Value):M CR:=
 cb.bv CR (H7 [] [] [(.int .i64 (.ofNat 0)),(.int .i64 (.ofNat 0)),(.int .i64 (.ofNat 0)),(.int .u64 (.ofNat 0)),(.int .i64 (.ofNat 0)),(.int .i64 (.ofNat 0)),(.int .i64 (.ofNat 0)),(.slice none 0 0),(.slice none 0 0)]) fun v8=>
 cb.bv CR (F3 4 a1 a2) fun v9=>
 cb.bv CR (l9 1 v9) fun v10=>
 cb.bv CR (j5 v10) fun v11=>
 cb.bc CR (call 72 [a0,v11,(.int .i64 (.ofNat 10))]) (fun v12=>
 cb.bv CR (r9 9 v0 v8) fun v13=>
 K5 v0 fun ad15=>cb.bv CR (M.bind (loadN ad15 9) fun q=>M.pure (.agg ⟨q⟩)) fun v14=>
 M.pure (.ret (.tuple ⟨[v14,(.string ⟨⟨[]⟩⟩),a2,v12]⟩))) l6
noncomputable def c1K (cb:Cb) (N:Nat) (call:j4) (v21:Value) (v0:Value):M CR:=
 cb.bv CR (U7 v21) fun v22=>
 cb.bc CR (call 110 [v22]) (fun v23=>
 cb.bj CR (dr call a5m 61 [48, 49, 50, 52, 53, 54, 12, 56, 57, 58, 11, 6, 51, 55, 59, 60] [undef,undef,undef,undef,undef,undef,v22,undef,undef,undef,v23,v0,undef,undef,undef,undef] [48, 49, 50, 51, 52, 53, 54, 55, 56, 57, 58, 59, 60, 7, 8, 9]) fun _ vs24=>
 K5 v0 fun ad26=>cb.bv CR (M.bind (loadN ad26 9) fun q=>M.pure (.agg ⟨q⟩)) fun v25=>
 M.pure (.ret (.tuple ⟨[v25,(d9 vs24 13),(d9 vs24 14),(d9 vs24 15)]⟩))) l6
noncomputable def c1z (cb:Cb) (N:Nat) (call:j4) (v5:Value) (a0:Value) (a1:Value) (v16:Value) (v19:Value) (v0:Value):M CR:=
 cb.bv CR (H7 [(0, 1)] [v5] [(.int .i64 (.ofNat 0)),(.int .i64 (.ofNat 0)),(.int .i64 (.ofNat 0)),(.int .u64 (.ofNat 0)),(.int .i64 (.ofNat 0)),(.int .i64 (.ofNat 0)),(.int .i64 (.ofNat 0)),(.slice none 0 0),(.slice none 0 0)]) fun v20=>
 cb.bv CR (H7 [(0, 1),(1, 1),(2, 1),(3, 1),(4, 9)] [a0,a1,v16,v19,v20] [(.pointer none),(.slice none 0 0),(.int .i64 (.ofNat 0)),(.int .i64 (.ofNat 0)),(.int .i64 (.ofNat 0)),(.int .i64 (.ofNat 0)),(.int .i64 (.ofNat 0)),(.int .u64 (.ofNat 0)),(.int .i64 (.ofNat 0)),(.int .i64 (.ofNat 0)),(.int .i64 (.ofNat 0)),(.slice none 0 0),(.slice none 0 0),(.string ⟨⟨[]⟩⟩)]) fun v21=>
 c1K cb N call v21 v0
noncomputable def c5n (cb:Cb) (N:Nat) (call:j4) (a2:Value) (a1:Value) (v5:Value) (a0:Value) (v0:Value):M CR:=
 cb.bv CR (bn .add 3 (.tmp 35) (.const (.int .i64 (.ofNat 1))) a2 (.int .i64 (.ofNat 1))) fun v16=>
 cb.bv CR (F3 4 a1 a2) fun v17=>
 cb.bv CR (l9 1 v17) fun v18=>
 cb.bv CR (j5 v18) fun v19=>
 c1z cb N call v5 a0 a1 v16 v19 v0
noncomputable def d3n (cb:Cb) (N:Nat) (call:j4) (a0:Value) (a1:Value) (a2:Value):M CR:=
 cb.bv CR (J6 [(.int .i64 (.ofNat 0)),(.int .i64 (.ofNat 0)),(.int .i64 (.ofNat 0)),(.int .u64 (.ofNat 0)),(.int .i64 (.ofNat 0)),(.int .i64 (.ofNat 0)),(.int .i64 (.ofNat 0)),(.slice none 0 0),(.slice none 0 0)]) fun v0=>
 cb.bv CR (F3 4 a1 a2) fun v1=>
 cb.bv CR (l9 2 v1) fun v2=>
 cb.bv CR (j5 v2) fun v3=>
 cb.bc CR (call 109 [v3]) (fun v4=>
 cb.bv CR (z8 0 v4) fun v5=>
 cb.bv CR (z8 1 v4) fun v6=>
 cb.bv CR (un .not v6) fun v7=>
 j6 v7 (
 d6X cb N call a1 a2 a0 v0) (
 c5n cb N call a2 a1 v5 a0 v0)) l6
theorem d8V (cb:Cb) (N:Nat) (call:j4) (a0:Value) (a1:Value) (a2:Value):D5 Tryz.prog A9 cb false N call Tryz.f73 c73 f0w [a0,a1,a2]=d3n cb N call a0 a1 a2:=by kernel_rfl
noncomputable def c74:Code:=D6 Tryz.f74
noncomputable def e8v:Pl:=.d
noncomputable def a5c:List Oper:=J7 c74 1
noncomputable def c1P (call:j4) (u0:Value) (u1:Value) (u2:Value) (u3:Value) (u4:Value) (u5:Value) (u6:Value) (u7:Value) (u8:Value) (u9:Value) (u10:Value) (u11:Value):M R2:=
 M.bind (M.foot (M.pure u0)) fun y0=>
 M.bind (M.foot (M.pure u0)) fun y1=>
 M.bind (M.foot (q8 y1.1)) fun y2=>
 M.bind (M.foot (l9 1 y2.1)) fun y3=>
 M.bind (M.foot (j5 y3.1)) fun y4=>
 M.bind (M.foot (E8 9 u4)) fun y5=>
 M.bind (M.foot (H8 9 1 [(0, 9)] [y5.1] [(.int .i64 (.ofNat 0)),(.int .i64 (.ofNat 0)),(.int .i64 (.ofNat 0)),(.int .u64 (.ofNat 0)),(.int .i64 (.ofNat 0)),(.int .i64 (.ofNat 0)),(.int .i64 (.ofNat 0)),(.slice none 0 0),(.slice none 0 0)])) fun y6=>
 M.bind (M.foot (Q9 a0B y4.1 y6.1)) fun y7=>
 M.bind (M.foot (q8 y0.1)) fun y8=>
 M.bind (M.foot (l9 1 y8.1)) fun y9=>
 M.bind (M.foot (r9 1 y9.1 y7.1)) fun y10=>
 M.guard (E9 a5c (H9 a5c [y0.2,y1.2,y2.2,y3.2,y4.2,y5.2,y6.2,y7.2,y8.2,y9.2,y10.2]) [] [] 0) (M.pure (.normal, [y0.1,y1.1,y2.1,y3.1,y4.1,y5.1,y6.1,y7.1,y8.1,y9.1]))
theorem d5r (call:j4) (u0:Value) (u1:Value) (u2:Value) (u3:Value) (u4:Value) (u5:Value) (u6:Value) (u7:Value) (u8:Value) (u9:Value) (u10:Value) (u11:Value):dr call a5c 38 [0, 10, 11, 12, 5, 14, 13, 15, 9, 17, 18, 16] [u0,u1,u2,u3,u4,u5,u6,u7,u8,u9,u10,u11] [9, 10, 11, 12, 13, 14, 15, 16, 17, 18]=c1P call u0 u1 u2 u3 u4 u5 u6 u7 u8 u9 u10 u11:=(F6 _ _ _ _ _ _ _ _).trans (by kernel_rfl)
noncomputable def e2E (cb:Cb) (N:Nat) (call:j4) (v8:Value) (a0:Value):M CR:=
 cb.bv CR (H7 [(0, 1)] [(.int .i64 (.ofNat 11))] [(.int .i64 (.ofNat 0)),(.int .i64 (.ofNat 0)),(.int .i64 (.ofNat 0)),(.int .u64 (.ofNat 0)),(.int .i64 (.ofNat 0)),(.int .i64 (.ofNat 0)),(.int .i64 (.ofNat 0)),(.slice none 0 0),(.slice none 0 0)]) fun v9=>
 cb.bv CR (H8 9 1 [(0, 9)] [v9] [(.int .i64 (.ofNat 0)),(.int .i64 (.ofNat 0)),(.int .i64 (.ofNat 0)),(.int .u64 (.ofNat 0)),(.int .i64 (.ofNat 0)),(.int .i64 (.ofNat 0)),(.int .i64 (.ofNat 0)),(.slice none 0 0),(.slice none 0 0)]) fun v10=>
 cb.bv CR (Q9 a0B v8 v10) fun v11=>
 cb.bv CR (q8 a0) fun v12=>
 cb.bv CR (l9 1 v12) fun v13=>
 cb.bv CR (r9 1 v13 v11) fun v14=>
 M.pure (.ret (.bool true))
noncomputable def d6I (cb:Cb) (N:Nat) (call:j4) (a0:Value):M CR:=
 cb.bc CR (call 112 [a0]) (fun v5=>
 cb.bv CR (q8 a0) fun v6=>
 cb.bv CR (l9 1 v6) fun v7=>
 cb.bv CR (j5 v7) fun v8=>
 e2E cb N call v8 a0) l6
noncomputable def d5X (cb:Cb) (N:Nat) (call:j4) (a0:Value) (a1:Value) (a2:Value) (a3:Value):M CR:=
 cb.bv CR (U7 a1) fun v0=>
 cb.bj CR (dr call a5c 38 [0, 10, 11, 12, 5, 14, 13, 15, 9, 17, 18, 16] [a0,undef,undef,undef,v0,undef,undef,undef,undef,undef,undef,undef] [9, 10, 11, 12, 13, 14, 15, 16, 17, 18]) fun _ vs1=>
 cb.bc CR (call 111 [a0,a2]) (fun v2=>
 cb.bc CR (call 76 [a0,a3]) (fun v3=>
 cb.bv CR (un .not v3) fun v4=>
 j6 v4 (
 M.pure (.ret (.bool false))) (
 d6I cb N call a0)) l6) l6
theorem d8B (cb:Cb) (N:Nat) (call:j4) (a0:Value) (a1:Value) (a2:Value) (a3:Value):D5 Tryz.prog A9 cb false N call Tryz.f74 c74 e8v [a0,a1,a2,a3]=d5X cb N call a0 a1 a2 a3:=by kernel_rfl
end Go.Proofs.YtmomonnlmbljoaaGreatDoor
end
