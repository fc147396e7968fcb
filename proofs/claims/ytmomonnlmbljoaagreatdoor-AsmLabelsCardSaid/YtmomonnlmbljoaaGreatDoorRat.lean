import Derived.Test.YtmomonnlmbljoaaGreatDoorRap
section
namespace Go.Proofs.YtmomonnlmbljoaaGreatDoor
open Go.V Go.Proofs
set_option maxRecDepth 100000
set_option linter.unusedVariables false
noncomputable def c7w:Code:=D6 Tryz.f147
noncomputable def e2L:Pl:=(.s none .d (.s none .d (.s none .d (.s (some [29, 30, 28, 31, 32, 3, 4, 33, 34, 35, 36, 37, 38, 39, 40, 41, 42, 43, 45, 46, 47, 48, 44, 49, 50, 5, 6, 51, 52, 53, 54, 55, 56, 57, 58, 59, 60, 2, 61, 62, 63, 64, 65, 66, 67, 68, 69, 70, 71, 72, 73]) .d .d))))
noncomputable def a2S:List Oper:=J7 c7w 8
noncomputable def a2h:List Oper:=J7 c7w 15
noncomputable def a2n:List Oper:=J7 c7w 17
noncomputable def b6K (call:j4) (u0:Value) (u1:Value) (u2:Value) (u3:Value) (u4:Value) (u5:Value) (u6:Value) (u7:Value) (u8:Value) (u9:Value) (u10:Value):M R2:=
 M.bind (M.foot (M.pure u0)) fun y0=>
 M.bind (M.foot (q8 y0.1)) fun y1=>
 M.bind (M.foot (l9 0 y1.1)) fun y2=>
 M.bind (M.foot (j5 y2.1)) fun y3=>
 M.bind (M.foot (l9 1 u4)) fun y4=>
 M.bind (M.foot (j5 y4.1)) fun y5=>
 M.bind (M.foot (M.pure u6)) fun y6=>
 M.bind (M.foot (D7 call 72 [y3.1,y5.1,y6.1])) fun y7=>
 M.bind (M.foot (M.pure y7.1)) fun y8=>
 M.guard (E9 a2S (H9 a2S [y0.2,y1.2,y2.2,y3.2,y4.2,y5.2,y6.2,y7.2,y8.2]) [] [] 0) (M.pure (.normal, [y0.1,y1.1,y2.1,y3.1,y4.1,y5.1,y6.1,y7.1,y8.1]))
theorem d2D (call:j4) (u0:Value) (u1:Value) (u2:Value) (u3:Value) (u4:Value) (u5:Value) (u6:Value) (u7:Value) (u8:Value) (u9:Value) (u10:Value):dr call a2S 132 [0, 53, 54, 55, 3, 57, 6, 56, 58, 59, 60] [u0,u1,u2,u3,u4,u5,u6,u7,u8,u9,u10] [53, 54, 55, 56, 57, 58, 59, 60, 2]=b6K call u0 u1 u2 u3 u4 u5 u6 u7 u8 u9 u10:=(F6 _ _ _ _ _ _ _ _).trans (by kernel_rfl)
noncomputable def a7p (call:j4) (u0:Value) (u1:Value) (u2:Value) (u3:Value) (u4:Value) (u5:Value) (u6:Value) (u7:Value) (u8:Value) (u9:Value) (u10:Value):M R2:=
 M.bind (M.foot (M.pure u0)) fun y0=>
 M.bind (M.foot (q8 y0.1)) fun y1=>
 M.bind (M.foot (l9 0 y1.1)) fun y2=>
 M.bind (M.foot (j5 y2.1)) fun y3=>
 M.bind (M.foot (l9 1 u4)) fun y4=>
 M.bind (M.foot (j5 y4.1)) fun y5=>
 M.bind (M.foot (M.pure u6)) fun y6=>
 M.bind (M.foot (D7 call 72 [y3.1,y5.1,y6.1])) fun y7=>
 M.bind (M.foot (M.pure y7.1)) fun y8=>
 M.guard (E9 a2h (H9 a2h [y0.2,y1.2,y2.2,y3.2,y4.2,y5.2,y6.2,y7.2,y8.2]) [] [] 0) (M.pure (.normal, [y0.1,y1.1,y2.1,y3.1,y4.1,y5.1,y6.1,y7.1,y8.1]))
theorem c2I (call:j4) (u0:Value) (u1:Value) (u2:Value) (u3:Value) (u4:Value) (u5:Value) (u6:Value) (u7:Value) (u8:Value) (u9:Value) (u10:Value):dr call a2h 132 [0, 100, 101, 102, 7, 104, 10, 103, 105, 106, 107] [u0,u1,u2,u3,u4,u5,u6,u7,u8,u9,u10] [100, 101, 102, 103, 104, 105, 106, 107, 2]=a7p call u0 u1 u2 u3 u4 u5 u6 u7 u8 u9 u10:=(F6 _ _ _ _ _ _ _ _).trans (by kernel_rfl)
noncomputable def b0b (call:j4) (u0:Value) (u1:Value) (u2:Value) (u3:Value) (u4:Value) (u5:Value) (u6:Value) (u7:Value) (u8:Value):M R2:=
 M.bind (M.foot (M.pure u0)) fun y0=>
 M.bind (M.foot (q8 y0.1)) fun y1=>
 M.bind (M.foot (l9 0 y1.1)) fun y2=>
 M.bind (M.foot (j5 y2.1)) fun y3=>
 M.bind (M.foot (l9 1 u4)) fun y4=>
 M.bind (M.foot (j5 y4.1)) fun y5=>
 M.bind (M.foot (D7 call 72 [y3.1,y5.1,(.int .i64 (.ofNat 4))])) fun y6=>
 M.bind (M.foot (M.pure y6.1)) fun y7=>
 M.guard (E9 a2n (H9 a2n [y0.2,y1.2,y2.2,y3.2,y4.2,y5.2,y6.2,y7.2]) [] [] 0) (M.pure (.normal, [y0.1,y1.1,y2.1,y3.1,y4.1,y5.1,y6.1,y7.1]))
theorem c1t (call:j4) (u0:Value) (u1:Value) (u2:Value) (u3:Value) (u4:Value) (u5:Value) (u6:Value) (u7:Value) (u8:Value):dr call a2n 132 [0, 112, 113, 114, 7, 116, 115, 117, 118] [u0,u1,u2,u3,u4,u5,u6,u7,u8] [112, 113, 114, 115, 116, 117, 118, 2]=b0b call u0 u1 u2 u3 u4 u5 u6 u7 u8:=(F6 _ _ _ _ _ _ _ _).trans (by kernel_rfl)
noncomputable def b3R (cb:Cb) (N:Nat) (call:j4) (a0:Value) (v19:Value) (v38:Value) (v16:Value) (v17:Value) (v18:Value) (vs22:List Value) (v26:Value) (vs28:List Value) (v32:Value) (v33:Value) (v34:Value) (v35:Value) (v36:Value) (v37:Value) (v39:Value):M R2:=
 cb.bj R2 (dr call a2S 132 [0, 53, 54, 55, 3, 57, 6, 56, 58, 59, 60] [a0,undef,undef,undef,v19,undef,v38,undef,undef,undef,undef] [53, 54, 55, 56, 57, 58, 59, 60, 2]) fun _ vs40=>
 M.pure (.ret, [a0,v16,v16,v17,v18,v19,v18,v18,v18,(d9 vs22 0),(d9 vs22 1),(d9 vs22 2),v26,v26,(d9 vs28 0),(d9 vs28 1),(d9 vs28 2),v32,v33,v34,v35,v36,v36,v37,v38,v37,v38,v38,v39,(d9 vs40 0),(d9 vs40 1),(d9 vs40 2),(d9 vs40 3),(d9 vs40 4),(d9 vs40 5),(d9 vs40 6),(d9 vs40 7),(d9 vs40 8),undef,undef,undef,undef,undef,undef,undef,undef,undef,undef,undef,undef,undef])
noncomputable def b6H (cb:Cb) (N:Nat) (call:j4) (v48:Value) (a0:Value) (v16:Value) (v17:Value) (v18:Value) (v19:Value) (vs22:List Value) (v26:Value) (vs28:List Value) (v32:Value) (v33:Value) (v34:Value) (v35:Value) (v36:Value) (v37:Value) (v38:Value) (v39:Value) (v41:Value) (v42:Value) (v43:Value) (v44:Value) (v46:Value) (v47:Value):M R2:=
 cb.bv R2 (bn .add 3 (.tmp 70) (.const (.int .i64 (.ofNat 1))) v48 (.int .i64 (.ofNat 1))) fun v49=>
 cb.bv R2 (q8 a0) fun v50=>
 cb.bv R2 (l9 2 v50) fun v51=>
 cb.bv R2 (r9 1 v51 v49) fun v52=>
 M.pure (.normal, [a0,v16,v16,v17,v18,v19,v18,v18,v18,(d9 vs22 0),(d9 vs22 1),(d9 vs22 2),v26,v26,(d9 vs28 0),(d9 vs28 1),(d9 vs28 2),v32,v33,v34,v35,v36,v36,v37,v38,v37,v38,v38,v39,undef,undef,undef,undef,undef,undef,undef,undef,(.bool false),a0,v37,v41,v42,v43,v44,a0,v46,v47,v48,v49,v50,v51])
noncomputable def b3w (cb:Cb) (N:Nat) (call:j4) (v37:Value) (a0:Value) (v16:Value) (v17:Value) (v18:Value) (v19:Value) (vs22:List Value) (v26:Value) (vs28:List Value) (v32:Value) (v33:Value) (v34:Value) (v35:Value) (v36:Value) (v38:Value) (v39:Value):M R2:=
 cb.bv R2 (I7 .u64 v37) fun v41=>
 cb.bv R2 (q8 a0) fun v42=>
 cb.bv R2 (l9 4 v42) fun v43=>
 cb.bv R2 (l9 3 v43) fun v44=>
 cb.bv R2 (r9 1 v44 v41) fun v45=>
 cb.bv R2 (q8 a0) fun v46=>
 cb.bv R2 (l9 2 v46) fun v47=>
 cb.bv R2 (j5 v47) fun v48=>
 b6H cb N call v48 a0 v16 v17 v18 v19 vs22 v26 vs28 v32 v33 v34 v35 v36 v37 v38 v39 v41 v42 v43 v44 v46 v47
noncomputable def b6T (cb:Cb) (N:Nat) (call:j4) (v33:Value) (a0:Value) (v19:Value) (v16:Value) (v17:Value) (v18:Value) (vs22:List Value) (v26:Value) (vs28:List Value) (v32:Value):M R2:=
 cb.bv R2 (j5 v33) fun v34=>
 cb.bv R2 (J4 v34 (some (.int .i64 (.ofNat 7))) none) fun v35=>
 cb.bc R2 (call 81 [v35,(.int .i64 (.ofNat 4294967295))]) (fun v36=>
 cb.bv R2 (z8 0 v36) fun v37=>
 cb.bv R2 (z8 1 v36) fun v38=>
 cb.bv R2 (bn .neq 41 (.tmp 51) (.const (.int .i64 (.ofNat 0))) v38 (.int .i64 (.ofNat 0))) fun v39=>
 j6 v39 (
 b3R cb N call a0 v19 v38 v16 v17 v18 vs22 v26 vs28 v32 v33 v34 v35 v36 v37 v39) (
 b3w cb N call v37 a0 v16 v17 v18 v19 vs22 v26 vs28 v32 v33 v34 v35 v36 v38 v39)) l6
noncomputable def d2E (cb:Cb) (N:Nat) (call:j4) (a0:Value) (v16:Value) (v17:Value) (v18:Value) (v19:Value) (vs22:List Value) (v26:Value) (vs28:List Value) (v32:Value):M R2:=
 M.pure (.normal, [a0,v16,v16,v17,v18,v19,v18,v18,v18,(d9 vs22 0),(d9 vs22 1),(d9 vs22 2),v26,v26,(d9 vs28 0),(d9 vs28 1),(d9 vs28 2),v32,undef,undef,undef,undef,undef,undef,undef,undef,undef,undef,undef,undef,undef,undef,undef,undef,undef,undef,undef,(.bool false),undef,undef,undef,undef,undef,undef,undef,undef,undef,undef,undef,undef,undef])
noncomputable def b1W (cb:Cb) (N:Nat) (call:j4) (v26:Value) (v19:Value) (a0:Value) (v16:Value) (v17:Value) (v18:Value) (vs22:List Value):M R2:=
 cb.bj R2 (l8 (o7 true v26) (cb.bv R2 (l9 2 v19) fun v29=>
 cb.bv R2 (j5 v29) fun v30=>
 cb.bc R2 (call 80 [v30,(.string ⟨⟨[111, 102, 102, 115, 101, 116, 61]⟩⟩)]) (fun v31=>
 M.pure (.normal, [v29,v30,v31])) l6) (M.pure (.normal, [undef,undef,undef]))) fun x27 vs28=>l7 x27 (cb.bv R2 (q9 v26 (d9 vs28 2) (.bool false)) fun v32=>
 j6 v32 (
 cb.bv R2 (l9 2 v19) fun v33=>
 b6T cb N call v33 a0 v19 v16 v17 v18 vs22 v26 vs28 v32) (
 d2E cb N call a0 v16 v17 v18 v19 vs22 v26 vs28 v32)) (fun _=>M.fail) M.fail l6
noncomputable def b8o (cb:Cb) (N:Nat) (call:j4) (v17:Value) (v18:Value) (a0:Value) (v16:Value):M R2:=
 cb.bv R2 (J6 [(.int .i64 (.ofNat 0)),(.int .i64 (.ofNat 0)),(.string ⟨⟨[]⟩⟩),(.slice none 0 0)]) fun v19=>
 cb.bv R2 (r9 4 v19 v17) fun v20=>
 cb.bj R2 (l8 (o7 true v18) (cb.bv R2 (l9 0 v19) fun v23=>
 cb.bv R2 (j5 v23) fun v24=>
 cb.bv R2 (bn .eql 117 (.tmp 36) (.const (.int .i64 (.ofNat 2))) v24 (.int .i64 (.ofNat 2))) fun v25=>
 M.pure (.normal, [v23,v24,v25])) (M.pure (.normal, [undef,undef,undef]))) fun x21 vs22=>l7 x21 (cb.bv R2 (q9 v18 (d9 vs22 2) (.bool false)) fun v26=>
 b1W cb N call v26 v19 a0 v16 v17 v18 vs22) (fun _=>M.fail) M.fail l6
noncomputable def b8D (cb:Cb) (N:Nat) (call:j4) (a0:Value) (v56:Value) (v75:Value):M CR:=
 cb.bj CR (dr call a2h 132 [0, 100, 101, 102, 7, 104, 10, 103, 105, 106, 107] [a0,undef,undef,undef,v56,undef,v75,undef,undef,undef,undef] [100, 101, 102, 103, 104, 105, 106, 107, 2]) fun _ vs77=>
 M.pure (.ret (d9 vs77 8))
noncomputable def b2W (cb:Cb) (N:Nat) (call:j4) (a0:Value) (v56:Value):M CR:=
 cb.bj CR (dr call a2n 132 [0, 112, 113, 114, 7, 116, 115, 117, 118] [a0,undef,undef,undef,v56,undef,undef,undef,undef] [112, 113, 114, 115, 116, 117, 118, 2]) fun _ vs80=>
 M.pure (.ret (d9 vs80 7))
noncomputable def b7v (cb:Cb) (N:Nat) (call:j4) (v74:Value) (a0:Value):M CR:=
 cb.bc CR (call 188 [v74]) (fun v81=>
 cb.bv CR (q8 a0) fun v82=>
 cb.bv CR (l9 4 v82) fun v83=>
 cb.bv CR (l9 1 v83) fun v84=>
 cb.bv CR (r9 1 v84 v81) fun v85=>
 cb.bv CR (q8 a0) fun v86=>
 cb.bv CR (l9 2 v86) fun v87=>
 cb.bv CR (j5 v87) fun v88=>
 cb.bv CR (bn .add 3 (.tmp 128) (.const (.int .i64 (.ofNat 1))) v88 (.int .i64 (.ofNat 1))) fun v89=>
 cb.bv CR (q8 a0) fun v90=>
 cb.bv CR (l9 2 v90) fun v91=>
 cb.bv CR (r9 1 v91 v89) fun v92=>
 M.pure (.ret (.bool true))) l6
noncomputable def a8q (cb:Cb) (N:Nat) (call:j4) (v74:Value) (a0:Value) (v56:Value):M CR:=
 cb.bc CR (call 187 [v74]) (fun v78=>
 cb.bv CR (bn .neq 3 (.tmp 110) (.const (.int .i64 (.ofNat 1))) v78 (.int .i64 (.ofNat 1))) fun v79=>
 j6 v79 (
 b2W cb N call a0 v56) (
 b7v cb N call v74 a0)) l6
noncomputable def a8J (cb:Cb) (N:Nat) (call:j4) (v56:Value) (a0:Value):M CR:=
 cb.bv CR (l9 2 v56) fun v70=>
 cb.bv CR (j5 v70) fun v71=>
 cb.bv CR (J4 v71 (some (.int .i64 (.ofNat 6))) none) fun v72=>
 cb.bc CR (call 186 [v72,(.int .i64 (.ofNat 64))]) (fun v73=>
 cb.bv CR (z8 0 v73) fun v74=>
 cb.bv CR (z8 1 v73) fun v75=>
 cb.bv CR (bn .neq 41 (.tmp 98) (.const (.int .i64 (.ofNat 0))) v75 (.int .i64 (.ofNat 0))) fun v76=>
 j6 v76 (
 b8D cb N call a0 v56 v75) (
 a8q cb N call v74 a0 v56)) l6
noncomputable def a9b (cb:Cb) (N:Nat) (call:j4) (v55:Value) (vs59:List Value) (v56:Value) (a0:Value):M CR:=
 cb.bv CR (q9 v55 (d9 vs59 2) (.bool false)) fun v63=>
 cb.bj CR (l8 (o7 true v63) (cb.bv R2 (l9 2 v56) fun v66=>
 cb.bv R2 (j5 v66) fun v67=>
 cb.bc R2 (call 80 [v67,(.string ⟨⟨[97, 108, 105, 103, 110, 61]⟩⟩)]) (fun v68=>
 M.pure (.normal, [v66,v67,v68])) l6) (M.pure (.normal, [undef,undef,undef]))) fun x64 vs65=>l7 x64 (cb.bv CR (q9 v63 (d9 vs65 2) (.bool false)) fun v69=>
 j6 v69 (
 a8J cb N call v56 a0) (
 M.pure (.ret (.bool true)))) (fun _=>M.fail) M.fail l6
noncomputable def a7h (cb:Cb) (N:Nat) (call:j4) (v54:Value) (v55:Value) (a0:Value):M CR:=
 cb.bv CR (J6 [(.int .i64 (.ofNat 0)),(.int .i64 (.ofNat 0)),(.string ⟨⟨[]⟩⟩),(.slice none 0 0)]) fun v56=>
 cb.bv CR (r9 4 v56 v54) fun v57=>
 cb.bj CR (l8 (o7 true v55) (cb.bv R2 (l9 0 v56) fun v60=>
 cb.bv R2 (j5 v60) fun v61=>
 cb.bv R2 (bn .eql 117 (.tmp 82) (.const (.int .i64 (.ofNat 2))) v61 (.int .i64 (.ofNat 2))) fun v62=>
 M.pure (.normal, [v60,v61,v62])) (M.pure (.normal, [undef,undef,undef]))) fun x58 vs59=>l7 x58 (a9b cb N call v55 vs59 v56 a0) (fun _=>M.fail) M.fail l6
noncomputable def b0k (cb:Cb) (N:Nat) (call:j4) (a0:Value):M CR:=
 cb.bj CR (cb.bc R2 (call 138 [a0]) (fun v16=>
 cb.bv R2 (z8 0 v16) fun v17=>
 cb.bv R2 (z8 1 v16) fun v18=>
 b8o cb N call v17 v18 a0 v16) l6) fun x14 vs15=>
 l7 x14 (cb.bc CR (call 138 [a0]) (fun v53=>
 cb.bv CR (z8 0 v53) fun v54=>
 cb.bv CR (z8 1 v53) fun v55=>
 a7h cb N call v54 v55 a0) l6) (fun _=>M.fail) (M.pure (.ret (d9 vs15 37))) l6
noncomputable def a6f (cb:Cb) (N:Nat) (call:j4) (v0:Value) (a0:Value):M CR:=
 cb.bv CR (l9 4 v0) fun v1=>
 cb.bv CR (l9 0 v1) fun v2=>
 cb.bv CR (j5 v2) fun v3=>
 cb.bc CR (call 94 [v3]) (fun v4=>
 cb.bv CR (q8 a0) fun v5=>
 cb.bv CR (l9 4 v5) fun v6=>
 cb.bv CR (l9 1 v6) fun v7=>
 cb.bv CR (r9 1 v7 v4) fun v8=>
 cb.bv CR (q8 a0) fun v9=>
 cb.bv CR (l9 4 v9) fun v10=>
 cb.bv CR (l9 2 v10) fun v11=>
 cb.bc CR (call 143 [a0,(.int .i64 (.ofNat 3)),v11]) (fun v12=>
 cb.bv CR (un .not v12) fun v13=>
 j6 v13 (
 M.pure (.ret (.bool false))) (
 b0k cb N call a0)) l6) l6
noncomputable def c5I (cb:Cb) (N:Nat) (call:j4) (a0:Value):M CR:=
 cb.bv CR (q8 a0) fun v0=>
 a6f cb N call v0 a0
theorem d5B (cb:Cb) (N:Nat) (call:j4) (a0:Value):D5 Tryz.prog A9 cb false N call Tryz.f147 c7w e2L [a0]=c5I cb N call a0:=by kernel_rfl
noncomputable def d5G:Code:=D6 Tryz.f148
noncomputable def e2W:Pl:=.d
noncomputable def a3G:List Oper:=J7 d5G 3
noncomputable def a3q:List Oper:=J7 d5G 6
noncomputable def b2e (call:j4) (u0:Value) (u1:Value) (u2:Value) (u3:Value) (u4:Value) (u5:Value) (u6:Value) (u7:Value) (u8:Value) (u9:Value) (u10:Value):M R2:=
 M.bind (M.foot (M.pure u3)) fun y0=>
 M.bind (M.foot (M.pure u3)) fun y1=>
 M.bind (M.foot (q8 y1.1)) fun y2=>
 M.bind (M.foot (l9 1 y2.1)) fun y3=>
 M.bind (M.foot (j5 y3.1)) fun y4=>
 M.bind (M.foot (M.pure u3)) fun y5=>
 M.bind (M.foot (q8 y5.1)) fun y6=>
 M.bind (M.foot (l9 2 y6.1)) fun y7=>
 M.bind (M.foot (j5 y7.1)) fun y8=>
 M.bind (M.foot (D7 call 181 [y0.1,y4.1,y8.1])) fun y9=>
 M.bind (M.foot (M.pure y9.1)) fun y10=>
 M.guard (E9 a3G (H9 a3G [y0.2,y1.2,y2.2,y3.2,y4.2,y5.2,y6.2,y7.2,y8.2,y9.2,y10.2]) [] [] 0) (M.pure (.normal, [y0.1,y1.1,y2.1,y3.1,y4.1,y5.1,y6.1,y7.1,y8.1,y9.1,y10.1]))
theorem d0Q (call:j4) (u0:Value) (u1:Value) (u2:Value) (u3:Value) (u4:Value) (u5:Value) (u6:Value) (u7:Value) (u8:Value) (u9:Value) (u10:Value):dr call a3G 60 [22, 23, 24, 0, 26, 27, 28, 21, 25, 29, 30] [u0,u1,u2,u3,u4,u5,u6,u7,u8,u9,u10] [21, 22, 23, 24, 25, 26, 27, 28, 29, 30, 4]=b2e call u0 u1 u2 u3 u4 u5 u6 u7 u8 u9 u10:=(F6 _ _ _ _ _ _ _ _).trans (by kernel_rfl)
noncomputable def b7J (call:j4) (u0:Value) (u1:Value) (u2:Value) (u3:Value) (u4:Value) (u5:Value) (u6:Value) (u7:Value) (u8:Value) (u9:Value) (u10:Value):M R2:=
 M.bind (M.foot (M.pure u0)) fun y0=>
 M.bind (M.foot (q8 y0.1)) fun y1=>
 M.bind (M.foot (l9 0 y1.1)) fun y2=>
 M.bind (M.foot (j5 y2.1)) fun y3=>
 M.bind (M.foot (l9 1 u4)) fun y4=>
 M.bind (M.foot (j5 y4.1)) fun y5=>
 M.bind (M.foot (M.pure u6)) fun y6=>
 M.bind (M.foot (D7 call 72 [y3.1,y5.1,y6.1])) fun y7=>
 M.bind (M.foot (M.pure y7.1)) fun y8=>
 M.guard (E9 a3q (H9 a3q [y0.2,y1.2,y2.2,y3.2,y4.2,y5.2,y6.2,y7.2,y8.2]) [] [] 0) (M.pure (.normal, [y0.1,y1.1,y2.1,y3.1,y4.1,y5.1,y6.1,y7.1,y8.1]))
theorem c8T (call:j4) (u0:Value) (u1:Value) (u2:Value) (u3:Value) (u4:Value) (u5:Value) (u6:Value) (u7:Value) (u8:Value) (u9:Value) (u10:Value):dr call a3q 60 [0, 40, 41, 42, 5, 44, 8, 43, 45, 46, 47] [u0,u1,u2,u3,u4,u5,u6,u7,u8,u9,u10] [40, 41, 42, 43, 44, 45, 46, 47, 4]=b7J call u0 u1 u2 u3 u4 u5 u6 u7 u8 u9 u10:=(F6 _ _ _ _ _ _ _ _).trans (by kernel_rfl)
noncomputable def b4f (cb:Cb) (N:Nat) (call:j4) (a0:Value):M CR:=
 cb.bj CR (dr call a3G 60 [22, 23, 24, 0, 26, 27, 28, 21, 25, 29, 30] [undef,undef,undef,a0,undef,undef,undef,undef,undef,undef,undef] [21, 22, 23, 24, 25, 26, 27, 28, 29, 30, 4]) fun _ vs12=>
 M.pure (.ret (d9 vs12 10))
noncomputable def b6V (cb:Cb) (N:Nat) (call:j4) (a0:Value) (v3:Value) (v17:Value):M CR:=
 cb.bj CR (dr call a3q 60 [0, 40, 41, 42, 5, 44, 8, 43, 45, 46, 47] [a0,undef,undef,undef,v3,undef,v17,undef,undef,undef,undef] [40, 41, 42, 43, 44, 45, 46, 47, 4]) fun _ vs19=>
 M.pure (.ret (d9 vs19 8))
noncomputable def b5j (cb:Cb) (N:Nat) (call:j4) (a0:Value) (v16:Value):M CR:=
 cb.bv CR (q8 a0) fun v20=>
 cb.bv CR (l9 4 v20) fun v21=>
 cb.bv CR (l9 3 v21) fun v22=>
 cb.bv CR (r9 1 v22 v16) fun v23=>
 cb.bv CR (q8 a0) fun v24=>
 cb.bv CR (l9 2 v24) fun v25=>
 cb.bv CR (j5 v25) fun v26=>
 cb.bv CR (bn .add 3 (.tmp 56) (.const (.int .i64 (.ofNat 1))) v26 (.int .i64 (.ofNat 1))) fun v27=>
 cb.bv CR (q8 a0) fun v28=>
 cb.bv CR (l9 2 v28) fun v29=>
 cb.bv CR (r9 1 v29 v27) fun v30=>
 M.pure (.ret (.bool true))
noncomputable def b3A (cb:Cb) (N:Nat) (call:j4) (v3:Value) (a1:Value) (a0:Value):M CR:=
 cb.bv CR (l9 2 v3) fun v13=>
 cb.bv CR (j5 v13) fun v14=>
 cb.bc CR (call 186 [v14,a1]) (fun v15=>
 cb.bv CR (z8 0 v15) fun v16=>
 cb.bv CR (z8 1 v15) fun v17=>
 cb.bv CR (bn .neq 41 (.tmp 38) (.const (.int .i64 (.ofNat 0))) v17 (.int .i64 (.ofNat 0))) fun v18=>
 j6 v18 (
 b6V cb N call a0 v3 v17) (
 b5j cb N call a0 v16)) l6
noncomputable def b4c (cb:Cb) (N:Nat) (call:j4) (v3:Value) (v1:Value) (v2:Value) (a0:Value) (a1:Value):M CR:=
 cb.bv CR (r9 4 v3 v1) fun v4=>
 cb.bv CR (un .not v2) fun v5=>
 cb.bj CR (l8 (o7 false v5) (cb.bv R2 (l9 0 v3) fun v8=>
 cb.bv R2 (j5 v8) fun v9=>
 cb.bv R2 (bn .neq 117 (.tmp 18) (.const (.int .i64 (.ofNat 2))) v9 (.int .i64 (.ofNat 2))) fun v10=>
 M.pure (.normal, [v8,v9,v10])) (M.pure (.normal, [undef,undef,undef]))) fun x6 vs7=>l7 x6 (cb.bv CR (q9 v5 (.bool true) (d9 vs7 2)) fun v11=>
 j6 v11 (
 b4f cb N call a0) (
 b3A cb N call v3 a1 a0)) (fun _=>M.fail) M.fail l6
noncomputable def c1n (cb:Cb) (N:Nat) (call:j4) (a0:Value) (a1:Value):M CR:=
 cb.bc CR (call 138 [a0]) (fun v0=>
 cb.bv CR (z8 0 v0) fun v1=>
 cb.bv CR (z8 1 v0) fun v2=>
 cb.bv CR (J6 [(.int .i64 (.ofNat 0)),(.int .i64 (.ofNat 0)),(.string ⟨⟨[]⟩⟩),(.slice none 0 0)]) fun v3=>
 b4c cb N call v3 v1 v2 a0 a1) l6
theorem d6i (cb:Cb) (N:Nat) (call:j4) (a0:Value) (a1:Value):D5 Tryz.prog A9 cb false N call Tryz.f148 d5G e2W [a0,a1]=c1n cb N call a0 a1:=by kernel_rfl
noncomputable def d6q:Code:=D6 Tryz.f149
noncomputable def e6N:Pl:=(.s none .d (.s none .d (.s none .d (.s (some [27, 28, 37, 36, 38, 39, 40, 41, 43, 42, 44, 45, 46, 47, 29, 30, 31, 32, 33, 34, 35, 2]) .d .d))))
noncomputable def a3x:List Oper:=J7 d6q 3
noncomputable def a3v:List Oper:=J7 d6q 5
noncomputable def b3k (call:j4) (u0:Value) (u1:Value) (u2:Value) (u3:Value) (u4:Value) (u5:Value) (u6:Value) (u7:Value) (u8:Value) (u9:Value) (u10:Value):M R2:=
 M.bind (M.foot (M.pure u3)) fun y0=>
 M.bind (M.foot (M.pure u3)) fun y1=>
 M.bind (M.foot (q8 y1.1)) fun y2=>
 M.bind (M.foot (l9 1 y2.1)) fun y3=>
 M.bind (M.foot (j5 y3.1)) fun y4=>
 M.bind (M.foot (M.pure u3)) fun y5=>
 M.bind (M.foot (q8 y5.1)) fun y6=>
 M.bind (M.foot (l9 2 y6.1)) fun y7=>
 M.bind (M.foot (j5 y7.1)) fun y8=>
 M.bind (M.foot (D7 call 181 [y0.1,y4.1,y8.1])) fun y9=>
 M.bind (M.foot (M.pure y9.1)) fun y10=>
 M.guard (E9 a3x (H9 a3x [y0.2,y1.2,y2.2,y3.2,y4.2,y5.2,y6.2,y7.2,y8.2,y9.2,y10.2]) [] [] 0) (M.pure (.normal, [y0.1,y1.1,y2.1,y3.1,y4.1,y5.1,y6.1,y7.1,y8.1,y9.1,y10.1]))
theorem c9p (call:j4) (u0:Value) (u1:Value) (u2:Value) (u3:Value) (u4:Value) (u5:Value) (u6:Value) (u7:Value) (u8:Value) (u9:Value) (u10:Value):dr call a3x 55 [18, 19, 20, 0, 22, 23, 24, 17, 21, 25, 26] [u0,u1,u2,u3,u4,u5,u6,u7,u8,u9,u10] [17, 18, 19, 20, 21, 22, 23, 24, 25, 26, 2]=b3k call u0 u1 u2 u3 u4 u5 u6 u7 u8 u9 u10:=(F6 _ _ _ _ _ _ _ _).trans (by kernel_rfl)
noncomputable def b4d (call:j4) (u0:Value) (u1:Value) (u2:Value) (u3:Value) (u4:Value) (u5:Value) (u6:Value) (u7:Value) (u8:Value):M R2:=
 M.bind (M.foot (M.pure u0)) fun y0=>
 M.bind (M.foot (q8 y0.1)) fun y1=>
 M.bind (M.foot (l9 0 y1.1)) fun y2=>
 M.bind (M.foot (j5 y2.1)) fun y3=>
 M.bind (M.foot (l9 1 u4)) fun y4=>
 M.bind (M.foot (j5 y4.1)) fun y5=>
 M.bind (M.foot (D7 call 72 [y3.1,y5.1,(.int .i64 (.ofNat 12))])) fun y6=>
 M.bind (M.foot (M.pure y6.1)) fun y7=>
 M.guard (E9 a3v (H9 a3v [y0.2,y1.2,y2.2,y3.2,y4.2,y5.2,y6.2,y7.2]) [] [] 0) (M.pure (.normal, [y0.1,y1.1,y2.1,y3.1,y4.1,y5.1,y6.1,y7.1]))
theorem d2s (call:j4) (u0:Value) (u1:Value) (u2:Value) (u3:Value) (u4:Value) (u5:Value) (u6:Value) (u7:Value) (u8:Value):dr call a3v 55 [0, 29, 30, 31, 3, 33, 32, 34, 35] [u0,u1,u2,u3,u4,u5,u6,u7,u8] [29, 30, 31, 32, 33, 34, 35, 2]=b4d call u0 u1 u2 u3 u4 u5 u6 u7 u8:=(F6 _ _ _ _ _ _ _ _).trans (by kernel_rfl)
noncomputable def b6j (cb:Cb) (N:Nat) (call:j4) (a0:Value):M CR:=
 cb.bj CR (dr call a3x 55 [18, 19, 20, 0, 22, 23, 24, 17, 21, 25, 26] [undef,undef,undef,a0,undef,undef,undef,undef,undef,undef,undef] [17, 18, 19, 20, 21, 22, 23, 24, 25, 26, 2]) fun _ vs12=>
 M.pure (.ret (d9 vs12 10))
noncomputable def d2g (cb:Cb) (N:Nat) (call:j4) (a0:Value) (v15:Value) (v16:Value) (v17:Value):M R2:=
 cb.bv R2 (q8 a0) fun v18=>
 cb.bv R2 (l9 4 v18) fun v19=>
 cb.bv R2 (l9 1 v19) fun v20=>
 cb.bv R2 (r9 1 v20 (.int .i64 (.ofNat 3))) fun v21=>
 M.pure (.normal, [v15,v16,v17,v17,a0,v18,v19,v20,undef,undef,undef,undef,undef,undef,undef,undef,undef,undef,undef,undef,undef,(.bool false)])
noncomputable def c8E (cb:Cb) (N:Nat) (call:j4) (a0:Value) (v15:Value) (v16:Value) (v17:Value) (v22:Value):M R2:=
 cb.bv R2 (q8 a0) fun v23=>
 cb.bv R2 (l9 4 v23) fun v24=>
 cb.bv R2 (l9 1 v24) fun v25=>
 cb.bv R2 (r9 1 v25 (.int .i64 (.ofNat 4))) fun v26=>
 M.pure (.normal, [v15,v16,v17,v17,undef,undef,undef,undef,v22,v22,a0,v23,v24,v25,undef,undef,undef,undef,undef,undef,undef,(.bool false)])
noncomputable def b2o (cb:Cb) (N:Nat) (call:j4) (a0:Value) (v3:Value) (v15:Value) (v16:Value) (v17:Value) (v22:Value):M R2:=
 cb.bj R2 (dr call a3v 55 [0, 29, 30, 31, 3, 33, 32, 34, 35] [a0,undef,undef,undef,v3,undef,undef,undef,undef] [29, 30, 31, 32, 33, 34, 35, 2]) fun _ vs27=>
 M.pure (.ret, [v15,v16,v17,v17,undef,undef,undef,undef,v22,v22,undef,undef,undef,undef,(d9 vs27 0),(d9 vs27 1),(d9 vs27 2),(d9 vs27 3),(d9 vs27 4),(d9 vs27 5),(d9 vs27 6),(d9 vs27 7)])
noncomputable def b3S (cb:Cb) (N:Nat) (call:j4) (v16:Value) (a0:Value) (v15:Value) (v17:Value) (v3:Value):M R2:=
 cb.bv R2 (bn .eql 9 (.tmp 28) (.const (.string ⟨⟨[101, 120, 116, 101, 114, 110]⟩⟩)) v16 (.string ⟨⟨[101, 120, 116, 101, 114, 110]⟩⟩)) fun v22=>
 j6 v22 (
 c8E cb N call a0 v15 v16 v17 v22) (
 b2o cb N call a0 v3 v15 v16 v17 v22)
noncomputable def b5d (cb:Cb) (N:Nat) (call:j4) (v3:Value) (a0:Value):M CR:=
 cb.bj CR (cb.bv R2 (l9 2 v3) fun v15=>
 cb.bv R2 (j5 v15) fun v16=>
 cb.bv R2 (bn .eql 9 (.tmp 28) (.const (.string ⟨⟨[102, 117, 110, 99]⟩⟩)) v16 (.string ⟨⟨[102, 117, 110, 99]⟩⟩)) fun v17=>
 j6 v17 (
 d2g cb N call a0 v15 v16 v17) (
 b3S cb N call v16 a0 v15 v17 v3)) fun x13 vs14=>
 l7 x13 (cb.bv CR (q8 a0) fun v28=>
 cb.bv CR (l9 2 v28) fun v29=>
 cb.bv CR (j5 v29) fun v30=>
 cb.bv CR (bn .add 3 (.tmp 51) (.const (.int .i64 (.ofNat 1))) v30 (.int .i64 (.ofNat 1))) fun v31=>
 cb.bv CR (q8 a0) fun v32=>
 cb.bv CR (l9 2 v32) fun v33=>
 cb.bv CR (r9 1 v33 v31) fun v34=>
 M.pure (.ret (.bool true))) (fun _=>M.fail) (M.pure (.ret (d9 vs14 21))) l6
noncomputable def b5n (cb:Cb) (N:Nat) (call:j4) (v3:Value) (v1:Value) (v2:Value) (a0:Value):M CR:=
 cb.bv CR (r9 4 v3 v1) fun v4=>
 cb.bv CR (un .not v2) fun v5=>
 cb.bj CR (l8 (o7 false v5) (cb.bv R2 (l9 0 v3) fun v8=>
 cb.bv R2 (j5 v8) fun v9=>
 cb.bv R2 (bn .neq 117 (.tmp 14) (.const (.int .i64 (.ofNat 2))) v9 (.int .i64 (.ofNat 2))) fun v10=>
 M.pure (.normal, [v8,v9,v10])) (M.pure (.normal, [undef,undef,undef]))) fun x6 vs7=>l7 x6 (cb.bv CR (q9 v5 (.bool true) (d9 vs7 2)) fun v11=>
 j6 v11 (
 b6j cb N call a0) (
 b5d cb N call v3 a0)) (fun _=>M.fail) M.fail l6
noncomputable def c0y (cb:Cb) (N:Nat) (call:j4) (a0:Value):M CR:=
 cb.bc CR (call 138 [a0]) (fun v0=>
 cb.bv CR (z8 0 v0) fun v1=>
 cb.bv CR (z8 1 v0) fun v2=>
 cb.bv CR (J6 [(.int .i64 (.ofNat 0)),(.int .i64 (.ofNat 0)),(.string ⟨⟨[]⟩⟩),(.slice none 0 0)]) fun v3=>
 b5n cb N call v3 v1 v2 a0) l6
theorem d4r (cb:Cb) (N:Nat) (call:j4) (a0:Value):D5 Tryz.prog A9 cb false N call Tryz.f149 d6q e6N [a0]=c0y cb N call a0:=by kernel_rfl
noncomputable def e8q:Code:=D6 Tryz.f162
noncomputable def e3l:Pl:=.d
noncomputable def b8C (cb:Cb) (N:Nat) (call:j4) (a0:Value):M CR:=
 cb.bv CR (bn .sub 5 (.tmp 10) (.const (.int .u8 (.ofNat 48))) a0 (.int .u8 (.ofNat 48))) fun v5=>
 cb.bv CR (I7 .i64 v5) fun v6=>
 M.pure (.ret v6)
noncomputable def b3Z (cb:Cb) (N:Nat) (call:j4) (a0:Value):M CR:=
 cb.bv CR (bn .sub 5 (.tmp 20) (.const (.int .u8 (.ofNat 97))) a0 (.int .u8 (.ofNat 97))) fun v12=>
 cb.bv CR (I7 .i64 v12) fun v13=>
 cb.bv CR (bn .add 3 (.tmp 22) (.const (.int .i64 (.ofNat 10))) v13 (.int .i64 (.ofNat 10))) fun v14=>
 M.pure (.ret v14)
noncomputable def b3r (cb:Cb) (N:Nat) (call:j4) (a0:Value):M CR:=
 cb.bv CR (bn .sub 5 (.tmp 31) (.const (.int .u8 (.ofNat 65))) a0 (.int .u8 (.ofNat 65))) fun v20=>
 cb.bv CR (I7 .i64 v20) fun v21=>
 cb.bv CR (bn .add 3 (.tmp 33) (.const (.int .i64 (.ofNat 10))) v21 (.int .i64 (.ofNat 10))) fun v22=>
 M.pure (.ret v22)
noncomputable def b5i (cb:Cb) (N:Nat) (call:j4) (a0:Value):M CR:=
 cb.bv CR (bn .geq 5 (.tmp 25) (.const (.int .u8 (.ofNat 65))) a0 (.int .u8 (.ofNat 65))) fun v15=>
 cb.bj CR (l8 (o7 true v15) (cb.bv R2 (bn .leq 5 (.tmp 28) (.const (.int .u8 (.ofNat 70))) a0 (.int .u8 (.ofNat 70))) fun v18=>
 M.pure (.normal, [a0,v18])) (M.pure (.normal, [undef,undef]))) fun x16 vs17=>l7 x16 (cb.bv CR (q9 v15 (d9 vs17 1) (.bool false)) fun v19=>
 j6 v19 (
 b3r cb N call a0) (
 M.pure (.ret (.int .i64 (.negSucc 0))))) (fun _=>M.fail) M.fail l6
noncomputable def b1F (cb:Cb) (N:Nat) (call:j4) (a0:Value):M CR:=
 cb.bv CR (bn .geq 5 (.tmp 14) (.const (.int .u8 (.ofNat 97))) a0 (.int .u8 (.ofNat 97))) fun v7=>
 cb.bj CR (l8 (o7 true v7) (cb.bv R2 (bn .leq 5 (.tmp 17) (.const (.int .u8 (.ofNat 102))) a0 (.int .u8 (.ofNat 102))) fun v10=>
 M.pure (.normal, [a0,v10])) (M.pure (.normal, [undef,undef]))) fun x8 vs9=>l7 x8 (cb.bv CR (q9 v7 (d9 vs9 1) (.bool false)) fun v11=>
 j6 v11 (
 b3Z cb N call a0) (
 b5i cb N call a0)) (fun _=>M.fail) M.fail l6
noncomputable def c7x (cb:Cb) (N:Nat) (call:j4) (a0:Value):M CR:=
 cb.bv CR (bn .geq 5 (.tmp 4) (.const (.int .u8 (.ofNat 48))) a0 (.int .u8 (.ofNat 48))) fun v0=>
 cb.bj CR (l8 (o7 true v0) (cb.bv R2 (bn .leq 5 (.tmp 7) (.const (.int .u8 (.ofNat 57))) a0 (.int .u8 (.ofNat 57))) fun v3=>
 M.pure (.normal, [a0,v3])) (M.pure (.normal, [undef,undef]))) fun x1 vs2=>l7 x1 (cb.bv CR (q9 v0 (d9 vs2 1) (.bool false)) fun v4=>
 j6 v4 (
 b8C cb N call a0) (
 b1F cb N call a0)) (fun _=>M.fail) M.fail l6
theorem d5v (cb:Cb) (N:Nat) (call:j4) (a0:Value):D5 Tryz.prog A9 cb false N call Tryz.f162 e8q e3l [a0]=c7x cb N call a0:=by kernel_rfl
noncomputable def d4w:Code:=D6 Tryz.f181
noncomputable def e4v:Pl:=.d
noncomputable def a3z:List Oper:=J7 d4w 2
noncomputable def a2R:List Oper:=J7 d4w 3
noncomputable def b4L (call:j4) (u0:Value) (u1:Value) (u2:Value) (u3:Value) (u4:Value) (u5:Value) (u6:Value) (u7:Value) (u8:Value) (u9:Value) (u10:Value) (u11:Value) (u12:Value):M R2:=
 M.bind (M.foot (M.pure u0)) fun y0=>
 M.bind (M.foot (q8 y0.1)) fun y1=>
 M.bind (M.foot (l9 0 y1.1)) fun y2=>
 M.bind (M.foot (j5 y2.1)) fun y3=>
 M.bind (M.foot (M.pure u4)) fun y4=>
 M.bind (M.foot (M.pure u5)) fun y5=>
 M.bind (M.foot (F3 4 y4.1 y5.1)) fun y6=>
 M.bind (M.foot (l9 1 y6.1)) fun y7=>
 M.bind (M.foot (j5 y7.1)) fun y8=>
 M.bind (M.foot (D7 call 72 [y3.1,y8.1,(.int .i64 (.ofNat 4))])) fun y9=>
 M.bind (M.foot (M.pure y9.1)) fun y10=>
 M.guard (E9 a3z (H9 a3z [y0.2,y1.2,y2.2,y3.2,y4.2,y5.2,y6.2,y7.2,y8.2,y9.2,y10.2]) [] [] 0) (M.pure (.normal, [y0.1,y1.1,y2.1,y3.1,y4.1,y5.1,y6.1,y7.1,y8.1,y9.1,y10.1]))
theorem c9m (call:j4) (u0:Value) (u1:Value) (u2:Value) (u3:Value) (u4:Value) (u5:Value) (u6:Value) (u7:Value) (u8:Value) (u9:Value) (u10:Value) (u11:Value) (u12:Value):dr call a3z 30 [0, 11, 12, 13, 1, 2, 15, 16, 17, 18, 14, 19, 20] [u0,u1,u2,u3,u4,u5,u6,u7,u8,u9,u10,u11,u12] [11, 12, 13, 14, 15, 16, 17, 18, 19, 20, 6]=b4L call u0 u1 u2 u3 u4 u5 u6 u7 u8 u9 u10 u11 u12:=(F6 _ _ _ _ _ _ _ _).trans (by kernel_rfl)
noncomputable def b2M (call:j4) (u0:Value) (u1:Value) (u2:Value) (u3:Value) (u4:Value) (u5:Value) (u6:Value) (u7:Value) (u8:Value) (u9:Value):M R2:=
 M.bind (M.foot (M.pure u3)) fun y0=>
 M.bind (M.foot (q8 y0.1)) fun y1=>
 M.bind (M.foot (l9 0 y1.1)) fun y2=>
 M.bind (M.foot (j5 y2.1)) fun y3=>
 M.bind (M.foot (M.pure u3)) fun y4=>
 M.bind (M.foot (q8 y4.1)) fun y5=>
 M.bind (M.foot (l9 3 y5.1)) fun y6=>
 M.bind (M.foot (j5 y6.1)) fun y7=>
 M.bind (M.foot (D7 call 72 [y3.1,y7.1,(.int .i64 (.ofNat 4))])) fun y8=>
 M.bind (M.foot (M.pure y8.1)) fun y9=>
 M.guard (E9 a2R (H9 a2R [y0.2,y1.2,y2.2,y3.2,y4.2,y5.2,y6.2,y7.2,y8.2,y9.2]) [] [] 0) (M.pure (.normal, [y0.1,y1.1,y2.1,y3.1,y4.1,y5.1,y6.1,y7.1,y8.1,y9.1]))
theorem d2m (call:j4) (u0:Value) (u1:Value) (u2:Value) (u3:Value) (u4:Value) (u5:Value) (u6:Value) (u7:Value) (u8:Value) (u9:Value):dr call a2R 30 [21, 22, 23, 0, 25, 26, 27, 24, 28, 29] [u0,u1,u2,u3,u4,u5,u6,u7,u8,u9] [21, 22, 23, 24, 25, 26, 27, 28, 29, 6]=b2M call u0 u1 u2 u3 u4 u5 u6 u7 u8 u9:=(F6 _ _ _ _ _ _ _ _).trans (by kernel_rfl)
noncomputable def b1K (cb:Cb) (N:Nat) (call:j4) (a0:Value) (a1:Value) (a2:Value):M CR:=
 cb.bj CR (dr call a3z 30 [0, 11, 12, 13, 1, 2, 15, 16, 17, 18, 14, 19, 20] [a0,undef,undef,undef,a1,a2,undef,undef,undef,undef,undef,undef,undef] [11, 12, 13, 14, 15, 16, 17, 18, 19, 20, 6]) fun _ vs2=>
 M.pure (.ret (d9 vs2 10))
noncomputable def b8x (cb:Cb) (N:Nat) (call:j4) (a0:Value):M CR:=
 cb.bj CR (dr call a2R 30 [21, 22, 23, 0, 25, 26, 27, 24, 28, 29] [undef,undef,undef,a0,undef,undef,undef,undef,undef,undef] [21, 22, 23, 24, 25, 26, 27, 28, 29, 6]) fun _ vs3=>
 M.pure (.ret (d9 vs3 9))
noncomputable def c0P (cb:Cb) (N:Nat) (call:j4) (a0:Value) (a1:Value) (a2:Value):M CR:=
 cb.bv CR (H6 a1) fun v0=>
 cb.bv CR (bn .lss 3 (.tmp 7) (.tmp 9) a2 v0) fun v1=>
 j6 v1 (
 b1K cb N call a0 a1 a2) (
 b8x cb N call a0)
theorem d4I (cb:Cb) (N:Nat) (call:j4) (a0:Value) (a1:Value) (a2:Value):D5 Tryz.prog A9 cb false N call Tryz.f181 d4w e4v [a0,a1,a2]=c0P cb N call a0 a1 a2:=by kernel_rfl
noncomputable def e8U:Code:=D6 Tryz.f182
noncomputable def e2j:Pl:=(.s none .d (.s none (.s none .d (.s none (.l [5, 6, 9, 10, 11, 12, 13, 2, 3, 7, 8, 4] .d) .d)) .d))
noncomputable def b6Q (cb:Cb) (N:Nat) (call:j4) (xs0:List Value) (v3:Value) (v4:Value) (a0:Value) (v5:Value):M R2:=
 cb.bv R2 (bn .add 24 (.tmp 7) (.const (.int .i64 (.ofNat 1))) (d9 xs0 11) (.int .i64 (.ofNat 1))) fun v6=>
 M.pure (.normal, [(d9 xs0 11),v3,(d9 xs0 11),v4,a0,v5,(d9 xs0 6),(d9 xs0 7),(d9 xs0 8),(d9 xs0 11),v6,v6])
noncomputable def b5g (cb:Cb) (N:Nat) (call:j4) (xs0:List Value) (a0:Value) (v3:Value):M R2:=
 cb.bc R2 (call 40 [(d9 xs0 11)]) (fun v4=>
 cb.bv R2 (bn .eql 9 (.tmp 10) (.tmp 11) v4 a0) fun v5=>
 j6 v5 (
 M.pure (.ret, [(d9 xs0 11),v3,(d9 xs0 11),v4,a0,v5,(d9 xs0 11),(d9 xs0 11),(.bool true),(d9 xs0 9),(d9 xs0 10),(d9 xs0 11)])) (
 b6Q cb N call xs0 v3 v4 a0 v5)) l6
noncomputable def c8o (cb:Cb) (N:Nat) (call:j4) (xs0:List Value) (v3:Value):M R2:=
 M.pure (.exit 0, [(d9 xs0 11),v3,(d9 xs0 2),(d9 xs0 3),(d9 xs0 4),(d9 xs0 5),(d9 xs0 6),(d9 xs0 7),(d9 xs0 8),(d9 xs0 9),(d9 xs0 10),(d9 xs0 11)])
noncomputable def b6G (cb:Cb) (N:Nat) (call:j4) (a0:Value) (xs0:List Value):M R2:=
 cb.bv R2 (bn .leq 24 (.tmp 5) (.const (.int .i64 (.ofNat 4))) (d9 xs0 11) (.int .i64 (.ofNat 4))) fun v3=>
 j6 v3 (
 b5g cb N call xs0 a0 v3) (
 c8o cb N call xs0 v3)
noncomputable def c5E (cb:Cb) (N:Nat) (call:j4) (a0:Value):M CR:=
 cb.bj CR (cb.lp (b6G cb N call a0) N [undef,undef,undef,undef,undef,undef,undef,(.int .i64 (.ofNat 0)),(.bool false),undef,undef,(.int .i64 (.ofNat 1))]) fun x1 vs2=>
 l7 x1 (M.fail) (fun i7=>l8 (Nat.beq i7 0) (M.pure (.ret (.tuple ⟨[(.int .i64 (.ofNat 0)),(.bool false)]⟩))) (M.fail)) (M.pure (.ret (.tuple ⟨[(d9 vs2 7),(d9 vs2 8)]⟩))) l6
theorem d5U (cb:Cb) (N:Nat) (call:j4) (a0:Value):D5 Tryz.prog A9 cb false N call Tryz.f182 e8U e2j [a0]=c5E cb N call a0:=by kernel_rfl
noncomputable def d9M:Code:=D6 Tryz.f183
noncomputable def e5z:Pl:=.d
noncomputable def a3r:List Oper:=J7 d9M 3
noncomputable def b7t (call:j4) (u0:Value) (u1:Value) (u2:Value) (u3:Value) (u4:Value) (u5:Value) (u6:Value) (u7:Value) (u8:Value) (u9:Value) (u10:Value):M R2:=
 M.bind (M.foot (M.pure u3)) fun y0=>
 M.bind (M.foot (M.pure u3)) fun y1=>
 M.bind (M.foot (q8 y1.1)) fun y2=>
 M.bind (M.foot (l9 1 y2.1)) fun y3=>
 M.bind (M.foot (j5 y3.1)) fun y4=>
 M.bind (M.foot (M.pure u3)) fun y5=>
 M.bind (M.foot (q8 y5.1)) fun y6=>
 M.bind (M.foot (l9 2 y6.1)) fun y7=>
 M.bind (M.foot (j5 y7.1)) fun y8=>
 M.bind (M.foot (D7 call 181 [y0.1,y4.1,y8.1])) fun y9=>
 M.bind (M.foot (M.pure y9.1)) fun y10=>
 M.guard (E9 a3r (H9 a3r [y0.2,y1.2,y2.2,y3.2,y4.2,y5.2,y6.2,y7.2,y8.2,y9.2,y10.2]) [] [] 0) (M.pure (.normal, [y0.1,y1.1,y2.1,y3.1,y4.1,y5.1,y6.1,y7.1,y8.1,y9.1,y10.1]))
theorem d0C (call:j4) (u0:Value) (u1:Value) (u2:Value) (u3:Value) (u4:Value) (u5:Value) (u6:Value) (u7:Value) (u8:Value) (u9:Value) (u10:Value):dr call a3r 50 [23, 24, 25, 0, 27, 28, 29, 22, 26, 30, 31] [u0,u1,u2,u3,u4,u5,u6,u7,u8,u9,u10] [22, 23, 24, 25, 26, 27, 28, 29, 30, 31, 6]=b7t call u0 u1 u2 u3 u4 u5 u6 u7 u8 u9 u10:=(F6 _ _ _ _ _ _ _ _).trans (by kernel_rfl)
noncomputable def b7U (cb:Cb) (N:Nat) (call:j4) (a0:Value):M CR:=
 cb.bj CR (dr call a3r 50 [23, 24, 25, 0, 27, 28, 29, 22, 26, 30, 31] [undef,undef,undef,a0,undef,undef,undef,undef,undef,undef,undef] [22, 23, 24, 25, 26, 27, 28, 29, 30, 31, 6]) fun _ vs12=>
 M.pure (.ret (d9 vs12 10))
noncomputable def b5G (cb:Cb) (N:Nat) (call:j4) (v3:Value) (a0:Value) (a1:Value) (a2:Value):M CR:=
 cb.bv CR (E8 4 v3) fun v13=>
 cb.bc CR (call 185 [a0,v13,a1]) (fun v14=>
 cb.bv CR (z8 0 v14) fun v15=>
 cb.bv CR (z8 1 v14) fun v16=>
 cb.bv CR (q8 a0) fun v17=>
 cb.bv CR (l9 2 v17) fun v18=>
 cb.bv CR (j5 v18) fun v19=>
 cb.bv CR (bn .add 3 (.tmp 42) (.const (.int .i64 (.ofNat 1))) v19 (.int .i64 (.ofNat 1))) fun v20=>
 cb.bv CR (q8 a0) fun v21=>
 cb.bv CR (l9 2 v21) fun v22=>
 cb.bv CR (r9 1 v22 v20) fun v23=>
 cb.bv CR (q8 a2) fun v24=>
 cb.bv CR (r9 1 v24 v15) fun v25=>
 M.pure (.ret v16)) l6
noncomputable def b6Y (cb:Cb) (N:Nat) (call:j4) (v1:Value) (v2:Value) (a0:Value) (a1:Value) (a2:Value):M CR:=
 cb.bv CR (J6 [(.int .i64 (.ofNat 0)),(.int .i64 (.ofNat 0)),(.string ⟨⟨[]⟩⟩),(.slice none 0 0)]) fun v3=>
 cb.bv CR (r9 4 v3 v1) fun v4=>
 cb.bv CR (un .not v2) fun v5=>
 cb.bj CR (l8 (o7 false v5) (cb.bv R2 (E8 4 v3) fun v8=>
 cb.bc R2 (call 184 [v8]) (fun v9=>
 cb.bv R2 (un .not v9) fun v10=>
 M.pure (.normal, [v8,v9,v10])) l6) (M.pure (.normal, [undef,undef,undef]))) fun x6 vs7=>l7 x6 (cb.bv CR (q9 v5 (.bool true) (d9 vs7 2)) fun v11=>
 j6 v11 (
 b7U cb N call a0) (
 b5G cb N call v3 a0 a1 a2)) (fun _=>M.fail) M.fail l6
noncomputable def c6j (cb:Cb) (N:Nat) (call:j4) (a0:Value) (a1:Value) (a2:Value):M CR:=
 cb.bc CR (call 138 [a0]) (fun v0=>
 cb.bv CR (z8 0 v0) fun v1=>
 cb.bv CR (z8 1 v0) fun v2=>
 b6Y cb N call v1 v2 a0 a1 a2) l6
theorem d3c (cb:Cb) (N:Nat) (call:j4) (a0:Value) (a1:Value) (a2:Value):D5 Tryz.prog A9 cb false N call Tryz.f183 d9M e5z [a0,a1,a2]=c6j cb N call a0 a1 a2:=by kernel_rfl
noncomputable def e9o:Code:=D6 Tryz.f184
noncomputable def e4Z:Pl:=.d
noncomputable def c8Z (cb:Cb) (N:Nat) (call:j4) (vs11:List Value) (vs17:List Value) (vs23:List Value) (v9:Value):M CR:=
 cb.bj CR (l8 (o7 false (d9 vs11 4)) (cb.bv R2 (q9 (d9 vs17 4) (d9 vs23 3) (.bool false)) fun v30=>
 M.pure (.normal, [v30])) (M.pure (.normal, [undef]))) fun x28 vs29=>l7 x28 (cb.bj CR (l8 (o7 true v9) (cb.bv R2 (q9 (d9 vs11 4) (.bool true) (d9 vs29 0)) fun v33=>
 M.pure (.normal, [v33])) (M.pure (.normal, [undef]))) fun x31 vs32=>l7 x31 (cb.bv CR (q9 v9 (d9 vs32 0) (.bool false)) fun v34=>
 M.pure (.ret v34)) (fun _=>M.fail) M.fail l6) (fun _=>M.fail) M.fail l6
noncomputable def b7c (cb:Cb) (N:Nat) (call:j4) (vs11:List Value) (v0:Value) (v9:Value):M CR:=
 cb.bj CR (l8 (o7 false (d9 vs11 4)) (cb.bv R2 (l9 2 v0) fun v18=>
 cb.bv R2 (j5 v18) fun v19=>
 cb.bv R2 (J5 v19 (.int .i64 (.ofNat 0))) fun v20=>
 cb.bv R2 (bn .geq 5 (.tmp 19) (.const (.int .u8 (.ofNat 48))) v20 (.int .u8 (.ofNat 48))) fun v21=>
 M.pure (.normal, [v18,v19,v20,v21,v21])) (M.pure (.normal, [undef,undef,undef,undef,undef]))) fun x16 vs17=>l7 x16 (cb.bj CR (l8 (o7 true (d9 vs17 4)) (cb.bv R2 (l9 2 v0) fun v24=>
 cb.bv R2 (j5 v24) fun v25=>
 cb.bv R2 (J5 v25 (.int .i64 (.ofNat 0))) fun v26=>
 cb.bv R2 (bn .leq 5 (.tmp 24) (.const (.int .u8 (.ofNat 57))) v26 (.int .u8 (.ofNat 57))) fun v27=>
 M.pure (.normal, [v24,v25,v26,v27])) (M.pure (.normal, [undef,undef,undef,undef]))) fun x22 vs23=>l7 x22 (c8Z cb N call vs11 vs17 vs23 v9) (fun _=>M.fail) M.fail l6) (fun _=>M.fail) M.fail l6
noncomputable def b3p (cb:Cb) (N:Nat) (call:j4) (v3:Value) (v0:Value):M CR:=
 cb.bj CR (l8 (o7 true v3) (cb.bv R2 (l9 2 v0) fun v6=>
 cb.bv R2 (j5 v6) fun v7=>
 cb.bv R2 (bn .neq 9 (.tmp 8) (.const (.string ⟨⟨[]⟩⟩)) v7 (.string ⟨⟨[]⟩⟩)) fun v8=>
 M.pure (.normal, [v6,v7,v8])) (M.pure (.normal, [undef,undef,undef]))) fun x4 vs5=>l7 x4 (cb.bv CR (q9 v3 (d9 vs5 2) (.bool false)) fun v9=>
 cb.bj CR (l8 (o7 true v9) (cb.bv R2 (l9 2 v0) fun v12=>
 cb.bv R2 (j5 v12) fun v13=>
 cb.bv R2 (J5 v13 (.int .i64 (.ofNat 0))) fun v14=>
 cb.bv R2 (bn .eql 5 (.tmp 14) (.const (.int .u8 (.ofNat 36))) v14 (.int .u8 (.ofNat 36))) fun v15=>
 M.pure (.normal, [v12,v13,v14,v15,v15])) (M.pure (.normal, [undef,undef,undef,undef,undef]))) fun x10 vs11=>l7 x10 (b7c cb N call vs11 v0 v9) (fun _=>M.fail) M.fail l6) (fun _=>M.fail) M.fail l6
noncomputable def c7f (cb:Cb) (N:Nat) (call:j4) (a0:Value):M CR:=
 cb.bv CR (U7 a0) fun v0=>
 cb.bv CR (l9 0 v0) fun v1=>
 cb.bv CR (j5 v1) fun v2=>
 cb.bv CR (bn .eql 117 (.tmp 4) (.const (.int .i64 (.ofNat 2))) v2 (.int .i64 (.ofNat 2))) fun v3=>
 b3p cb N call v3 v0
theorem d3J (cb:Cb) (N:Nat) (call:j4) (a0:Value):D5 Tryz.prog A9 cb false N call Tryz.f184 e9o e4Z [a0]=c7f cb N call a0:=by kernel_rfl
noncomputable def c7k:Code:=D6 Tryz.f185
noncomputable def e4D:Pl:=(.s none .d (.s none .d (.s none .d (.s (some [10, 11, 13, 14, 15, 16, 17, 18, 19, 20, 21, 22, 12, 23, 24, 26, 27, 28, 29, 30, 31, 32, 33, 34, 35, 36, 25, 37, 38, 8, 9]) .d .d))))
noncomputable def a3g:List Oper:=J7 c7k 4
noncomputable def a3b:List Oper:=J7 c7k 5
noncomputable def a3w:List Oper:=J7 c7k 7
noncomputable def b2x (call:j4) (u0:Value) (u1:Value) (u2:Value) (u3:Value) (u4:Value) (u5:Value) (u6:Value) (u7:Value) (u8:Value) (u9:Value) (u10:Value) (u11:Value) (u12:Value) (u13:Value) (u14:Value):M R2:=
 M.bind (M.foot (M.pure u0)) fun y0=>
 M.bind (M.foot (q8 y0.1)) fun y1=>
 M.bind (M.foot (l9 0 y1.1)) fun y2=>
 M.bind (M.foot (j5 y2.1)) fun y3=>
 M.bind (M.foot (q8 y3.1)) fun y4=>
 M.bind (M.foot (l9 0 y4.1)) fun y5=>
 M.bind (M.foot (j5 y5.1)) fun y6=>
 M.bind (M.foot (l9 2 u7)) fun y7=>
 M.bind (M.foot (j5 y7.1)) fun y8=>
 M.bind (M.foot (D7 call 32 [y6.1,y8.1])) fun y9=>
 M.bind (M.foot (M.pure y9.1)) fun y10=>
 M.bind (M.foot (z8 0 y10.1)) fun y11=>
 M.bind (M.foot (z8 1 y10.1)) fun y12=>
 M.bind (M.foot (M.pure y11.1)) fun y13=>
 M.bind (M.foot (M.pure y12.1)) fun y14=>
 M.guard (E9 a3g (H9 a3g [y0.2,y1.2,y2.2,y3.2,y4.2,y5.2,y6.2,y7.2,y8.2,y9.2,y10.2,y11.2,y12.2,y13.2,y14.2]) [] [] 0) (M.pure (.normal, [y0.1,y1.1,y2.1,y3.1,y4.1,y5.1,y6.1,y7.1,y8.1,y9.1,y10.1,y11.1,y12.1,y13.1,y14.1]))
theorem c8D (call:j4) (u0:Value) (u1:Value) (u2:Value) (u3:Value) (u4:Value) (u5:Value) (u6:Value) (u7:Value) (u8:Value) (u9:Value) (u10:Value) (u11:Value) (u12:Value) (u13:Value) (u14:Value):dr call a3g 50 [0, 13, 14, 15, 16, 17, 18, 4, 20, 19, 21, 22, 12, 23, 24] [u0,u1,u2,u3,u4,u5,u6,u7,u8,u9,u10,u11,u12,u13,u14] [13, 14, 15, 16, 17, 18, 19, 20, 21, 22, 12, 23, 24, 8, 9]=b2x call u0 u1 u2 u3 u4 u5 u6 u7 u8 u9 u10 u11 u12 u13 u14:=(F6 _ _ _ _ _ _ _ _).trans (by kernel_rfl)
noncomputable def b3j (call:j4) (u0:Value) (u1:Value) (u2:Value) (u3:Value) (u4:Value) (u5:Value) (u6:Value) (u7:Value) (u8:Value) (u9:Value) (u10:Value) (u11:Value) (u12:Value) (u13:Value) (u14:Value) (u15:Value) (u16:Value):M R2:=
 M.bind (M.foot (M.pure u0)) fun y0=>
 M.bind (M.foot (q8 y0.1)) fun y1=>
 M.bind (M.foot (l9 0 y1.1)) fun y2=>
 M.bind (M.foot (j5 y2.1)) fun y3=>
 M.bind (M.foot (q8 y3.1)) fun y4=>
 M.bind (M.foot (l9 0 y4.1)) fun y5=>
 M.bind (M.foot (j5 y5.1)) fun y6=>
 M.bind (M.foot (M.pure u7)) fun y7=>
 M.bind (M.foot (l9 2 u8)) fun y8=>
 M.bind (M.foot (j5 y8.1)) fun y9=>
 M.bind (M.foot (D7 call 207 [y6.1,y7.1,y9.1])) fun y10=>
 M.bind (M.foot (M.pure y10.1)) fun y11=>
 M.bind (M.foot (z8 0 y11.1)) fun y12=>
 M.bind (M.foot (z8 1 y11.1)) fun y13=>
 M.bind (M.foot (M.pure y12.1)) fun y14=>
 M.bind (M.foot (M.pure y13.1)) fun y15=>
 M.guard (E9 a3b (H9 a3b [y0.2,y1.2,y2.2,y3.2,y4.2,y5.2,y6.2,y7.2,y8.2,y9.2,y10.2,y11.2,y12.2,y13.2,y14.2,y15.2]) [] [] 0) (M.pure (.normal, [y0.1,y1.1,y2.1,y3.1,y4.1,y5.1,y6.1,y7.1,y8.1,y9.1,y10.1,y11.1,y12.1,y13.1,y14.1,y15.1]))
theorem d1B (call:j4) (u0:Value) (u1:Value) (u2:Value) (u3:Value) (u4:Value) (u5:Value) (u6:Value) (u7:Value) (u8:Value) (u9:Value) (u10:Value) (u11:Value) (u12:Value) (u13:Value) (u14:Value) (u15:Value) (u16:Value):dr call a3b 50 [0, 26, 27, 28, 29, 30, 31, 2, 4, 34, 32, 33, 35, 36, 25, 37, 38] [u0,u1,u2,u3,u4,u5,u6,u7,u8,u9,u10,u11,u12,u13,u14,u15,u16] [26, 27, 28, 29, 30, 31, 32, 33, 34, 35, 36, 25, 37, 38, 8, 9]=b3j call u0 u1 u2 u3 u4 u5 u6 u7 u8 u9 u10 u11 u12 u13 u14 u15 u16:=(F6 _ _ _ _ _ _ _ _).trans (by kernel_rfl)
noncomputable def b8H (call:j4) (u0:Value) (u1:Value) (u2:Value) (u3:Value) (u4:Value) (u5:Value) (u6:Value) (u7:Value) (u8:Value) (u9:Value) (u10:Value):M R2:=
 M.bind (M.foot (M.pure u0)) fun y0=>
 M.bind (M.foot (q8 y0.1)) fun y1=>
 M.bind (M.foot (l9 0 y1.1)) fun y2=>
 M.bind (M.foot (j5 y2.1)) fun y3=>
 M.bind (M.foot (l9 1 u4)) fun y4=>
 M.bind (M.foot (j5 y4.1)) fun y5=>
 M.bind (M.foot (M.pure u6)) fun y6=>
 M.bind (M.foot (D7 call 72 [y3.1,y5.1,y6.1])) fun y7=>
 M.bind (M.foot (M.pure (.int .i64 (.ofNat 0)))) fun y8=>
 M.bind (M.foot (M.pure y7.1)) fun y9=>
 M.guard (E9 a3w (H9 a3w [y0.2,y1.2,y2.2,y3.2,y4.2,y5.2,y6.2,y7.2,y8.2,y9.2]) [] [] 0) (M.pure (.normal, [y0.1,y1.1,y2.1,y3.1,y4.1,y5.1,y6.1,y7.1,y8.1,y9.1]))
theorem d2x (call:j4) (u0:Value) (u1:Value) (u2:Value) (u3:Value) (u4:Value) (u5:Value) (u6:Value) (u7:Value) (u8:Value) (u9:Value) (u10:Value):dr call a3w 50 [0, 41, 42, 43, 4, 45, 9, 44, 46, 47, 48] [u0,u1,u2,u3,u4,u5,u6,u7,u8,u9,u10] [41, 42, 43, 44, 45, 46, 47, 48, 6, 7]=b8H call u0 u1 u2 u3 u4 u5 u6 u7 u8 u9 u10:=(F6 _ _ _ _ _ _ _ _).trans (by kernel_rfl)
noncomputable def b4w (cb:Cb) (N:Nat) (call:j4) (a0:Value) (v0:Value) (a2:Value) (v3:Value):M R2:=
 cb.bj R2 (dr call a3g 50 [0, 13, 14, 15, 16, 17, 18, 4, 20, 19, 21, 22, 12, 23, 24] [a0,undef,undef,undef,undef,undef,undef,v0,undef,undef,undef,undef,undef,undef,undef] [13, 14, 15, 16, 17, 18, 19, 20, 21, 22, 12, 23, 24, 8, 9]) fun _ vs4=>
 M.pure (.normal, [a2,v3,(d9 vs4 0),(d9 vs4 1),(d9 vs4 2),(d9 vs4 3),(d9 vs4 4),(d9 vs4 5),(d9 vs4 6),(d9 vs4 7),(d9 vs4 8),(d9 vs4 9),(d9 vs4 10),(d9 vs4 11),(d9 vs4 12),undef,undef,undef,undef,undef,undef,undef,undef,undef,undef,undef,undef,undef,undef,(d9 vs4 13),(d9 vs4 14)])
noncomputable def b4g (cb:Cb) (N:Nat) (call:j4) (a0:Value) (a2:Value) (v0:Value) (v3:Value):M R2:=
 cb.bj R2 (dr call a3b 50 [0, 26, 27, 28, 29, 30, 31, 2, 4, 34, 32, 33, 35, 36, 25, 37, 38] [a0,undef,undef,undef,undef,undef,undef,a2,v0,undef,undef,undef,undef,undef,undef,undef,undef] [26, 27, 28, 29, 30, 31, 32, 33, 34, 35, 36, 25, 37, 38, 8, 9]) fun _ vs5=>
 M.pure (.normal, [a2,v3,undef,undef,undef,undef,undef,undef,undef,undef,undef,undef,undef,undef,undef,(d9 vs5 0),(d9 vs5 1),(d9 vs5 2),(d9 vs5 3),(d9 vs5 4),(d9 vs5 5),(d9 vs5 6),(d9 vs5 7),(d9 vs5 8),(d9 vs5 9),(d9 vs5 10),(d9 vs5 11),(d9 vs5 12),(d9 vs5 13),(d9 vs5 14),(d9 vs5 15)])
noncomputable def b4X (cb:Cb) (N:Nat) (call:j4) (a0:Value) (v0:Value) (vs2:List Value):M CR:=
 cb.bj CR (dr call a3w 50 [0, 41, 42, 43, 4, 45, 9, 44, 46, 47, 48] [a0,undef,undef,undef,v0,undef,(d9 vs2 30),undef,undef,undef,undef] [41, 42, 43, 44, 45, 46, 47, 48, 6, 7]) fun _ vs7=>
 M.pure (.ret (.tuple ⟨[(d9 vs7 8),(d9 vs7 9)]⟩))
noncomputable def c7N (cb:Cb) (N:Nat) (call:j4) (a0:Value) (a1:Value) (a2:Value):M CR:=
 cb.bv CR (U7 a1) fun v0=>
 cb.bj CR (cb.bv R2 (bn .eql 3 (.tmp 10) (.const (.int .i64 (.negSucc 0))) a2 (.int .i64 (.negSucc 0))) fun v3=>
 j6 v3 (
 b4w cb N call a0 v0 a2 v3) (
 b4g cb N call a0 a2 v0 v3)) fun x1 vs2=>
 l7 x1 (cb.bv CR (bn .neq 41 (.tmp 39) (.const (.int .i64 (.ofNat 0))) (d9 vs2 30) (.int .i64 (.ofNat 0))) fun v6=>
 j6 v6 (
 b4X cb N call a0 v0 vs2) (
 M.pure (.ret (.tuple ⟨[(d9 vs2 29),(.bool true)]⟩)))) (fun _=>M.fail) (M.fail) l6
theorem d5l (cb:Cb) (N:Nat) (call:j4) (a0:Value) (a1:Value) (a2:Value):D5 Tryz.prog A9 cb false N call Tryz.f185 c7k e4D [a0,a1,a2]=c7N cb N call a0 a1 a2:=by kernel_rfl
noncomputable def e1I:Code:=D6 Tryz.f186
noncomputable def e3X:Pl:=(.s none .d (.s none .d (.s none .d (.s (some [17, 18, 19, 20, 21, 22, 23, 24, 25, 26, 27, 28, 29, 30, 31, 32, 33, 6, 0]) .d (.s none .d (.s none .d (.s none .d (.s none (.s none (.s (some [46, 47, 48, 49, 50, 51, 52, 53, 54, 55, 56, 57, 58, 59, 60, 61, 45]) .d .d) .d) .d))))))))
noncomputable def a3N:List Oper:=J7 e1I 5
noncomputable def b8m (call:j4) (u0:Value) (u1:Value) (u2:Value) (u3:Value) (u4:Value) (u5:Value):M R2:=
 M.bind (M.foot (M.pure u2)) fun y0=>
 M.bind (M.foot (J5 y0.1 (.int .i64 (.ofNat 0)))) fun y1=>
 M.bind (M.foot (bn .eql 5 (.tmp 30) (.const (.int .u8 (.ofNat 45))) y1.1 (.int .u8 (.ofNat 45)))) fun y2=>
 M.bind (M.foot (M.pure u2)) fun y3=>
 M.bind (M.foot (J4 y3.1 (some (.int .i64 (.ofNat 1))) none)) fun y4=>
 M.bind (M.foot (M.pure y2.1)) fun y5=>
 M.bind (M.foot (M.pure y4.1)) fun y6=>
 M.guard (E9 a3N (H9 a3N [y0.2,y1.2,y2.2,y3.2,y4.2,y5.2,y6.2]) [] [] 0) (M.pure (.normal, [y0.1,y1.1,y2.1,y3.1,y4.1,y5.1,y6.1]))
theorem c9D (call:j4) (u0:Value) (u1:Value) (u2:Value) (u3:Value) (u4:Value) (u5:Value):dr call a3N 69 [29, 30, 0, 32, 31, 33] [u0,u1,u2,u3,u4,u5] [29, 30, 31, 32, 33, 6, 0]=b8m call u0 u1 u2 u3 u4 u5:=(F6 _ _ _ _ _ _ _ _).trans (by kernel_rfl)
noncomputable def b8I (cb:Cb) (N:Nat) (call:j4) (a0:Value) (v7:Value) (vs9:List Value) (vs13:List Value) (vs17:List Value) (v19:Value):M R2:=
 cb.bj R2 (dr call a3N 69 [29, 30, 0, 32, 31, 33] [undef,undef,a0,undef,undef,undef] [29, 30, 31, 32, 33, 6, 0]) fun _ vs20=>
 M.pure (.normal, [a0,v7,v7,(d9 vs9 0),(d9 vs9 1),(d9 vs9 2),(d9 vs9 3),(d9 vs13 0),(d9 vs13 1),(d9 vs13 2),(d9 vs17 0),v19,(d9 vs20 0),(d9 vs20 1),(d9 vs20 2),(d9 vs20 3),(d9 vs20 4),(d9 vs20 5),(d9 vs20 6)])
noncomputable def c9H (cb:Cb) (N:Nat) (call:j4) (a0:Value) (v7:Value) (vs9:List Value) (vs13:List Value) (vs17:List Value) (v19:Value):M R2:=
 M.pure (.normal, [a0,v7,v7,(d9 vs9 0),(d9 vs9 1),(d9 vs9 2),(d9 vs9 3),(d9 vs13 0),(d9 vs13 1),(d9 vs13 2),(d9 vs17 0),v19,undef,undef,undef,undef,undef,(.bool false),a0])
noncomputable def b4n (cb:Cb) (N:Nat) (call:j4) (vs9:List Value) (a0:Value) (v7:Value):M R2:=
 cb.bj R2 (l8 (o7 false (d9 vs9 3)) (cb.bv R2 (J5 a0 (.int .i64 (.ofNat 0))) fun v14=>
 cb.bv R2 (bn .eql 5 (.tmp 25) (.const (.int .u8 (.ofNat 43))) v14 (.int .u8 (.ofNat 43))) fun v15=>
 M.pure (.normal, [a0,v14,v15])) (M.pure (.normal, [undef,undef,undef]))) fun x12 vs13=>l7 x12 (cb.bj R2 (l8 (o7 true v7) (cb.bv R2 (q9 (d9 vs9 3) (.bool true) (d9 vs13 2)) fun v18=>
 M.pure (.normal, [v18])) (M.pure (.normal, [undef]))) fun x16 vs17=>l7 x16 (cb.bv R2 (q9 v7 (d9 vs17 0) (.bool false)) fun v19=>
 j6 v19 (
 b8I cb N call a0 v7 vs9 vs13 vs17 v19) (
 c9H cb N call a0 v7 vs9 vs13 vs17 v19)) (fun _=>M.fail) M.fail l6) (fun _=>M.fail) M.fail l6
noncomputable def c9S (cb:Cb) (N:Nat) (call:j4) (v23:Value) (vs6:List Value) (v30:Value) (vs32:List Value) (v34:Value):M R2:=
 M.pure (.normal, [v23,(d9 vs6 17),v30,v30,(d9 vs32 0),(d9 vs32 1),(d9 vs32 2),v34,undef,undef,undef,undef,undef,undef,undef,undef,v34])
noncomputable def b4E (cb:Cb) (N:Nat) (call:j4) (vs6:List Value) (v27:Value) (v22:Value) (v23:Value) (v30:Value) (vs32:List Value) (v34:Value):M R2:=
 cb.bj R2 (l8 (o7 true (d9 vs6 17)) (cb.bv R2 (bn .shr 23 (.tmp 57) (.const (.int .u64 (.ofNat 1))) v27 (.int .u64 (.ofNat 1))) fun v37=>
 cb.bv R2 (bn .add 23 (.tmp 58) (.const (.int .u64 (.ofNat 1))) v37 (.int .u64 (.ofNat 1))) fun v38=>
 cb.bv R2 (bn .gtr 23 (.tmp 56) (.tmp 59) v22 v38) fun v39=>
 M.pure (.normal, [v22,v27,v37,v38,v39])) (M.pure (.normal, [undef,undef,undef,undef,undef]))) fun x35 vs36=>l7 x35 (cb.bv R2 (q9 (d9 vs6 17) (d9 vs36 4) (.bool false)) fun v40=>
 M.pure (.normal, [v23,(d9 vs6 17),v30,v30,(d9 vs32 0),(d9 vs32 1),(d9 vs32 2),v34,(d9 vs6 17),(d9 vs6 17),(d9 vs36 0),(d9 vs36 1),(d9 vs36 2),(d9 vs36 3),(d9 vs36 4),v40,v40])) (fun _=>M.fail) M.fail l6
noncomputable def b2U (cb:Cb) (N:Nat) (call:j4) (vs6:List Value) (v22:Value) (v27:Value) (v23:Value):M R2:=
 cb.bv R2 (un .not (d9 vs6 17)) fun v30=>
 cb.bj R2 (l8 (o7 true v30) (cb.bv R2 (bn .gtr 23 (.tmp 50) (.tmp 51) v22 v27) fun v33=>
 M.pure (.normal, [v22,v27,v33])) (M.pure (.normal, [undef,undef,undef]))) fun x31 vs32=>l7 x31 (cb.bv R2 (q9 v30 (d9 vs32 2) (.bool false)) fun v34=>
 j6 v34 (
 c9S cb N call v23 vs6 v30 vs32 v34) (
 b4E cb N call vs6 v27 v22 v23 v30 vs32 v34)) (fun _=>M.fail) M.fail l6
noncomputable def b3J (cb:Cb) (N:Nat) (call:j4) (vs6:List Value) (v22:Value) (v27:Value):M CR:=
 j6 (d9 vs6 17) (
 cb.bv CR (un .neg v22) fun v41=>
 cb.bv CR (bn .and 23 (.tmp 65) (.tmp 66) v41 v27) fun v42=>
 M.pure (.ret (.tuple ⟨[v42,(.int .i64 (.ofNat 0))]⟩))) (
 M.pure (.ret (.tuple ⟨[v22,(.int .i64 (.ofNat 0))]⟩)))
noncomputable def b4a (cb:Cb) (N:Nat) (call:j4) (v26:Value) (v23:Value) (vs6:List Value) (v22:Value):M CR:=
 cb.bv CR (bn .shr 23 (.const (.int .u64 (.ofNat 18446744073709551615))) (.tmp 43) (.int .u64 (.ofNat 18446744073709551615)) v26) fun v27=>
 cb.bj CR (j6 v23 (
 M.pure (.normal, [v23,undef,undef,undef,undef,undef,undef,undef,undef,undef,undef,undef,undef,undef,undef,undef,v23])) (
 b2U cb N call vs6 v22 v27 v23)) fun x28 vs29=>
 l7 x28 (j6 (d9 vs29 16) (
 M.pure (.ret (.tuple ⟨[(.int .u64 (.ofNat 0)),(.int .i64 (.ofNat 6))]⟩))) (
 b3J cb N call vs6 v22 v27)) (fun _=>M.fail) (M.fail) l6
noncomputable def b4o (cb:Cb) (N:Nat) (call:j4) (a0:Value) (a1:Value):M CR:=
 cb.bj CR (cb.bv R2 (bn .neq 9 (.tmp 17) (.const (.string ⟨⟨[]⟩⟩)) a0 (.string ⟨⟨[]⟩⟩)) fun v7=>
 cb.bj R2 (l8 (o7 true v7) (cb.bv R2 (J5 a0 (.int .i64 (.ofNat 0))) fun v10=>
 cb.bv R2 (bn .eql 5 (.tmp 21) (.const (.int .u8 (.ofNat 45))) v10 (.int .u8 (.ofNat 45))) fun v11=>
 M.pure (.normal, [a0,v10,v11,v11])) (M.pure (.normal, [undef,undef,undef,undef]))) fun x8 vs9=>l7 x8 (b4n cb N call vs9 a0 v7) (fun _=>M.fail) M.fail l6) fun x5 vs6=>
 l7 x5 (cb.bc CR (call 118 [(d9 vs6 18)]) (fun v21=>
 cb.bv CR (z8 0 v21) fun v22=>
 cb.bv CR (z8 1 v21) fun v23=>
 cb.bv CR (z8 2 v21) fun v24=>
 cb.bv CR (un .not v24) fun v25=>
 j6 v25 (
 M.pure (.ret (.tuple ⟨[(.int .u64 (.ofNat 0)),(.int .i64 (.ofNat 4))]⟩))) (
 cb.bv CR (bn .sub 3 (.const (.int .i64 (.ofNat 64))) (.tmp 42) (.int .i64 (.ofNat 64)) a1) fun v26=>
 b4a cb N call v26 v23 vs6 v22)) l6) (fun _=>M.fail) (M.fail) l6
noncomputable def c3U (cb:Cb) (N:Nat) (call:j4) (a0:Value) (a1:Value):M CR:=
 cb.bv CR (bn .lss 3 (.tmp 11) (.const (.int .i64 (.ofNat 1))) a1 (.int .i64 (.ofNat 1))) fun v0=>
 cb.bj CR (l8 (o7 false v0) (cb.bv R2 (bn .gtr 3 (.tmp 14) (.const (.int .i64 (.ofNat 64))) a1 (.int .i64 (.ofNat 64))) fun v3=>
 M.pure (.normal, [a1,v3])) (M.pure (.normal, [undef,undef]))) fun x1 vs2=>l7 x1 (cb.bv CR (q9 v0 (.bool true) (d9 vs2 1)) fun v4=>
 j6 v4 (
 M.pure (.ret (.tuple ⟨[(.int .u64 (.ofNat 0)),(.int .i64 (.ofNat 1))]⟩))) (
 b4o cb N call a0 a1)) (fun _=>M.fail) M.fail l6
theorem d6u (cb:Cb) (N:Nat) (call:j4) (a0:Value) (a1:Value):D5 Tryz.prog A9 cb false N call Tryz.f186 e1I e3X [a0,a1]=c3U cb N call a0 a1:=by kernel_rfl
noncomputable def e9C:Code:=D6 Tryz.f187
noncomputable def e3y:Pl:=.d
noncomputable def b2n (cb:Cb) (N:Nat) (call:j4) (v10:Value) (v11:Value):M CR:=
 cb.bv CR (bn .add 23 (.tmp 20) (.tmp 22) v10 v11) fun v12=>
 cb.bv CR (bn .shr 23 (.tmp 25) (.const (.int .u64 (.ofNat 16))) v12 (.int .u64 (.ofNat 16))) fun v13=>
 cb.bv CR (bn .add 23 (.tmp 24) (.tmp 26) v12 v13) fun v14=>
 cb.bv CR (bn .shr 23 (.tmp 29) (.const (.int .u64 (.ofNat 32))) v14 (.int .u64 (.ofNat 32))) fun v15=>
 cb.bv CR (bn .add 23 (.tmp 28) (.tmp 30) v14 v15) fun v16=>
 cb.bv CR (I7 .i64 v16) fun v17=>
 cb.bv CR (bn .and 3 (.tmp 33) (.const (.int .i64 (.ofNat 127))) v17 (.int .i64 (.ofNat 127))) fun v18=>
 M.pure (.ret v18)
noncomputable def b4s (cb:Cb) (N:Nat) (call:j4) (v3:Value) (v5:Value):M CR:=
 cb.bv CR (bn .and 23 (.tmp 12) (.const (.int .u64 (.ofNat 3689348814741910323))) v3 (.int .u64 (.ofNat 3689348814741910323))) fun v6=>
 cb.bv CR (bn .add 23 (.tmp 11) (.tmp 13) v5 v6) fun v7=>
 cb.bv CR (bn .shr 23 (.tmp 15) (.const (.int .u64 (.ofNat 4))) v7 (.int .u64 (.ofNat 4))) fun v8=>
 cb.bv CR (bn .add 23 (.tmp 16) (.tmp 17) v8 v7) fun v9=>
 cb.bv CR (bn .and 23 (.tmp 18) (.const (.int .u64 (.ofNat 1085102592571150095))) v9 (.int .u64 (.ofNat 1085102592571150095))) fun v10=>
 cb.bv CR (bn .shr 23 (.tmp 21) (.const (.int .u64 (.ofNat 8))) v10 (.int .u64 (.ofNat 8))) fun v11=>
 b2n cb N call v10 v11
noncomputable def b6f (cb:Cb) (N:Nat) (call:j4) (v0:Value) (a0:Value):M CR:=
 cb.bv CR (bn .and 23 (.tmp 4) (.const (.int .u64 (.ofNat 6148914691236517205))) v0 (.int .u64 (.ofNat 6148914691236517205))) fun v1=>
 cb.bv CR (bn .and 23 (.tmp 6) (.const (.int .u64 (.ofNat 6148914691236517205))) a0 (.int .u64 (.ofNat 6148914691236517205))) fun v2=>
 cb.bv CR (bn .add 23 (.tmp 5) (.tmp 7) v1 v2) fun v3=>
 cb.bv CR (bn .shr 23 (.tmp 9) (.const (.int .u64 (.ofNat 2))) v3 (.int .u64 (.ofNat 2))) fun v4=>
 cb.bv CR (bn .and 23 (.tmp 10) (.const (.int .u64 (.ofNat 3689348814741910323))) v4 (.int .u64 (.ofNat 3689348814741910323))) fun v5=>
 b4s cb N call v3 v5
noncomputable def c7i (cb:Cb) (N:Nat) (call:j4) (a0:Value):M CR:=
 cb.bv CR (bn .shr 23 (.tmp 3) (.const (.int .u64 (.ofNat 1))) a0 (.int .u64 (.ofNat 1))) fun v0=>
 b6f cb N call v0 a0
theorem d5y (cb:Cb) (N:Nat) (call:j4) (a0:Value):D5 Tryz.prog A9 cb false N call Tryz.f187 e9C e3y [a0]=c7i cb N call a0:=by kernel_rfl
noncomputable def f0p:Code:=D6 Tryz.f188
noncomputable def e2g:Pl:=.d
noncomputable def b8F (cb:Cb) (N:Nat) (call:j4) (a0:Value):M CR:=
 cb.bv CR (un .neg a0) fun v1=>
 cb.bv CR (bn .and 23 (.tmp 5) (.tmp 7) a0 v1) fun v2=>
 cb.bv CR (bn .mul 23 (.tmp 8) (.const (.int .u64 (.ofNat 285870213051353865))) v2 (.int .u64 (.ofNat 285870213051353865))) fun v3=>
 cb.bv CR (bn .shr 23 (.tmp 9) (.const (.int .u64 (.ofNat 58))) v3 (.int .u64 (.ofNat 58))) fun v4=>
 cb.bv CR (e0i 1 64 (.pointer (some ⟨4, 0,some 0⟩)) v4) fun v5=>
 cb.bv CR (j5 v5) fun v6=>
 cb.bv CR (I7 .i64 v6) fun v7=>
 M.pure (.ret v7)
noncomputable def c3m (cb:Cb) (N:Nat) (call:j4) (a0:Value):M CR:=
 cb.bv CR (bn .eql 23 (.tmp 3) (.const (.int .u64 (.ofNat 0))) a0 (.int .u64 (.ofNat 0))) fun v0=>
 j6 v0 (
 M.pure (.ret (.int .i64 (.ofNat 64)))) (
 b8F cb N call a0)
theorem d5p (cb:Cb) (N:Nat) (call:j4) (a0:Value):D5 Tryz.prog A9 cb false N call Tryz.f188 f0p e2g [a0]=c3m cb N call a0:=by kernel_rfl
noncomputable def e9h:Code:=D6 Tryz.f207
noncomputable def e6b:Pl:=.d
noncomputable def c8v (cb:Cb) (N:Nat) (call:j4) (a2:Value):M CR:=
 cb.bc CR (call 81 [a2,(.int .i64 (.ofNat 4294967295))]) (fun v6=>
 cb.bv CR (z8 0 v6) fun v7=>
 cb.bv CR (z8 1 v6) fun v8=>
 M.pure (.ret (.tuple ⟨[v7,v8]⟩))) l6
noncomputable def c9W (cb:Cb) (N:Nat) (call:j4) (v2:Value) (a2:Value):M CR:=
 cb.bv CR (q8 v2) fun v9=>
 cb.bv CR (l9 2 v9) fun v10=>
 cb.bv CR (j5 v10) fun v11=>
 cb.bv CR (a3S A9 94 v11 a2 true) fun v12=>
 cb.bv CR (z8 0 v12) fun v13=>
 cb.bv CR (z8 1 v12) fun v14=>
 cb.bv CR (un .not v14) fun v15=>
 j6 v15 (
 M.pure (.ret (.tuple ⟨[(.int .i64 (.ofNat 0)),(.int .i64 (.ofNat 24))]⟩))) (
 M.pure (.ret (.tuple ⟨[v13,(.int .i64 (.ofNat 0))]⟩)))
noncomputable def b4e (cb:Cb) (N:Nat) (call:j4) (a0:Value) (a1:Value) (a2:Value):M CR:=
 cb.bc CR (call 106 [a0,a1]) (fun v2=>
 cb.bv CR (bn .eql 93 (.tmp 17) (.const (.pointer none)) v2 (.pointer none)) fun v3=>
 j6 v3 (
 M.pure (.ret (.tuple ⟨[(.int .i64 (.ofNat 0)),(.int .i64 (.ofNat 1))]⟩))) (
 cb.bc CR (call 80 [a2,(.string ⟨⟨[36]⟩⟩)]) (fun v4=>
 cb.bv CR (un .not v4) fun v5=>
 j6 v5 (
 c8v cb N call a2) (
 c9W cb N call v2 a2)) l6)) l6
noncomputable def c1c (cb:Cb) (N:Nat) (call:j4) (a0:Value) (a1:Value) (a2:Value):M CR:=
 cb.bc CR (call 79 [a0]) (fun v0=>
 cb.bv CR (un .not v0) fun v1=>
 j6 v1 (
 M.pure (.ret (.tuple ⟨[(.int .i64 (.ofNat 0)),(.int .i64 (.ofNat 2))]⟩))) (
 b4e cb N call a0 a1 a2)) l6
theorem d6j (cb:Cb) (N:Nat) (call:j4) (a0:Value) (a1:Value) (a2:Value):D5 Tryz.prog A9 cb false N call Tryz.f207 e9h e6b [a0,a1,a2]=c1c cb N call a0 a1 a2:=by kernel_rfl
end Go.Proofs.YtmomonnlmbljoaaGreatDoor
end
