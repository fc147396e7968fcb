import Derived.Test.YtmomonnlmbljoaaGreatDoorRap
section
namespace Go.Proofs.YtmomonnlmbljoaaGreatDoor
open Go.V Go.Proofs
set_option maxRecDepth 100000
set_option linter.unusedVariables false
noncomputable def c75:Code:=D6 Tryz.f75
noncomputable def e9c:Pl:=(.s none .d (.s none (.s none (.l [11, 12, 13, 14, 15, 16, 17, 18, 19, 20, 21, 22, 23, 24, 25, 26, 27, 28, 29, 30, 31, 32, 33, 34, 35, 36, 37, 38, 39, 40, 10, 41, 42, 4] .d) .d) (.s none .d (.s none .d (.s none .d (.s none .d (.s (some [71, 72, 4, 73, 74, 75, 76, 77, 78, 79, 80, 81, 82, 83, 84, 85, 86, 87, 88, 89, 90, 91, 92, 93, 94, 95, 96, 97, 98, 99, 100, 101, 102, 103, 104, 105, 106, 107, 108, 109, 110, 111, 112, 113, 10]) .d .d)))))))
noncomputable def a5h:List Oper:=J7 c75 4
noncomputable def a5v:List Oper:=J7 c75 9
noncomputable def c0Y (call:j4) (u0:Value) (u1:Value) (u2:Value) (u3:Value) (u4:Value) (u5:Value) (u6:Value) (u7:Value) (u8:Value) (u9:Value):M R2:=
 M.bind (M.foot (M.pure u0)) fun y0=>
 M.bind (M.foot (q8 y0.1)) fun y1=>
 M.bind (M.foot (l9 5 y1.1)) fun y2=>
 M.bind (M.foot (j5 y2.1)) fun y3=>
 M.bind (M.foot (M.pure u4)) fun y4=>
 M.bind (M.foot (F3 4 y4.1 (.int .i64 (.ofNat 0)))) fun y5=>
 M.bind (M.foot (E8 4 y5.1)) fun y6=>
 M.bind (M.foot (a1C y3.1 [y6.1] (D7 call))) fun y7=>
 M.bind (M.foot (un .not y7.1)) fun y8=>
 M.guard (E9 a5h (H9 a5h [y0.2,y1.2,y2.2,y3.2,y4.2,y5.2,y6.2,y7.2,y8.2]) [] [] 0) (M.pure (.normal, [y0.1,y1.1,y2.1,y3.1,y4.1,y5.1,y6.1,y7.1,y8.1]))
theorem d4v (call:j4) (u0:Value) (u1:Value) (u2:Value) (u3:Value) (u4:Value) (u5:Value) (u6:Value) (u7:Value) (u8:Value) (u9:Value):dr call a5h 126 [0, 32, 33, 34, 4, 36, 37, 35, 38, 39] [u0,u1,u2,u3,u4,u5,u6,u7,u8,u9] [32, 33, 34, 35, 36, 37, 38, 39, 40]=c0Y call u0 u1 u2 u3 u4 u5 u6 u7 u8 u9:=(F6 _ _ _ _ _ _ _ _).trans (by kernel_rfl)
noncomputable def c0M (call:j4) (u0:Value) (u1:Value) (u2:Value) (u3:Value) (u4:Value) (u5:Value) (u6:Value) (u7:Value) (u8:Value) (u9:Value) (u10:Value) (u11:Value):M R2:=
 M.bind (M.foot (M.pure u0)) fun y0=>
 M.bind (M.foot (M.pure u0)) fun y1=>
 M.bind (M.foot (q8 y1.1)) fun y2=>
 M.bind (M.foot (l9 1 y2.1)) fun y3=>
 M.bind (M.foot (j5 y3.1)) fun y4=>
 M.bind (M.foot (E8 9 u4)) fun y5=>
 M.bind (M.foot (H8 9 1 [(0, 9)] [y5.1] [(.int .i64 (.ofNat 0)),(.int .i64 (.ofNat 0)),(.int .i64 (.ofNat 0)),(.int .u64 (.ofNat 0)),(.int .i64 (.ofNat 0)),(.int .i64 (.ofNat 0)),(.int .i64 (.ofNat 0)),(.slice none 0 0),(.slice none 0 0)])) fun y6=>
 M.bind (M.foot (Q9 a0B y4.1 y6.1)) fun y7=>
 M.bind (M.foot (q8 y0.1)) fun y8=>
 M.bind (M.foot (l9 1 y8.1)) fun y9=>
 M.bind (M.foot (r9 1 y9.1 y7.1)) fun y10=>
 M.guard (E9 a5v (H9 a5v [y0.2,y1.2,y2.2,y3.2,y4.2,y5.2,y6.2,y7.2,y8.2,y9.2,y10.2]) [] [] 0) (M.pure (.normal, [y0.1,y1.1,y2.1,y3.1,y4.1,y5.1,y6.1,y7.1,y8.1,y9.1]))
theorem d6v (call:j4) (u0:Value) (u1:Value) (u2:Value) (u3:Value) (u4:Value) (u5:Value) (u6:Value) (u7:Value) (u8:Value) (u9:Value) (u10:Value) (u11:Value):dr call a5v 126 [0, 51, 52, 53, 7, 55, 54, 56, 50, 58, 59, 57] [u0,u1,u2,u3,u4,u5,u6,u7,u8,u9,u10,u11] [50, 51, 52, 53, 54, 55, 56, 57, 58, 59]=c0M call u0 u1 u2 u3 u4 u5 u6 u7 u8 u9 u10 u11:=(F6 _ _ _ _ _ _ _ _).trans (by kernel_rfl)
noncomputable def d7E (cb:Cb) (N:Nat) (call:j4) (v18:Value) (a0:Value) (xs2:List Value) (v5:Value) (v6:Value) (vs8:List Value) (v13:Value) (v14:Value) (v15:Value) (v16:Value) (v17:Value):M R2:=
 cb.bv R2 (l9 1 v18) fun v19=>
 cb.bv R2 (j5 v19) fun v20=>
 cb.bc R2 (call 72 [a0,v20,(.int .i64 (.ofNat 4))]) (fun v21=>
 M.pure (.ret, [(d9 xs2 33),v5,v6,v6,(d9 vs8 0),(d9 vs8 1),(d9 vs8 2),(d9 vs8 3),(d9 vs8 4),v13,(d9 xs2 33),v14,v15,v16,v17,a0,(d9 xs2 33),v18,v19,v20,v21,(d9 xs2 21),(d9 xs2 22),(d9 xs2 23),(d9 xs2 24),(d9 xs2 25),(d9 xs2 26),(d9 xs2 27),(d9 xs2 28),(d9 xs2 29),v21,(d9 xs2 31),(d9 xs2 32),(d9 xs2 33)])) l6
noncomputable def d6M (cb:Cb) (N:Nat) (call:j4) (xs2:List Value) (v5:Value) (v6:Value) (vs8:List Value) (v13:Value) (v14:Value) (v15:Value) (v16:Value) (v17:Value) (vs22:List Value):M R2:=
 M.pure (.ret, [(d9 xs2 33),v5,v6,v6,(d9 vs8 0),(d9 vs8 1),(d9 vs8 2),(d9 vs8 3),(d9 vs8 4),v13,(d9 xs2 33),v14,v15,v16,v17,(d9 xs2 15),(d9 xs2 16),(d9 xs2 17),(d9 xs2 18),(d9 xs2 19),(d9 xs2 20),(d9 vs22 0),(d9 vs22 1),(d9 vs22 2),(d9 vs22 3),(d9 vs22 4),(d9 vs22 5),(d9 vs22 6),(d9 vs22 7),(d9 vs22 8),(.bool false),(d9 xs2 31),(d9 xs2 32),(d9 xs2 33)])
noncomputable def d7r (cb:Cb) (N:Nat) (call:j4) (xs2:List Value) (v5:Value) (v6:Value) (vs8:List Value) (v13:Value) (v14:Value) (v15:Value) (v16:Value) (v17:Value) (vs22:List Value):M R2:=
 cb.bv R2 (Q8 4 (d9 xs2 33) (some (.int .i64 (.ofNat 1))) none) fun v23=>
 M.pure (.normal, [(d9 xs2 33),v5,v6,v6,(d9 vs8 0),(d9 vs8 1),(d9 vs8 2),(d9 vs8 3),(d9 vs8 4),v13,(d9 xs2 33),v14,v15,v16,v17,(d9 xs2 15),(d9 xs2 16),(d9 xs2 17),(d9 xs2 18),(d9 xs2 19),(d9 xs2 20),(d9 vs22 0),(d9 vs22 1),(d9 vs22 2),(d9 vs22 3),(d9 vs22 4),(d9 vs22 5),(d9 vs22 6),(d9 vs22 7),(d9 vs22 8),(d9 xs2 30),(d9 xs2 33),v23,v23])
noncomputable def c1F (cb:Cb) (N:Nat) (call:j4) (a0:Value) (xs2:List Value) (v5:Value) (v6:Value) (vs8:List Value) (v13:Value) (v14:Value) (v15:Value) (v16:Value) (v17:Value):M R2:=
 cb.bj R2 (dr call a5h 126 [0, 32, 33, 34, 4, 36, 37, 35, 38, 39] [a0,(d9 xs2 21),(d9 xs2 22),(d9 xs2 23),(d9 xs2 33),(d9 xs2 25),(d9 xs2 26),(d9 xs2 24),(d9 xs2 27),(d9 xs2 28)] [32, 33, 34, 35, 36, 37, 38, 39, 40]) fun _ vs22=>
 j6 (d9 vs22 8) (
 d6M cb N call xs2 v5 v6 vs8 v13 v14 v15 v16 v17 vs22) (
 d7r cb N call xs2 v5 v6 vs8 v13 v14 v15 v16 v17 vs22)
noncomputable def c6r (cb:Cb) (N:Nat) (call:j4) (xs2:List Value) (a0:Value) (v5:Value) (v6:Value) (vs8:List Value) (v13:Value):M R2:=
 cb.bv R2 (F3 4 (d9 xs2 33) (.int .i64 (.ofNat 0))) fun v14=>
 cb.bv R2 (l9 0 v14) fun v15=>
 cb.bv R2 (j5 v15) fun v16=>
 cb.bv R2 (bn .neq 117 (.tmp 24) (.const (.int .i64 (.ofNat 0))) v16 (.int .i64 (.ofNat 0))) fun v17=>
 j6 v17 (
 cb.bv R2 (F3 4 (d9 xs2 33) (.int .i64 (.ofNat 0))) fun v18=>
 d7E cb N call v18 a0 xs2 v5 v6 vs8 v13 v14 v15 v16 v17) (
 c1F cb N call a0 xs2 v5 v6 vs8 v13 v14 v15 v16 v17)
noncomputable def d7h (cb:Cb) (N:Nat) (call:j4) (xs2:List Value) (v5:Value) (v6:Value) (vs8:List Value) (v13:Value):M R2:=
 M.pure (.exit 0, [(d9 xs2 33),v5,v6,v6,(d9 vs8 0),(d9 vs8 1),(d9 vs8 2),(d9 vs8 3),(d9 vs8 4),v13,(d9 xs2 10),(d9 xs2 11),(d9 xs2 12),(d9 xs2 13),(d9 xs2 14),(d9 xs2 15),(d9 xs2 16),(d9 xs2 17),(d9 xs2 18),(d9 xs2 19),(d9 xs2 20),(d9 xs2 21),(d9 xs2 22),(d9 xs2 23),(d9 xs2 24),(d9 xs2 25),(d9 xs2 26),(d9 xs2 27),(d9 xs2 28),(d9 xs2 29),(d9 xs2 30),(d9 xs2 31),(d9 xs2 32),(d9 xs2 33)])
noncomputable def c5W (cb:Cb) (N:Nat) (call:j4) (v6:Value) (xs2:List Value) (a0:Value) (v5:Value):M R2:=
 cb.bj R2 (l8 (o7 true v6) (cb.bv R2 (F3 4 (d9 xs2 33) (.int .i64 (.ofNat 0))) fun v9=>
 cb.bv R2 (E8 4 v9) fun v10=>
 cb.bc R2 (call 113 [v10,(.string ⟨⟨[116, 104, 101, 110]⟩⟩)]) (fun v11=>
 cb.bv R2 (un .not v11) fun v12=>
 M.pure (.normal, [(d9 xs2 33),v9,v10,v11,v12])) l6) (M.pure (.normal, [undef,undef,undef,undef,undef]))) fun x7 vs8=>l7 x7 (cb.bv R2 (q9 v6 (d9 vs8 4) (.bool false)) fun v13=>
 j6 v13 (
 c6r cb N call xs2 a0 v5 v6 vs8 v13) (
 d7h cb N call xs2 v5 v6 vs8 v13)) (fun _=>M.fail) M.fail l6
noncomputable def c0W (cb:Cb) (N:Nat) (call:j4) (a0:Value) (xs2:List Value):M R2:=
 cb.bv R2 (H6 (d9 xs2 33)) fun v5=>
 cb.bv R2 (bn .gtr 3 (.tmp 12) (.const (.int .i64 (.ofNat 0))) v5 (.int .i64 (.ofNat 0))) fun v6=>
 c5W cb N call v6 xs2 a0 v5
noncomputable def d7l (cb:Cb) (N:Nat) (call:j4) (v0:Value) (a0:Value):M CR:=
 cb.bv CR (l9 1 v0) fun v27=>
 cb.bv CR (j5 v27) fun v28=>
 cb.bc CR (call 72 [a0,v28,(.int .i64 (.ofNat 4))]) (fun v29=>
 M.pure (.ret v29)) l6
noncomputable def d7b (cb:Cb) (N:Nat) (call:j4) (v40:Value) (a0:Value) (vs4:List Value) (v41:Value) (v42:Value) (v43:Value) (v44:Value) (v45:Value) (v46:Value):M R2:=
 cb.bv R2 (F3 4 v40 (.int .i64 (.ofNat 0))) fun v47=>
 cb.bv R2 (l9 1 v47) fun v48=>
 cb.bv R2 (j5 v48) fun v49=>
 cb.bc R2 (call 72 [a0,v49,(.int .i64 (.ofNat 4))]) (fun v50=>
 M.pure (.ret, [(d9 vs4 33),v40,v40,v40,v41,v42,v40,v43,v44,v45,v46,a0,v40,v47,v48,v49,v50,undef,undef,undef,undef,undef,undef,undef,undef,undef,undef,undef,undef,undef,undef,undef,undef,undef,undef,undef,undef,undef,undef,undef,undef,undef,undef,undef,v50])) l6
noncomputable def c8W (cb:Cb) (N:Nat) (call:j4) (vs4:List Value) (v40:Value) (v41:Value) (v42:Value) (v43:Value) (v44:Value) (v45:Value) (v46:Value) (a0:Value) (v51:Value) (v52:Value) (v53:Value) (v54:Value) (v55:Value) (v56:Value) (v57:Value) (v58:Value) (v60:Value) (v61:Value) (v62:Value) (v63:Value) (v64:Value) (v65:Value):M R2:=
 M.pure (.ret, [(d9 vs4 33),v40,v40,v40,v41,v42,v40,v43,v44,v45,v46,undef,undef,undef,undef,undef,undef,a0,a0,v51,v52,v53,v54,v55,v56,v57,v58,a0,v40,v60,v61,v62,v63,v64,v65,undef,undef,undef,undef,undef,undef,undef,undef,undef,(.bool false)])
noncomputable def d0w (cb:Cb) (N:Nat) (call:j4) (v40:Value) (a0:Value) (vs4:List Value) (v41:Value) (v42:Value) (v43:Value) (v44:Value) (v45:Value) (v46:Value) (v51:Value) (v52:Value) (v53:Value) (v54:Value) (v55:Value) (v56:Value) (v57:Value) (v58:Value) (v60:Value) (v61:Value) (v62:Value) (v63:Value) (v64:Value) (v65:Value) (v66:Value) (v67:Value):M R2:=
 cb.bv R2 (F3 4 v40 (.int .i64 (.ofNat 1))) fun v68=>
 cb.bv R2 (l9 1 v68) fun v69=>
 cb.bv R2 (j5 v69) fun v70=>
 cb.bc R2 (call 72 [a0,v70,(.int .i64 (.ofNat 4))]) (fun v71=>
 M.pure (.ret, [(d9 vs4 33),v40,v40,v40,v41,v42,v40,v43,v44,v45,v46,undef,undef,undef,undef,undef,undef,a0,a0,v51,v52,v53,v54,v55,v56,v57,v58,a0,v40,v60,v61,v62,v63,v64,v65,v40,v66,v67,a0,v40,v68,v69,v70,v71,v71])) l6
noncomputable def c7Z (cb:Cb) (N:Nat) (call:j4) (vs4:List Value) (v40:Value) (v41:Value) (v42:Value) (v43:Value) (v44:Value) (v45:Value) (v46:Value) (a0:Value) (v51:Value) (v52:Value) (v53:Value) (v54:Value) (v55:Value) (v56:Value) (v57:Value) (v58:Value) (v60:Value) (v61:Value) (v62:Value) (v63:Value) (v64:Value) (v65:Value) (v66:Value) (v67:Value):M R2:=
 M.pure (.normal, [(d9 vs4 33),v40,v40,v40,v41,v42,v40,v43,v44,v45,v46,undef,undef,undef,undef,undef,undef,a0,a0,v51,v52,v53,v54,v55,v56,v57,v58,a0,v40,v60,v61,v62,v63,v64,v65,v40,v66,v67,undef,undef,undef,undef,undef,undef,(d9 vs4 30)])
noncomputable def b1u (cb:Cb) (N:Nat) (call:j4) (v40:Value) (a0:Value) (vs4:List Value) (v41:Value) (v42:Value) (v43:Value) (v44:Value) (v45:Value) (v46:Value) (v51:Value) (v52:Value) (v53:Value) (v54:Value) (v55:Value) (v56:Value) (v57:Value) (v58:Value) (v60:Value) (v61:Value) (v62:Value) (v63:Value) (v64:Value) (v65:Value):M R2:=
 cb.bv R2 (H6 v40) fun v66=>
 cb.bv R2 (bn .gtr 3 (.tmp 106) (.const (.int .i64 (.ofNat 1))) v66 (.int .i64 (.ofNat 1))) fun v67=>
 j6 v67 (
 d0w cb N call v40 a0 vs4 v41 v42 v43 v44 v45 v46 v51 v52 v53 v54 v55 v56 v57 v58 v60 v61 v62 v63 v64 v65 v66 v67) (
 c7Z cb N call vs4 v40 v41 v42 v43 v44 v45 v46 a0 v51 v52 v53 v54 v55 v56 v57 v58 v60 v61 v62 v63 v64 v65 v66 v67)
noncomputable def b1V (cb:Cb) (N:Nat) (call:j4) (v40:Value) (a0:Value) (vs4:List Value) (v41:Value) (v42:Value) (v43:Value) (v44:Value) (v45:Value) (v46:Value) (v51:Value) (v52:Value) (v53:Value) (v54:Value) (v55:Value) (v56:Value) (v57:Value) (v58:Value):M R2:=
 cb.bv R2 (F3 4 v40 (.int .i64 (.ofNat 0))) fun v60=>
 cb.bv R2 (l9 3 v60) fun v61=>
 cb.bv R2 (j5 v61) fun v62=>
 cb.bv R2 (Q8 4 v62 (some (.int .i64 (.ofNat 1))) none) fun v63=>
 cb.bc R2 (call 76 [a0,v63]) (fun v64=>
 cb.bv R2 (un .not v64) fun v65=>
 j6 v65 (
 c8W cb N call vs4 v40 v41 v42 v43 v44 v45 v46 a0 v51 v52 v53 v54 v55 v56 v57 v58 v60 v61 v62 v63 v64 v65) (
 b1u cb N call v40 a0 vs4 v41 v42 v43 v44 v45 v46 v51 v52 v53 v54 v55 v56 v57 v58 v60 v61 v62 v63 v64 v65)) l6
noncomputable def b2N (cb:Cb) (N:Nat) (call:j4) (v53:Value) (a0:Value) (v40:Value) (vs4:List Value) (v41:Value) (v42:Value) (v43:Value) (v44:Value) (v45:Value) (v46:Value) (v51:Value) (v52:Value):M R2:=
 cb.bv R2 (H7 [(0, 1)] [(.int .i64 (.ofNat 5))] [(.int .i64 (.ofNat 0)),(.int .i64 (.ofNat 0)),(.int .i64 (.ofNat 0)),(.int .u64 (.ofNat 0)),(.int .i64 (.ofNat 0)),(.int .i64 (.ofNat 0)),(.int .i64 (.ofNat 0)),(.slice none 0 0),(.slice none 0 0)]) fun v54=>
 cb.bv R2 (H8 9 1 [(0, 9)] [v54] [(.int .i64 (.ofNat 0)),(.int .i64 (.ofNat 0)),(.int .i64 (.ofNat 0)),(.int .u64 (.ofNat 0)),(.int .i64 (.ofNat 0)),(.int .i64 (.ofNat 0)),(.int .i64 (.ofNat 0)),(.slice none 0 0),(.slice none 0 0)]) fun v55=>
 cb.bv R2 (Q9 a0B v53 v55) fun v56=>
 cb.bv R2 (q8 a0) fun v57=>
 cb.bv R2 (l9 1 v57) fun v58=>
 cb.bv R2 (r9 1 v58 v56) fun v59=>
 b1V cb N call v40 a0 vs4 v41 v42 v43 v44 v45 v46 v51 v52 v53 v54 v55 v56 v57 v58
noncomputable def b3l (cb:Cb) (N:Nat) (call:j4) (a0:Value) (v40:Value) (vs4:List Value) (v41:Value) (v42:Value) (v43:Value) (v44:Value) (v45:Value) (v46:Value):M R2:=
 cb.bv R2 (q8 a0) fun v51=>
 cb.bv R2 (l9 1 v51) fun v52=>
 cb.bv R2 (j5 v52) fun v53=>
 b2N cb N call v53 a0 v40 vs4 v41 v42 v43 v44 v45 v46 v51 v52
noncomputable def b3g (cb:Cb) (N:Nat) (call:j4) (v40:Value) (a0:Value) (vs4:List Value) (v41:Value) (v42:Value):M R2:=
 cb.bv R2 (F3 4 v40 (.int .i64 (.ofNat 0))) fun v43=>
 cb.bv R2 (E8 4 v43) fun v44=>
 cb.bc R2 (call 113 [v44,(.string ⟨⟨[101, 108, 115, 101]⟩⟩)]) (fun v45=>
 cb.bv R2 (un .not v45) fun v46=>
 j6 v46 (
 d7b cb N call v40 a0 vs4 v41 v42 v43 v44 v45 v46) (
 b3l cb N call a0 v40 vs4 v41 v42 v43 v44 v45 v46)) l6
noncomputable def c8a (cb:Cb) (N:Nat) (call:j4) (vs4:List Value) (v40:Value) (v41:Value) (v42:Value):M R2:=
 M.pure (.normal, [(d9 vs4 33),v40,v40,v40,v41,v42,undef,undef,undef,undef,undef,undef,undef,undef,undef,undef,undef,undef,undef,undef,undef,undef,undef,undef,undef,undef,undef,undef,undef,undef,undef,undef,undef,undef,undef,undef,undef,undef,undef,undef,undef,undef,undef,undef,(d9 vs4 30)])
noncomputable def c8O (cb:Cb) (N:Nat) (call:j4) (v75:Value) (a0:Value):M CR:=
 cb.bv CR (H7 [(0, 1)] [(.int .i64 (.ofNat 11))] [(.int .i64 (.ofNat 0)),(.int .i64 (.ofNat 0)),(.int .i64 (.ofNat 0)),(.int .u64 (.ofNat 0)),(.int .i64 (.ofNat 0)),(.int .i64 (.ofNat 0)),(.int .i64 (.ofNat 0)),(.slice none 0 0),(.slice none 0 0)]) fun v76=>
 cb.bv CR (H8 9 1 [(0, 9)] [v76] [(.int .i64 (.ofNat 0)),(.int .i64 (.ofNat 0)),(.int .i64 (.ofNat 0)),(.int .u64 (.ofNat 0)),(.int .i64 (.ofNat 0)),(.int .i64 (.ofNat 0)),(.int .i64 (.ofNat 0)),(.slice none 0 0),(.slice none 0 0)]) fun v77=>
 cb.bv CR (Q9 a0B v75 v77) fun v78=>
 cb.bv CR (q8 a0) fun v79=>
 cb.bv CR (l9 1 v79) fun v80=>
 cb.bv CR (r9 1 v80 v78) fun v81=>
 M.pure (.ret (.bool true))
noncomputable def b8r (cb:Cb) (N:Nat) (call:j4) (vs4:List Value) (a0:Value):M CR:=
 cb.bj CR (cb.bv R2 (Q8 4 (d9 vs4 33) (some (.int .i64 (.ofNat 1))) none) fun v40=>
 cb.bv R2 (H6 v40) fun v41=>
 cb.bv R2 (bn .gtr 3 (.tmp 74) (.const (.int .i64 (.ofNat 0))) v41 (.int .i64 (.ofNat 0))) fun v42=>
 j6 v42 (
 b3g cb N call v40 a0 vs4 v41 v42) (
 c8a cb N call vs4 v40 v41 v42)) fun x38 vs39=>
 l7 x38 (cb.bc CR (call 112 [a0]) (fun v72=>
 cb.bv CR (q8 a0) fun v73=>
 cb.bv CR (l9 1 v73) fun v74=>
 cb.bv CR (j5 v74) fun v75=>
 c8O cb N call v75 a0) l6) (fun _=>M.fail) (M.pure (.ret (d9 vs39 44))) l6
noncomputable def b3z (cb:Cb) (N:Nat) (call:j4) (a0:Value) (v1:Value) (a3:Value) (vs4:List Value):M CR:=
 cb.bj CR (dr call a5v 126 [0, 51, 52, 53, 7, 55, 54, 56, 50, 58, 59, 57] [a0,undef,undef,undef,v1,undef,undef,undef,undef,undef,undef,undef] [50, 51, 52, 53, 54, 55, 56, 57, 58, 59]) fun _ vs30=>
 cb.bc CR (call 111 [a0,a3]) (fun v31=>
 cb.bv CR (F3 4 (d9 vs4 33) (.int .i64 (.ofNat 0))) fun v32=>
 cb.bv CR (l9 3 v32) fun v33=>
 cb.bv CR (j5 v33) fun v34=>
 cb.bv CR (Q8 4 v34 (some (.int .i64 (.ofNat 1))) none) fun v35=>
 cb.bc CR (call 76 [a0,v35]) (fun v36=>
 cb.bv CR (un .not v36) fun v37=>
 j6 v37 (
 M.pure (.ret (.bool false))) (
 b8r cb N call vs4 a0)) l6) l6
noncomputable def b4C (cb:Cb) (N:Nat) (call:j4) (a0:Value) (a4:Value) (v0:Value) (v1:Value) (a3:Value):M CR:=
 cb.bj CR (cb.lp (c0W cb N call a0) N [undef,undef,undef,undef,undef,undef,undef,undef,undef,undef,undef,undef,undef,undef,undef,undef,undef,undef,undef,undef,undef,undef,undef,undef,undef,undef,undef,undef,undef,undef,(.bool false),undef,undef,a4]) fun x3 vs4=>
 l7 x3 (M.fail) (fun i24=>l8 (Nat.beq i24 0) (cb.bv CR (H6 (d9 vs4 33)) fun v25=>
 cb.bv CR (bn .eql 3 (.tmp 44) (.const (.int .i64 (.ofNat 0))) v25 (.int .i64 (.ofNat 0))) fun v26=>
 j6 v26 (
 d7l cb N call v0 a0) (
 b3z cb N call a0 v1 a3 vs4)) (M.fail)) (M.pure (.ret (d9 vs4 30))) l6
noncomputable def d4h (cb:Cb) (N:Nat) (call:j4) (a0:Value) (a1:Value) (a2:Value) (a3:Value) (a4:Value):M CR:=
 cb.bv CR (U7 a1) fun v0=>
 cb.bv CR (U7 a2) fun v1=>
 b4C cb N call a0 a4 v0 v1 a3
theorem d9d (cb:Cb) (N:Nat) (call:j4) (a0:Value) (a1:Value) (a2:Value) (a3:Value) (a4:Value):D5 Tryz.prog A9 cb false N call Tryz.f75 c75 e9c [a0,a1,a2,a3,a4]=d4h cb N call a0 a1 a2 a3 a4:=by kernel_rfl
noncomputable def c76:Code:=D6 Tryz.f76
noncomputable def e9S:Pl:=(.s none .d (.s none .d (.s none (.s none .d (.s none (.l [15, 16, 17, 18, 19, 20, 21, 22, 7, 24, 25, 26, 23, 27, 28, 29, 30, 31, 32, 33, 34, 35, 37, 38, 39, 36, 40, 41, 42, 43, 45, 46, 47, 48, 49, 50, 51, 52, 44, 53, 54, 55, 8, 56, 57, 58, 59, 60, 61, 62, 63, 64, 65, 66, 67, 68, 69, 70, 71, 72, 73, 74, 75, 76, 77, 78, 79, 80, 81, 82, 9, 83, 84, 85, 86, 87, 88, 89, 90, 91, 92, 93, 94, 95, 96, 97, 98, 99, 100, 101, 102, 103, 104, 105, 106, 107, 109, 110, 111, 112, 108, 113, 114, 115, 116, 10, 11, 12, 13, 117, 118, 4, 119, 120, 121, 122, 123, 124, 125, 126, 127, 128, 129, 130, 131, 132, 133, 134, 135, 136, 137, 138, 139, 140, 141, 142, 143, 144, 145, 146, 147, 148, 149, 5, 150, 151, 152, 153, 6] (.s none .d (.s none (.s none .d (.s none (.s none (.s none .d (.s none .d (.s none .d (.s none .d (.s none .d (.s none (.s none .d (.s none .d (.s none .d (.s none .d (.s (some [87, 88, 89, 90, 91, 92, 93, 5, 94, 95]) .d .d))))) .d)))))) .d) .d)) .d))) .d)) .d)))
noncomputable def a5J:List Oper:=J7 c76 6
noncomputable def a3o:List Oper:=J7 c76 21
noncomputable def a3H:List Oper:=J7 c76 26
noncomputable def c2r (call:j4) (u0:Value) (u1:Value) (u2:Value) (u3:Value) (u4:Value) (u5:Value) (u6:Value) (u7:Value):M R2:=
 M.bind (M.foot (M.pure u0)) fun y0=>
 M.bind (M.foot (q8 y0.1)) fun y1=>
 M.bind (M.foot (l9 5 y1.1)) fun y2=>
 M.bind (M.foot (j5 y2.1)) fun y3=>
 M.bind (M.foot (E8 4 u4)) fun y4=>
 M.bind (M.foot (a1C y3.1 [y4.1] (D7 call))) fun y5=>
 M.bind (M.foot (un .not y5.1)) fun y6=>
 M.guard (E9 a5J (H9 a5J [y0.2,y1.2,y2.2,y3.2,y4.2,y5.2,y6.2]) [] [] 0) (M.pure (.normal, [y0.1,y1.1,y2.1,y3.1,y4.1,y5.1,y6.1]))
theorem d4l (call:j4) (u0:Value) (u1:Value) (u2:Value) (u3:Value) (u4:Value) (u5:Value) (u6:Value) (u7:Value):dr call a5J 166 [0, 27, 28, 29, 7, 30, 31, 32] [u0,u1,u2,u3,u4,u5,u6,u7] [27, 28, 29, 30, 31, 32, 33]=c2r call u0 u1 u2 u3 u4 u5 u6 u7:=(F6 _ _ _ _ _ _ _ _).trans (by kernel_rfl)
noncomputable def b2O (call:j4) (u0:Value) (u1:Value) (u2:Value) (u3:Value) (u4:Value) (u5:Value) (u6:Value) (u7:Value) (u8:Value) (u9:Value) (u10:Value) (u11:Value):M R2:=
 M.bind (M.foot (M.pure u0)) fun y0=>
 M.bind (M.foot (M.pure u0)) fun y1=>
 M.bind (M.foot (q8 y1.1)) fun y2=>
 M.bind (M.foot (l9 1 y2.1)) fun y3=>
 M.bind (M.foot (j5 y3.1)) fun y4=>
 M.bind (M.foot (E8 9 u4)) fun y5=>
 M.bind (M.foot (H8 9 1 [(0, 9)] [y5.1] [(.int .i64 (.ofNat 0)),(.int .i64 (.ofNat 0)),(.int .i64 (.ofNat 0)),(.int .u64 (.ofNat 0)),(.int .i64 (.ofNat 0)),(.int .i64 (.ofNat 0)),(.int .i64 (.ofNat 0)),(.slice none 0 0),(.slice none 0 0)])) fun y6=>
 M.bind (M.foot (Q9 a0B y4.1 y6.1)) fun y7=>
 M.bind (M.foot (q8 y0.1)) fun y8=>
 M.bind (M.foot (l9 1 y8.1)) fun y9=>
 M.bind (M.foot (r9 1 y9.1 y7.1)) fun y10=>
 M.guard (E9 a3o (H9 a3o [y0.2,y1.2,y2.2,y3.2,y4.2,y5.2,y6.2,y7.2,y8.2,y9.2,y10.2]) [] [] 0) (M.pure (.normal, [y0.1,y1.1,y2.1,y3.1,y4.1,y5.1,y6.1,y7.1,y8.1,y9.1]))
theorem c8i (call:j4) (u0:Value) (u1:Value) (u2:Value) (u3:Value) (u4:Value) (u5:Value) (u6:Value) (u7:Value) (u8:Value) (u9:Value) (u10:Value) (u11:Value):dr call a3o 166 [0, 97, 98, 99, 9, 101, 100, 102, 96, 104, 105, 103] [u0,u1,u2,u3,u4,u5,u6,u7,u8,u9,u10,u11] [96, 97, 98, 99, 100, 101, 102, 103, 104, 105]=b2O call u0 u1 u2 u3 u4 u5 u6 u7 u8 u9 u10 u11:=(F6 _ _ _ _ _ _ _ _).trans (by kernel_rfl)
noncomputable def b1A (call:j4) (u0:Value) (u1:Value) (u2:Value) (u3:Value) (u4:Value) (u5:Value) (u6:Value) (u7:Value) (u8:Value) (u9:Value) (u10:Value) (u11:Value):M R2:=
 M.bind (M.foot (M.pure u0)) fun y0=>
 M.bind (M.foot (M.pure u0)) fun y1=>
 M.bind (M.foot (q8 y1.1)) fun y2=>
 M.bind (M.foot (l9 1 y2.1)) fun y3=>
 M.bind (M.foot (j5 y3.1)) fun y4=>
 M.bind (M.foot (E8 9 u4)) fun y5=>
 M.bind (M.foot (H8 9 1 [(0, 9)] [y5.1] [(.int .i64 (.ofNat 0)),(.int .i64 (.ofNat 0)),(.int .i64 (.ofNat 0)),(.int .u64 (.ofNat 0)),(.int .i64 (.ofNat 0)),(.int .i64 (.ofNat 0)),(.int .i64 (.ofNat 0)),(.slice none 0 0),(.slice none 0 0)])) fun y6=>
 M.bind (M.foot (Q9 a0B y4.1 y6.1)) fun y7=>
 M.bind (M.foot (q8 y0.1)) fun y8=>
 M.bind (M.foot (l9 1 y8.1)) fun y9=>
 M.bind (M.foot (r9 1 y9.1 y7.1)) fun y10=>
 M.guard (E9 a3H (H9 a3H [y0.2,y1.2,y2.2,y3.2,y4.2,y5.2,y6.2,y7.2,y8.2,y9.2,y10.2]) [] [] 0) (M.pure (.normal, [y0.1,y1.1,y2.1,y3.1,y4.1,y5.1,y6.1,y7.1,y8.1,y9.1]))
theorem c9Y (call:j4) (u0:Value) (u1:Value) (u2:Value) (u3:Value) (u4:Value) (u5:Value) (u6:Value) (u7:Value) (u8:Value) (u9:Value) (u10:Value) (u11:Value):dr call a3H 166 [0, 120, 121, 122, 10, 124, 123, 125, 119, 127, 128, 126] [u0,u1,u2,u3,u4,u5,u6,u7,u8,u9,u10,u11] [119, 120, 121, 122, 123, 124, 125, 126, 127, 128]=b1A call u0 u1 u2 u3 u4 u5 u6 u7 u8 u9 u10 u11:=(F6 _ _ _ _ _ _ _ _).trans (by kernel_rfl)
noncomputable def d7n (cb:Cb) (N:Nat) (call:j4) (xs0:List Value) (a1:Value) (v3:Value) (v4:Value) (v5:Value) (v6:Value) (v7:Value) (v9:Value) (v10:Value) (v11:Value) (vs12:List Value):M R2:=
 M.pure (.ret, [(d9 xs0 148),a1,v3,v4,a1,(d9 xs0 148),v5,v6,v7,v9,v10,v11,v11,(d9 vs12 0),(d9 vs12 1),(d9 vs12 2),(d9 vs12 3),(d9 vs12 4),(d9 vs12 5),(d9 vs12 6),(d9 xs0 20),(d9 xs0 21),(d9 xs0 22),(d9 xs0 23),(d9 xs0 24),(d9 xs0 25),(d9 xs0 26),(d9 xs0 27),(d9 xs0 28),(d9 xs0 29),(d9 xs0 30),(d9 xs0 31),(d9 xs0 32),(d9 xs0 33),(d9 xs0 34),(d9 xs0 35),(d9 xs0 36),(d9 xs0 37),(d9 xs0 38),(d9 xs0 39),(d9 xs0 40),(d9 xs0 41),(d9 xs0 42),(d9 xs0 43),(d9 xs0 44),(d9 xs0 45),(d9 xs0 46),(d9 xs0 47),(d9 xs0 48),(d9 xs0 49),(d9 xs0 50),(d9 xs0 51),(d9 xs0 52),(d9 xs0 53),(d9 xs0 54),(d9 xs0 55),(d9 xs0 56),(d9 xs0 57),(d9 xs0 58),(d9 xs0 59),(d9 xs0 60),(d9 xs0 61),(d9 xs0 62),(d9 xs0 63),(d9 xs0 64),(d9 xs0 65),(d9 xs0 66),(d9 xs0 67),(d9 xs0 68),(d9 xs0 69),(d9 xs0 70),(d9 xs0 71),(d9 xs0 72),(d9 xs0 73),(d9 xs0 74),(d9 xs0 75),(d9 xs0 76),(d9 xs0 77),(d9 xs0 78),(d9 xs0 79),(d9 xs0 80),(d9 xs0 81),(d9 xs0 82),(d9 xs0 83),(d9 xs0 84),(d9 xs0 85),(d9 xs0 86),(d9 xs0 87),(d9 xs0 88),(d9 xs0 89),(d9 xs0 90),(d9 xs0 91),(d9 xs0 92),(d9 xs0 93),(d9 xs0 94),(d9 xs0 95),(d9 xs0 96),(d9 xs0 97),(d9 xs0 98),(d9 xs0 99),(d9 xs0 100),(d9 xs0 101),(d9 xs0 102),(d9 xs0 103),(d9 xs0 104),(d9 xs0 105),(d9 xs0 106),(d9 xs0 107),(d9 xs0 108),(d9 xs0 109),(d9 xs0 110),(.bool false),(d9 xs0 112),(d9 xs0 113),(d9 xs0 114),(d9 xs0 115),(d9 xs0 116),(d9 xs0 117),(d9 xs0 118),(d9 xs0 119),(d9 xs0 120),(d9 xs0 121),(d9 xs0 122),(d9 xs0 123),(d9 xs0 124),(d9 xs0 125),(d9 xs0 126),(d9 xs0 127),(d9 xs0 128),(d9 xs0 129),(d9 xs0 130),(d9 xs0 131),(d9 xs0 132),(d9 xs0 133),(d9 xs0 134),(d9 xs0 135),(d9 xs0 136),(d9 xs0 137),(d9 xs0 138),(d9 xs0 139),(d9 xs0 140),(d9 xs0 141),(d9 xs0 142),(d9 xs0 143),(d9 xs0 144),(d9 xs0 145),(d9 xs0 146),(d9 xs0 147),(d9 xs0 148)])
noncomputable def d7d (cb:Cb) (N:Nat) (call:j4) (xs0:List Value) (a1:Value) (v3:Value) (v4:Value) (v5:Value) (v6:Value) (v7:Value) (v9:Value) (v10:Value) (v11:Value) (vs12:List Value) (v13:Value):M R2:=
 M.pure (.normal, [(d9 xs0 148),a1,v3,v4,a1,(d9 xs0 148),v5,v6,v7,v9,v10,v11,v11,(d9 vs12 0),(d9 vs12 1),(d9 vs12 2),(d9 vs12 3),(d9 vs12 4),(d9 vs12 5),(d9 vs12 6),(d9 xs0 148),v13,(d9 xs0 22),(d9 xs0 23),(d9 xs0 24),(d9 xs0 25),(d9 xs0 26),(d9 xs0 27),(d9 xs0 28),(d9 xs0 29),(d9 xs0 30),(d9 xs0 31),(d9 xs0 32),(d9 xs0 33),(d9 xs0 34),(d9 xs0 35),(d9 xs0 36),(d9 xs0 37),(d9 xs0 38),(d9 xs0 39),(d9 xs0 40),(d9 xs0 41),(d9 xs0 42),(d9 xs0 43),(d9 xs0 44),(d9 xs0 45),(d9 xs0 46),(d9 xs0 47),(d9 xs0 48),(d9 xs0 49),(d9 xs0 50),(d9 xs0 51),(d9 xs0 52),(d9 xs0 53),(d9 xs0 54),(d9 xs0 55),(d9 xs0 56),(d9 xs0 57),(d9 xs0 58),(d9 xs0 59),(d9 xs0 60),(d9 xs0 61),(d9 xs0 62),(d9 xs0 63),(d9 xs0 64),(d9 xs0 65),(d9 xs0 66),(d9 xs0 67),(d9 xs0 68),(d9 xs0 69),(d9 xs0 70),(d9 xs0 71),(d9 xs0 72),(d9 xs0 73),(d9 xs0 74),(d9 xs0 75),(d9 xs0 76),(d9 xs0 77),(d9 xs0 78),(d9 xs0 79),(d9 xs0 80),(d9 xs0 81),(d9 xs0 82),(d9 xs0 83),(d9 xs0 84),(d9 xs0 85),(d9 xs0 86),(d9 xs0 87),(d9 xs0 88),(d9 xs0 89),(d9 xs0 90),(d9 xs0 91),(d9 xs0 92),(d9 xs0 93),(d9 xs0 94),(d9 xs0 95),(d9 xs0 96),(d9 xs0 97),(d9 xs0 98),(d9 xs0 99),(d9 xs0 100),(d9 xs0 101),(d9 xs0 102),(d9 xs0 103),(d9 xs0 104),(d9 xs0 105),(d9 xs0 106),(d9 xs0 107),(d9 xs0 108),(d9 xs0 109),(d9 xs0 110),(d9 xs0 111),(d9 xs0 112),(d9 xs0 113),(d9 xs0 114),(d9 xs0 115),(d9 xs0 116),(d9 xs0 117),(d9 xs0 118),(d9 xs0 119),(d9 xs0 120),(d9 xs0 121),(d9 xs0 122),(d9 xs0 123),(d9 xs0 124),(d9 xs0 125),(d9 xs0 126),(d9 xs0 127),(d9 xs0 128),(d9 xs0 129),(d9 xs0 130),(d9 xs0 131),(d9 xs0 132),(d9 xs0 133),(d9 xs0 134),(d9 xs0 135),(d9 xs0 136),(d9 xs0 137),(d9 xs0 138),(d9 xs0 139),(d9 xs0 140),(d9 xs0 141),(d9 xs0 142),(d9 xs0 143),(d9 xs0 144),(d9 xs0 145),(d9 xs0 146),(d9 xs0 147),v13])
noncomputable def c2F (cb:Cb) (N:Nat) (call:j4) (xs0:List Value) (a1:Value) (v3:Value) (v4:Value) (v5:Value) (v6:Value) (v7:Value) (v9:Value) (v10:Value) (v11:Value) (vs12:List Value):M R2:=
 cb.bv R2 (bn .add 3 (.tmp 34) (.const (.int .i64 (.ofNat 1))) (d9 xs0 148) (.int .i64 (.ofNat 1))) fun v13=>
 d7d cb N call xs0 a1 v3 v4 v5 v6 v7 v9 v10 v11 vs12 v13
noncomputable def c5y (cb:Cb) (N:Nat) (call:j4) (a0:Value) (xs0:List Value) (v7:Value) (a1:Value) (v3:Value) (v4:Value) (v5:Value) (v6:Value) (v9:Value) (v10:Value) (v11:Value):M R2:=
 cb.bj R2 (dr call a5J 166 [0, 27, 28, 29, 7, 30, 31, 32] [a0,(d9 xs0 13),(d9 xs0 14),(d9 xs0 15),v7,(d9 xs0 16),(d9 xs0 17),(d9 xs0 18)] [27, 28, 29, 30, 31, 32, 33]) fun _ vs12=>
 j6 (d9 vs12 6) (
 d7n cb N call xs0 a1 v3 v4 v5 v6 v7 v9 v10 v11 vs12) (
 c2F cb N call xs0 a1 v3 v4 v5 v6 v7 v9 v10 v11 vs12)
noncomputable def e6P (cb:Cb) (N:Nat) (call:j4) (xs0:List Value) (a1:Value) (v3:Value) (v4:Value) (v5:Value) (v6:Value) (v7:Value) (v9:Value) (v10:Value) (v11:Value) (v14:Value) (v15:Value) (v16:Value) (a0:Value) (v17:Value) (v18:Value) (v19:Value):M R2:=
 M.pure (.ret, [(d9 xs0 148),a1,v3,v4,a1,(d9 xs0 148),v5,v6,v7,v9,v10,v11,v11,(d9 xs0 13),(d9 xs0 14),(d9 xs0 15),(d9 xs0 16),(d9 xs0 17),(d9 xs0 18),(d9 xs0 19),(d9 xs0 20),(d9 xs0 21),v14,v15,v16,v16,a0,v17,v18,v19,(d9 xs0 30),(d9 xs0 31),(d9 xs0 32),(d9 xs0 33),(d9 xs0 34),(d9 xs0 35),(d9 xs0 36),(d9 xs0 37),(d9 xs0 38),(d9 xs0 39),(d9 xs0 40),(d9 xs0 41),(d9 xs0 42),(d9 xs0 43),(d9 xs0 44),(d9 xs0 45),(d9 xs0 46),(d9 xs0 47),(d9 xs0 48),(d9 xs0 49),(d9 xs0 50),(d9 xs0 51),(d9 xs0 52),(d9 xs0 53),(d9 xs0 54),(d9 xs0 55),(d9 xs0 56),(d9 xs0 57),(d9 xs0 58),(d9 xs0 59),(d9 xs0 60),(d9 xs0 61),(d9 xs0 62),(d9 xs0 63),(d9 xs0 64),(d9 xs0 65),(d9 xs0 66),(d9 xs0 67),(d9 xs0 68),(d9 xs0 69),(d9 xs0 70),(d9 xs0 71),(d9 xs0 72),(d9 xs0 73),(d9 xs0 74),(d9 xs0 75),(d9 xs0 76),(d9 xs0 77),(d9 xs0 78),(d9 xs0 79),(d9 xs0 80),(d9 xs0 81),(d9 xs0 82),(d9 xs0 83),(d9 xs0 84),(d9 xs0 85),(d9 xs0 86),(d9 xs0 87),(d9 xs0 88),(d9 xs0 89),(d9 xs0 90),(d9 xs0 91),(d9 xs0 92),(d9 xs0 93),(d9 xs0 94),(d9 xs0 95),(d9 xs0 96),(d9 xs0 97),(d9 xs0 98),(d9 xs0 99),(d9 xs0 100),(d9 xs0 101),(d9 xs0 102),(d9 xs0 103),(d9 xs0 104),(d9 xs0 105),(d9 xs0 106),(d9 xs0 107),(d9 xs0 108),(d9 xs0 109),(d9 xs0 110),v19,(d9 xs0 112),(d9 xs0 113),(d9 xs0 114),(d9 xs0 115),(d9 xs0 116),(d9 xs0 117),(d9 xs0 118),(d9 xs0 119),(d9 xs0 120),(d9 xs0 121),(d9 xs0 122),(d9 xs0 123),(d9 xs0 124),(d9 xs0 125),(d9 xs0 126),(d9 xs0 127),(d9 xs0 128),(d9 xs0 129),(d9 xs0 130),(d9 xs0 131),(d9 xs0 132),(d9 xs0 133),(d9 xs0 134),(d9 xs0 135),(d9 xs0 136),(d9 xs0 137),(d9 xs0 138),(d9 xs0 139),(d9 xs0 140),(d9 xs0 141),(d9 xs0 142),(d9 xs0 143),(d9 xs0 144),(d9 xs0 145),(d9 xs0 146),(d9 xs0 147),(d9 xs0 148)])
noncomputable def d7a (cb:Cb) (N:Nat) (call:j4) (v7:Value) (a0:Value) (xs0:List Value) (a1:Value) (v3:Value) (v4:Value) (v5:Value) (v6:Value) (v9:Value) (v10:Value) (v11:Value) (v14:Value) (v15:Value) (v16:Value):M R2:=
 cb.bv R2 (l9 1 v7) fun v17=>
 cb.bv R2 (j5 v17) fun v18=>
 cb.bc R2 (call 72 [a0,v18,(.int .i64 (.ofNat 4))]) (fun v19=>
 e6P cb N call xs0 a1 v3 v4 v5 v6 v7 v9 v10 v11 v14 v15 v16 a0 v17 v18 v19) l6
noncomputable def e5e (cb:Cb) (N:Nat) (call:j4) (xs0:List Value) (a1:Value) (v3:Value) (v4:Value) (v5:Value) (v6:Value) (v7:Value) (v9:Value) (v10:Value) (v11:Value) (v14:Value) (v15:Value) (v16:Value) (v20:Value) (v21:Value) (v22:Value) (vs24:List Value) (v28:Value) (v29:Value) (v30:Value) (v31:Value) (vs33:List Value) (vs38:List Value) (vs44:List Value) (vs49:List Value) (vs52:List Value) (v54:Value) (a0:Value) (v55:Value) (v56:Value) (v57:Value):M R2:=
 M.pure (.ret, [(d9 xs0 148),a1,v3,v4,a1,(d9 xs0 148),v5,v6,v7,v9,v10,v11,v11,(d9 xs0 13),(d9 xs0 14),(d9 xs0 15),(d9 xs0 16),(d9 xs0 17),(d9 xs0 18),(d9 xs0 19),(d9 xs0 20),(d9 xs0 21),v14,v15,v16,v16,(d9 xs0 26),(d9 xs0 27),(d9 xs0 28),(d9 xs0 29),v20,v21,v22,v22,(d9 vs24 0),(d9 vs24 1),(d9 vs24 2),v28,v28,(d9 xs0 143),v29,v30,v30,v30,v31,v31,(d9 vs33 0),(d9 vs33 1),(d9 vs33 2),(d9 vs33 3),(d9 vs38 0),(d9 vs38 1),(d9 vs38 2),(d9 vs38 3),(d9 vs38 4),(d9 vs38 5),(d9 vs38 6),(d9 vs44 0),(d9 vs44 1),(d9 vs44 2),(d9 vs44 3),(d9 vs44 4),(d9 vs49 0),(d9 vs52 0),v54,a0,v55,v56,v57,(d9 xs0 69),(d9 xs0 70),(d9 xs0 71),(d9 xs0 72),(d9 xs0 73),(d9 xs0 74),(d9 xs0 75),(d9 xs0 76),(d9 xs0 77),(d9 xs0 78),(d9 xs0 79),(d9 xs0 80),(d9 xs0 81),(d9 xs0 82),(d9 xs0 83),(d9 xs0 84),(d9 xs0 85),(d9 xs0 86),(d9 xs0 87),(d9 xs0 88),(d9 xs0 89),(d9 xs0 90),(d9 xs0 91),(d9 xs0 92),(d9 xs0 93),(d9 xs0 94),(d9 xs0 95),(d9 xs0 96),(d9 xs0 97),(d9 xs0 98),(d9 xs0 99),(d9 xs0 100),(d9 xs0 101),(d9 xs0 102),(d9 xs0 103),(d9 xs0 104),(d9 xs0 105),(d9 xs0 106),(d9 xs0 107),(d9 xs0 108),(d9 xs0 109),(d9 xs0 110),v57,(d9 xs0 112),(d9 xs0 113),(d9 xs0 114),(d9 xs0 115),(d9 xs0 116),(d9 xs0 117),(d9 xs0 118),(d9 xs0 119),(d9 xs0 120),(d9 xs0 121),(d9 xs0 122),(d9 xs0 123),(d9 xs0 124),(d9 xs0 125),(d9 xs0 126),(d9 xs0 127),(d9 xs0 128),(d9 xs0 129),(d9 xs0 130),(d9 xs0 131),(d9 xs0 132),(d9 xs0 133),(d9 xs0 134),(d9 xs0 135),(d9 xs0 136),(d9 xs0 137),(d9 xs0 138),(d9 xs0 139),(d9 xs0 140),(d9 xs0 141),(d9 xs0 142),(d9 xs0 143),(d9 xs0 144),(d9 xs0 145),(d9 xs0 146),(d9 xs0 147),(d9 xs0 148)])
noncomputable def d7c (cb:Cb) (N:Nat) (call:j4) (v7:Value) (a0:Value) (xs0:List Value) (a1:Value) (v3:Value) (v4:Value) (v5:Value) (v6:Value) (v9:Value) (v10:Value) (v11:Value) (v14:Value) (v15:Value) (v16:Value) (v20:Value) (v21:Value) (v22:Value) (vs24:List Value) (v28:Value) (v29:Value) (v30:Value) (v31:Value) (vs33:List Value) (vs38:List Value) (vs44:List Value) (vs49:List Value) (vs52:List Value) (v54:Value):M R2:=
 cb.bv R2 (l9 1 v7) fun v55=>
 cb.bv R2 (j5 v55) fun v56=>
 cb.bc R2 (call 72 [a0,v56,(.int .i64 (.ofNat 16))]) (fun v57=>
 e5e cb N call xs0 a1 v3 v4 v5 v6 v7 v9 v10 v11 v14 v15 v16 v20 v21 v22 vs24 v28 v29 v30 v31 vs33 vs38 vs44 vs49 vs52 v54 a0 v55 v56 v57) l6
noncomputable def d7x (cb:Cb) (N:Nat) (call:j4) (v59:Value) (xs0:List Value) (v30:Value) (a0:Value) (v66:Value) (v67:Value) (v68:Value):M R2:=
 cb.bv R2 (l9 0 v59) fun v69=>
 cb.bv R2 (r9 1 v69 (.int .i64 (.ofNat 11))) fun v70=>
 cb.bv R2 (Q8 3 (d9 xs0 143) none (some v30)) fun v71=>
 cb.bc R2 (call 112 [a0]) (fun v72=>
 M.pure (.normal, [v66,v67,v68,v69,(d9 xs0 143),v30,v71,v71,a0,v72])) l6
noncomputable def d7z (cb:Cb) (N:Nat) (call:j4) (xs0:List Value) (a1:Value) (v3:Value) (v4:Value) (v5:Value) (v6:Value) (v7:Value) (v9:Value) (v10:Value) (v11:Value) (v14:Value) (v15:Value) (v16:Value) (v20:Value) (v21:Value) (v22:Value) (vs24:List Value) (v28:Value) (v29:Value) (v30:Value) (v31:Value) (vs33:List Value) (vs38:List Value) (vs44:List Value) (vs49:List Value) (vs52:List Value) (v54:Value) (v58:Value) (v59:Value) (v61:Value) (v62:Value) (vs65:List Value) (vs73:List Value) (v74:Value):M R2:=
 M.pure (.normal, [(d9 xs0 148),a1,v3,v4,a1,(d9 xs0 148),v5,v6,v7,v9,v10,v11,v11,(d9 xs0 13),(d9 xs0 14),(d9 xs0 15),(d9 xs0 16),(d9 xs0 17),(d9 xs0 18),(d9 xs0 19),(d9 xs0 20),(d9 xs0 21),v14,v15,v16,v16,(d9 xs0 26),(d9 xs0 27),(d9 xs0 28),(d9 xs0 29),v20,v21,v22,v22,(d9 vs24 0),(d9 vs24 1),(d9 vs24 2),v28,v28,(d9 xs0 143),v29,v30,v30,v30,v31,v31,(d9 vs33 0),(d9 vs33 1),(d9 vs33 2),(d9 vs33 3),(d9 vs38 0),(d9 vs38 1),(d9 vs38 2),(d9 vs38 3),(d9 vs38 4),(d9 vs38 5),(d9 vs38 6),(d9 vs44 0),(d9 vs44 1),(d9 vs44 2),(d9 vs44 3),(d9 vs44 4),(d9 vs49 0),(d9 vs52 0),v54,(d9 xs0 65),(d9 xs0 66),(d9 xs0 67),(d9 xs0 68),v58,v59,(d9 xs0 143),v30,v61,v62,(d9 vs65 0),(d9 vs65 1),(d9 vs65 2),(d9 vs65 3),(d9 vs65 4),(d9 vs65 5),(d9 vs65 6),(d9 vs65 8),(d9 vs65 9),(d9 vs73 0),(d9 vs73 1),(d9 vs73 2),(d9 vs73 3),(d9 vs73 4),(d9 vs73 5),(d9 vs73 6),(d9 vs73 7),(d9 vs73 8),(d9 vs73 9),(d9 xs0 148),v74,(d9 xs0 96),(d9 xs0 97),(d9 xs0 98),(d9 xs0 99),(d9 xs0 100),(d9 xs0 101),(d9 xs0 102),(d9 xs0 103),(d9 xs0 104),(d9 xs0 105),(d9 xs0 106),(d9 xs0 107),(d9 xs0 108),(d9 xs0 109),(d9 xs0 110),(d9 xs0 111),(d9 xs0 112),(d9 xs0 113),(d9 xs0 114),(d9 xs0 115),(d9 xs0 116),(d9 xs0 117),(d9 xs0 118),(d9 xs0 119),(d9 xs0 120),(d9 xs0 121),(d9 xs0 122),(d9 xs0 123),(d9 xs0 124),(d9 xs0 125),(d9 xs0 126),(d9 xs0 127),(d9 xs0 128),(d9 xs0 129),(d9 xs0 130),(d9 xs0 131),(d9 xs0 132),(d9 xs0 133),(d9 xs0 134),(d9 xs0 135),(d9 xs0 136),(d9 xs0 137),(d9 xs0 138),(d9 xs0 139),(d9 xs0 140),(d9 xs0 141),(d9 xs0 142),(d9 vs65 7),(d9 xs0 144),(d9 xs0 145),(d9 xs0 146),(d9 xs0 147),v74])
noncomputable def b5e (cb:Cb) (N:Nat) (call:j4) (a0:Value) (xs0:List Value) (v59:Value) (a1:Value) (v3:Value) (v4:Value) (v5:Value) (v6:Value) (v7:Value) (v9:Value) (v10:Value) (v11:Value) (v14:Value) (v15:Value) (v16:Value) (v20:Value) (v21:Value) (v22:Value) (vs24:List Value) (v28:Value) (v29:Value) (v30:Value) (v31:Value) (vs33:List Value) (vs38:List Value) (vs44:List Value) (vs49:List Value) (vs52:List Value) (v54:Value) (v58:Value) (v61:Value) (v62:Value) (vs65:List Value):M R2:=
 cb.bj R2 (dr call a3o 166 [0, 97, 98, 99, 9, 101, 100, 102, 96, 104, 105, 103] [a0,(d9 xs0 85),(d9 xs0 86),(d9 xs0 87),v59,(d9 xs0 89),(d9 xs0 88),(d9 xs0 90),(d9 xs0 84),(d9 xs0 92),(d9 xs0 93),(d9 xs0 91)] [96, 97, 98, 99, 100, 101, 102, 103, 104, 105]) fun _ vs73=>
 cb.bv R2 (bn .add 3 (.tmp 106) (.const (.int .i64 (.ofNat 1))) (d9 xs0 148) (.int .i64 (.ofNat 1))) fun v74=>
 d7z cb N call xs0 a1 v3 v4 v5 v6 v7 v9 v10 v11 v14 v15 v16 v20 v21 v22 vs24 v28 v29 v30 v31 vs33 vs38 vs44 vs49 vs52 v54 v58 v59 v61 v62 vs65 vs73 v74
noncomputable def b5L (cb:Cb) (N:Nat) (call:j4) (v7:Value) (v59:Value) (xs0:List Value) (v30:Value) (a0:Value) (a1:Value) (v3:Value) (v4:Value) (v5:Value) (v6:Value) (v9:Value) (v10:Value) (v11:Value) (v14:Value) (v15:Value) (v16:Value) (v20:Value) (v21:Value) (v22:Value) (vs24:List Value) (v28:Value) (v29:Value) (v31:Value) (vs33:List Value) (vs38:List Value) (vs44:List Value) (vs49:List Value) (vs52:List Value) (v54:Value) (v58:Value) (v61:Value) (v62:Value):M R2:=
 cb.bj R2 (cb.bv R2 (l9 2 v7) fun v66=>
 cb.bv R2 (j5 v66) fun v67=>
 cb.bv R2 (bn .eql 9 (.tmp 88) (.const (.string ⟨⟨[101, 110, 100]⟩⟩)) v67 (.string ⟨⟨[101, 110, 100]⟩⟩)) fun v68=>
 j6 v68 (
 d7x cb N call v59 xs0 v30 a0 v66 v67 v68) (
 M.pure (.normal, [v66,v67,v68,(d9 xs0 78),(d9 xs0 79),(d9 xs0 80),(d9 xs0 81),(d9 xs0 143),(d9 xs0 82),(d9 xs0 83)]))) fun x64 vs65=>
 l7 x64 (b5e cb N call a0 xs0 v59 a1 v3 v4 v5 v6 v7 v9 v10 v11 v14 v15 v16 v20 v21 v22 vs24 v28 v29 v30 v31 vs33 vs38 vs44 vs49 vs52 v54 v58 v61 v62 vs65) (fun _=>M.fail) (M.fail) l6
noncomputable def b2p (cb:Cb) (N:Nat) (call:j4) (v58:Value) (xs0:List Value) (v30:Value) (v7:Value) (a0:Value) (a1:Value) (v3:Value) (v4:Value) (v5:Value) (v6:Value) (v9:Value) (v10:Value) (v11:Value) (v14:Value) (v15:Value) (v16:Value) (v20:Value) (v21:Value) (v22:Value) (vs24:List Value) (v28:Value) (v29:Value) (v31:Value) (vs33:List Value) (vs38:List Value) (vs44:List Value) (vs49:List Value) (vs52:List Value) (v54:Value):M R2:=
 cb.bv R2 (J6 [(.int .i64 (.ofNat 0)),(.int .i64 (.ofNat 0)),(.int .i64 (.ofNat 0)),(.int .u64 (.ofNat 0)),(.int .i64 (.ofNat 0)),(.int .i64 (.ofNat 0)),(.int .i64 (.ofNat 0)),(.slice none 0 0),(.slice none 0 0)]) fun v59=>
 cb.bv R2 (r9 9 v59 v58) fun v60=>
 cb.bv R2 (F3 3 (d9 xs0 143) v30) fun v61=>
 cb.bv R2 (l9 2 v61) fun v62=>
 cb.bv R2 (r9 1 v62 (.bool true)) fun v63=>
 b5L cb N call v7 v59 xs0 v30 a0 a1 v3 v4 v5 v6 v9 v10 v11 v14 v15 v16 v20 v21 v22 vs24 v28 v29 v31 vs33 vs38 vs44 vs49 vs52 v54 v58 v61 v62
noncomputable def b8q (cb:Cb) (N:Nat) (call:j4) (xs0:List Value) (v30:Value) (v7:Value) (a0:Value) (a1:Value) (v3:Value) (v4:Value) (v5:Value) (v6:Value) (v9:Value) (v10:Value) (v11:Value) (v14:Value) (v15:Value) (v16:Value) (v20:Value) (v21:Value) (v22:Value) (vs24:List Value) (v28:Value) (v29:Value) (v31:Value) (vs33:List Value) (vs38:List Value) (vs44:List Value) (vs49:List Value) (vs52:List Value) (v54:Value):M R2:=
 cb.bv R2 (H7 [(0, 1)] [(.int .i64 (.ofNat 5))] [(.int .i64 (.ofNat 0)),(.int .i64 (.ofNat 0)),(.int .i64 (.ofNat 0)),(.int .u64 (.ofNat 0)),(.int .i64 (.ofNat 0)),(.int .i64 (.ofNat 0)),(.int .i64 (.ofNat 0)),(.slice none 0 0),(.slice none 0 0)]) fun v58=>
 b2p cb N call v58 xs0 v30 v7 a0 a1 v3 v4 v5 v6 v9 v10 v11 v14 v15 v16 v20 v21 v22 vs24 v28 v29 v31 vs33 vs38 vs44 vs49 vs52 v54
noncomputable def b8y (cb:Cb) (N:Nat) (call:j4) (v31:Value) (vs33:List Value) (vs49:List Value) (v7:Value) (a0:Value) (xs0:List Value) (a1:Value) (v3:Value) (v4:Value) (v5:Value) (v6:Value) (v9:Value) (v10:Value) (v11:Value) (v14:Value) (v15:Value) (v16:Value) (v20:Value) (v21:Value) (v22:Value) (vs24:List Value) (v28:Value) (v29:Value) (v30:Value) (vs38:List Value) (vs44:List Value):M R2:=
 cb.bj R2 (l8 (o7 false v31) (cb.bv R2 (q9 (d9 vs33 3) (d9 vs49 0) (.bool false)) fun v53=>
 M.pure (.normal, [v53])) (M.pure (.normal, [undef]))) fun x51 vs52=>l7 x51 (cb.bv R2 (q9 v31 (.bool true) (d9 vs52 0)) fun v54=>
 j6 v54 (
 d7c cb N call v7 a0 xs0 a1 v3 v4 v5 v6 v9 v10 v11 v14 v15 v16 v20 v21 v22 vs24 v28 v29 v30 v31 vs33 vs38 vs44 vs49 vs52 v54) (
 b8q cb N call xs0 v30 v7 a0 a1 v3 v4 v5 v6 v9 v10 v11 v14 v15 v16 v20 v21 v22 vs24 v28 v29 v31 vs33 vs38 vs44 vs49 vs52 v54)) (fun _=>M.fail) M.fail l6
noncomputable def b2E (cb:Cb) (N:Nat) (call:j4) (vs38:List Value) (xs0:List Value) (v30:Value) (vs33:List Value) (v31:Value) (v7:Value) (a0:Value) (a1:Value) (v3:Value) (v4:Value) (v5:Value) (v6:Value) (v9:Value) (v10:Value) (v11:Value) (v14:Value) (v15:Value) (v16:Value) (v20:Value) (v21:Value) (v22:Value) (vs24:List Value) (v28:Value) (v29:Value):M R2:=
 cb.bj R2 (l8 (o7 false (d9 vs38 6)) (cb.bv R2 (F3 3 (d9 xs0 143) v30) fun v45=>
 cb.bv R2 (l9 2 v45) fun v46=>
 cb.bv R2 (j5 v46) fun v47=>
 M.pure (.normal, [(d9 xs0 143),v30,v45,v46,v47])) (M.pure (.normal, [undef,undef,undef,undef,undef]))) fun x43 vs44=>l7 x43 (cb.bj R2 (l8 (o7 true (d9 vs33 3)) (cb.bv R2 (q9 (d9 vs38 6) (.bool true) (d9 vs44 4)) fun v50=>
 M.pure (.normal, [v50])) (M.pure (.normal, [undef]))) fun x48 vs49=>l7 x48 (b8y cb N call v31 vs33 vs49 v7 a0 xs0 a1 v3 v4 v5 v6 v9 v10 v11 v14 v15 v16 v20 v21 v22 vs24 v28 v29 v30 vs38 vs44) (fun _=>M.fail) M.fail l6) (fun _=>M.fail) M.fail l6
noncomputable def b5w (cb:Cb) (N:Nat) (call:j4) (vs33:List Value) (xs0:List Value) (v30:Value) (v31:Value) (v7:Value) (a0:Value) (a1:Value) (v3:Value) (v4:Value) (v5:Value) (v6:Value) (v9:Value) (v10:Value) (v11:Value) (v14:Value) (v15:Value) (v16:Value) (v20:Value) (v21:Value) (v22:Value) (vs24:List Value) (v28:Value) (v29:Value):M R2:=
 cb.bj R2 (l8 (o7 true (d9 vs33 3)) (cb.bv R2 (F3 3 (d9 xs0 143) v30) fun v39=>
 cb.bv R2 (l9 1 v39) fun v40=>
 cb.bv R2 (j5 v40) fun v41=>
 cb.bv R2 (bn .neq 22 (.tmp 67) (.const (.int .i64 (.ofNat 4))) v41 (.int .i64 (.ofNat 4))) fun v42=>
 M.pure (.normal, [(d9 xs0 143),v30,v39,v40,v41,v42,v42])) (M.pure (.normal, [undef,undef,undef,undef,undef,undef,undef]))) fun x37 vs38=>l7 x37 (b2E cb N call vs38 xs0 v30 vs33 v31 v7 a0 a1 v3 v4 v5 v6 v9 v10 v11 v14 v15 v16 v20 v21 v22 vs24 v28 v29) (fun _=>M.fail) M.fail l6
noncomputable def b4t (cb:Cb) (N:Nat) (call:j4) (v30:Value) (v7:Value) (xs0:List Value) (a0:Value) (a1:Value) (v3:Value) (v4:Value) (v5:Value) (v6:Value) (v9:Value) (v10:Value) (v11:Value) (v14:Value) (v15:Value) (v16:Value) (v20:Value) (v21:Value) (v22:Value) (vs24:List Value) (v28:Value) (v29:Value):M R2:=
 cb.bv R2 (bn .lss 3 (.tmp 56) (.const (.int .i64 (.ofNat 0))) v30 (.int .i64 (.ofNat 0))) fun v31=>
 cb.bj R2 (l8 (o7 false v31) (cb.bv R2 (l9 2 v7) fun v34=>
 cb.bv R2 (j5 v34) fun v35=>
 cb.bv R2 (bn .eql 9 (.tmp 60) (.const (.string ⟨⟨[101, 108, 115, 101]⟩⟩)) v35 (.string ⟨⟨[101, 108, 115, 101]⟩⟩)) fun v36=>
 M.pure (.normal, [v34,v35,v36,v36])) (M.pure (.normal, [undef,undef,undef,undef]))) fun x32 vs33=>l7 x32 (b5w cb N call vs33 xs0 v30 v31 v7 a0 a1 v3 v4 v5 v6 v9 v10 v11 v14 v15 v16 v20 v21 v22 vs24 v28 v29) (fun _=>M.fail) M.fail l6
noncomputable def b6I (cb:Cb) (N:Nat) (call:j4) (xs0:List Value) (v7:Value) (a0:Value) (a1:Value) (v3:Value) (v4:Value) (v5:Value) (v6:Value) (v9:Value) (v10:Value) (v11:Value) (v14:Value) (v15:Value) (v16:Value) (v20:Value) (v21:Value) (v22:Value) (vs24:List Value) (v28:Value):M R2:=
 cb.bv R2 (H6 (d9 xs0 143)) fun v29=>
 cb.bv R2 (bn .sub 3 (.tmp 54) (.const (.int .i64 (.ofNat 1))) v29 (.int .i64 (.ofNat 1))) fun v30=>
 b4t cb N call v30 v7 xs0 a0 a1 v3 v4 v5 v6 v9 v10 v11 v14 v15 v16 v20 v21 v22 vs24 v28 v29
noncomputable def c8c (cb:Cb) (N:Nat) (call:j4) (xs0:List Value) (a1:Value) (v3:Value) (v4:Value) (v5:Value) (v6:Value) (v7:Value) (v9:Value) (v10:Value) (v11:Value) (v14:Value) (v15:Value) (v16:Value) (v20:Value) (v21:Value) (v22:Value) (vs24:List Value) (v28:Value) (a0:Value) (v75:Value) (v76:Value) (v77:Value) (v78:Value) (v79:Value) (v80:Value) (v82:Value):M R2:=
 M.pure (.ret, [(d9 xs0 148),a1,v3,v4,a1,(d9 xs0 148),v5,v6,v7,v9,v10,v11,v11,(d9 xs0 13),(d9 xs0 14),(d9 xs0 15),(d9 xs0 16),(d9 xs0 17),(d9 xs0 18),(d9 xs0 19),(d9 xs0 20),(d9 xs0 21),v14,v15,v16,v16,(d9 xs0 26),(d9 xs0 27),(d9 xs0 28),(d9 xs0 29),v20,v21,v22,v22,(d9 vs24 0),(d9 vs24 1),(d9 vs24 2),v28,v28,(d9 xs0 39),(d9 xs0 40),(d9 xs0 41),(d9 xs0 42),(d9 xs0 43),(d9 xs0 44),(d9 xs0 45),(d9 xs0 46),(d9 xs0 47),(d9 xs0 48),(d9 xs0 49),(d9 xs0 50),(d9 xs0 51),(d9 xs0 52),(d9 xs0 53),(d9 xs0 54),(d9 xs0 55),(d9 xs0 56),(d9 xs0 57),(d9 xs0 58),(d9 xs0 59),(d9 xs0 60),(d9 xs0 61),(d9 xs0 62),(d9 xs0 63),(d9 xs0 64),(d9 xs0 65),(d9 xs0 66),(d9 xs0 67),(d9 xs0 68),(d9 xs0 69),(d9 xs0 70),(d9 xs0 71),(d9 xs0 72),(d9 xs0 73),(d9 xs0 74),(d9 xs0 75),(d9 xs0 76),(d9 xs0 77),(d9 xs0 78),(d9 xs0 79),(d9 xs0 80),(d9 xs0 81),(d9 xs0 82),(d9 xs0 83),(d9 xs0 84),(d9 xs0 85),(d9 xs0 86),(d9 xs0 87),(d9 xs0 88),(d9 xs0 89),(d9 xs0 90),(d9 xs0 91),(d9 xs0 92),(d9 xs0 93),(d9 xs0 94),(d9 xs0 95),a0,a1,(d9 xs0 148),v75,v75,v76,v77,v78,v79,v80,v77,v78,v79,v79,v82,(.bool false),(d9 xs0 112),(d9 xs0 113),(d9 xs0 114),(d9 xs0 115),(d9 xs0 116),(d9 xs0 117),(d9 xs0 118),(d9 xs0 119),(d9 xs0 120),(d9 xs0 121),(d9 xs0 122),(d9 xs0 123),(d9 xs0 124),(d9 xs0 125),(d9 xs0 126),(d9 xs0 127),(d9 xs0 128),(d9 xs0 129),(d9 xs0 130),(d9 xs0 131),(d9 xs0 132),(d9 xs0 133),(d9 xs0 134),(d9 xs0 135),(d9 xs0 136),(d9 xs0 137),(d9 xs0 138),(d9 xs0 139),(d9 xs0 140),(d9 xs0 141),(d9 xs0 142),(d9 xs0 143),(d9 xs0 144),(d9 xs0 145),(d9 xs0 146),(d9 xs0 147),(d9 xs0 148)])
noncomputable def e0A (cb:Cb) (N:Nat) (call:j4) (xs0:List Value) (a1:Value) (v3:Value) (v4:Value) (v5:Value) (v6:Value) (v7:Value) (v9:Value) (v10:Value) (v11:Value) (v14:Value) (v15:Value) (v16:Value) (v20:Value) (v21:Value) (v22:Value) (vs24:List Value) (v28:Value) (a0:Value) (v75:Value) (v76:Value) (v77:Value) (v78:Value) (v79:Value) (v80:Value) (v82:Value) (vs83:List Value) (v84:Value) (v85:Value) (v86:Value) (vs88:List Value) (v92:Value) (vs94:List Value) (v98:Value) (v99:Value) (v100:Value) (v101:Value) (v102:Value) (v103:Value) (v104:Value) (v105:Value) (v106:Value):M R2:=
 M.pure (.normal, [(d9 xs0 148),a1,v3,v4,a1,(d9 xs0 148),v5,v6,v7,v9,v10,v11,v11,(d9 xs0 13),(d9 xs0 14),(d9 xs0 15),(d9 xs0 16),(d9 xs0 17),(d9 xs0 18),(d9 xs0 19),(d9 xs0 20),(d9 xs0 21),v14,v15,v16,v16,(d9 xs0 26),(d9 xs0 27),(d9 xs0 28),(d9 xs0 29),v20,v21,v22,v22,(d9 vs24 0),(d9 vs24 1),(d9 vs24 2),v28,v28,(d9 xs0 39),(d9 xs0 40),(d9 xs0 41),(d9 xs0 42),(d9 xs0 43),(d9 xs0 44),(d9 xs0 45),(d9 xs0 46),(d9 xs0 47),(d9 xs0 48),(d9 xs0 49),(d9 xs0 50),(d9 xs0 51),(d9 xs0 52),(d9 xs0 53),(d9 xs0 54),(d9 xs0 55),(d9 xs0 56),(d9 xs0 57),(d9 xs0 58),(d9 xs0 59),(d9 xs0 60),(d9 xs0 61),(d9 xs0 62),(d9 xs0 63),(d9 xs0 64),(d9 xs0 65),(d9 xs0 66),(d9 xs0 67),(d9 xs0 68),(d9 xs0 69),(d9 xs0 70),(d9 xs0 71),(d9 xs0 72),(d9 xs0 73),(d9 xs0 74),(d9 xs0 75),(d9 xs0 76),(d9 xs0 77),(d9 xs0 78),(d9 xs0 79),(d9 xs0 80),(d9 xs0 81),(d9 xs0 82),(d9 xs0 83),(d9 xs0 84),(d9 xs0 85),(d9 xs0 86),(d9 xs0 87),(d9 xs0 88),(d9 xs0 89),(d9 xs0 90),(d9 xs0 91),(d9 xs0 92),(d9 xs0 93),(d9 xs0 94),(d9 xs0 95),a0,a1,(d9 xs0 148),v75,v75,v76,v77,v78,v79,v80,v77,v78,v79,v79,v82,(d9 xs0 111),(d9 vs83 0),(d9 vs83 1),(d9 vs83 2),(d9 vs83 3),(d9 vs83 4),(d9 vs83 5),(d9 vs83 6),(d9 vs83 7),(d9 vs83 8),(d9 vs83 9),v84,v85,v86,v86,(d9 vs88 0),(d9 vs88 1),(d9 vs88 2),v92,v92,(d9 vs94 0),(d9 vs94 1),(d9 vs94 2),v98,(d9 xs0 143),v99,v100,v101,v102,v103,v104,v105,v105,a0,v77,v106,v78,v78])
noncomputable def e1h (cb:Cb) (N:Nat) (call:j4) (v100:Value) (v102:Value) (xs0:List Value) (a0:Value) (v77:Value) (a1:Value) (v3:Value) (v4:Value) (v5:Value) (v6:Value) (v7:Value) (v9:Value) (v10:Value) (v11:Value) (v14:Value) (v15:Value) (v16:Value) (v20:Value) (v21:Value) (v22:Value) (vs24:List Value) (v28:Value) (v75:Value) (v76:Value) (v78:Value) (v79:Value) (v80:Value) (v82:Value) (vs83:List Value) (v84:Value) (v85:Value) (v86:Value) (vs88:List Value) (v92:Value) (vs94:List Value) (v98:Value) (v99:Value) (v101:Value):M R2:=
 cb.bv R2 (H7 [(0, 1),(1, 1)] [v100,v102] [(.int .i64 (.ofNat 0)),(.int .i64 (.ofNat 0)),(.bool false)]) fun v103=>
 cb.bv R2 (H8 3 1 [(0, 3)] [v103] [(.int .i64 (.ofNat 0)),(.int .i64 (.ofNat 0)),(.bool false)]) fun v104=>
 cb.bv R2 (Q9 d7g (d9 xs0 143) v104) fun v105=>
 cb.bc R2 (call 111 [a0,v77]) (fun v106=>
 e0A cb N call xs0 a1 v3 v4 v5 v6 v7 v9 v10 v11 v14 v15 v16 v20 v21 v22 vs24 v28 a0 v75 v76 v77 v78 v79 v80 v82 vs83 v84 v85 v86 vs88 v92 vs94 v98 v99 v100 v101 v102 v103 v104 v105 v106) l6
noncomputable def c7V (cb:Cb) (N:Nat) (call:j4) (v7:Value) (v80:Value) (xs0:List Value) (a0:Value) (v77:Value) (a1:Value) (v3:Value) (v4:Value) (v5:Value) (v6:Value) (v9:Value) (v10:Value) (v11:Value) (v14:Value) (v15:Value) (v16:Value) (v20:Value) (v21:Value) (v22:Value) (vs24:List Value) (v28:Value) (v75:Value) (v76:Value) (v78:Value) (v79:Value) (v82:Value) (vs83:List Value) (v84:Value) (v85:Value) (v86:Value) (vs88:List Value) (v92:Value) (vs94:List Value) (v98:Value):M R2:=
 cb.bv R2 (l9 1 v7) fun v99=>
 cb.bv R2 (j5 v99) fun v100=>
 cb.bv R2 (l9 0 v80) fun v101=>
 cb.bv R2 (j5 v101) fun v102=>
 e1h cb N call v100 v102 xs0 a0 v77 a1 v3 v4 v5 v6 v7 v9 v10 v11 v14 v15 v16 v20 v21 v22 vs24 v28 v75 v76 v78 v79 v80 v82 vs83 v84 v85 v86 vs88 v92 vs94 v98 v99 v101
noncomputable def d0D (cb:Cb) (N:Nat) (call:j4) (xs0:List Value) (a1:Value) (v3:Value) (v4:Value) (v5:Value) (v6:Value) (v7:Value) (v9:Value) (v10:Value) (v11:Value) (v14:Value) (v15:Value) (v16:Value) (v20:Value) (v21:Value) (v22:Value) (vs24:List Value) (v28:Value) (a0:Value) (v75:Value) (v76:Value) (v77:Value) (v78:Value) (v79:Value) (v80:Value) (v82:Value) (vs83:List Value) (v84:Value) (v85:Value) (v86:Value) (vs88:List Value) (v92:Value) (vs94:List Value) (v98:Value):M R2:=
 M.pure (.normal, [(d9 xs0 148),a1,v3,v4,a1,(d9 xs0 148),v5,v6,v7,v9,v10,v11,v11,(d9 xs0 13),(d9 xs0 14),(d9 xs0 15),(d9 xs0 16),(d9 xs0 17),(d9 xs0 18),(d9 xs0 19),(d9 xs0 20),(d9 xs0 21),v14,v15,v16,v16,(d9 xs0 26),(d9 xs0 27),(d9 xs0 28),(d9 xs0 29),v20,v21,v22,v22,(d9 vs24 0),(d9 vs24 1),(d9 vs24 2),v28,v28,(d9 xs0 39),(d9 xs0 40),(d9 xs0 41),(d9 xs0 42),(d9 xs0 43),(d9 xs0 44),(d9 xs0 45),(d9 xs0 46),(d9 xs0 47),(d9 xs0 48),(d9 xs0 49),(d9 xs0 50),(d9 xs0 51),(d9 xs0 52),(d9 xs0 53),(d9 xs0 54),(d9 xs0 55),(d9 xs0 56),(d9 xs0 57),(d9 xs0 58),(d9 xs0 59),(d9 xs0 60),(d9 xs0 61),(d9 xs0 62),(d9 xs0 63),(d9 xs0 64),(d9 xs0 65),(d9 xs0 66),(d9 xs0 67),(d9 xs0 68),(d9 xs0 69),(d9 xs0 70),(d9 xs0 71),(d9 xs0 72),(d9 xs0 73),(d9 xs0 74),(d9 xs0 75),(d9 xs0 76),(d9 xs0 77),(d9 xs0 78),(d9 xs0 79),(d9 xs0 80),(d9 xs0 81),(d9 xs0 82),(d9 xs0 83),(d9 xs0 84),(d9 xs0 85),(d9 xs0 86),(d9 xs0 87),(d9 xs0 88),(d9 xs0 89),(d9 xs0 90),(d9 xs0 91),(d9 xs0 92),(d9 xs0 93),(d9 xs0 94),(d9 xs0 95),a0,a1,(d9 xs0 148),v75,v75,v76,v77,v78,v79,v80,v77,v78,v79,v79,v82,(d9 xs0 111),(d9 vs83 0),(d9 vs83 1),(d9 vs83 2),(d9 vs83 3),(d9 vs83 4),(d9 vs83 5),(d9 vs83 6),(d9 vs83 7),(d9 vs83 8),(d9 vs83 9),v84,v85,v86,v86,(d9 vs88 0),(d9 vs88 1),(d9 vs88 2),v92,v92,(d9 vs94 0),(d9 vs94 1),(d9 vs94 2),v98,(d9 xs0 135),(d9 xs0 136),(d9 xs0 137),(d9 xs0 138),(d9 xs0 139),(d9 xs0 140),(d9 xs0 141),(d9 xs0 142),(d9 xs0 143),(d9 xs0 144),(d9 xs0 145),(d9 xs0 146),v78,v78])
noncomputable def b1o (cb:Cb) (N:Nat) (call:j4) (v92:Value) (v80:Value) (v7:Value) (xs0:List Value) (a0:Value) (v77:Value) (a1:Value) (v3:Value) (v4:Value) (v5:Value) (v6:Value) (v9:Value) (v10:Value) (v11:Value) (v14:Value) (v15:Value) (v16:Value) (v20:Value) (v21:Value) (v22:Value) (vs24:List Value) (v28:Value) (v75:Value) (v76:Value) (v78:Value) (v79:Value) (v82:Value) (vs83:List Value) (v84:Value) (v85:Value) (v86:Value) (vs88:List Value):M R2:=
 cb.bj R2 (l8 (o7 false v92) (cb.bv R2 (l9 0 v80) fun v95=>
 cb.bv R2 (j5 v95) fun v96=>
 cb.bv R2 (bn .eql 22 (.tmp 139) (.const (.int .i64 (.ofNat 4))) v96 (.int .i64 (.ofNat 4))) fun v97=>
 M.pure (.normal, [v95,v96,v97])) (M.pure (.normal, [undef,undef,undef]))) fun x93 vs94=>l7 x93 (cb.bv R2 (q9 v92 (.bool true) (d9 vs94 2)) fun v98=>
 j6 v98 (
 c7V cb N call v7 v80 xs0 a0 v77 a1 v3 v4 v5 v6 v9 v10 v11 v14 v15 v16 v20 v21 v22 vs24 v28 v75 v76 v78 v79 v82 vs83 v84 v85 v86 vs88 v92 vs94 v98) (
 d0D cb N call xs0 a1 v3 v4 v5 v6 v7 v9 v10 v11 v14 v15 v16 v20 v21 v22 vs24 v28 a0 v75 v76 v77 v78 v79 v80 v82 vs83 v84 v85 v86 vs88 v92 vs94 v98)) (fun _=>M.fail) M.fail l6
noncomputable def b4m (cb:Cb) (N:Nat) (call:j4) (v86:Value) (v80:Value) (v7:Value) (xs0:List Value) (a0:Value) (v77:Value) (a1:Value) (v3:Value) (v4:Value) (v5:Value) (v6:Value) (v9:Value) (v10:Value) (v11:Value) (v14:Value) (v15:Value) (v16:Value) (v20:Value) (v21:Value) (v22:Value) (vs24:List Value) (v28:Value) (v75:Value) (v76:Value) (v78:Value) (v79:Value) (v82:Value) (vs83:List Value) (v84:Value) (v85:Value):M R2:=
 cb.bj R2 (l8 (o7 false v86) (cb.bv R2 (l9 0 v80) fun v89=>
 cb.bv R2 (j5 v89) fun v90=>
 cb.bv R2 (bn .eql 22 (.tmp 134) (.const (.int .i64 (.ofNat 3))) v90 (.int .i64 (.ofNat 3))) fun v91=>
 M.pure (.normal, [v89,v90,v91])) (M.pure (.normal, [undef,undef,undef]))) fun x87 vs88=>l7 x87 (cb.bv R2 (q9 v86 (.bool true) (d9 vs88 2)) fun v92=>
 b1o cb N call v92 v80 v7 xs0 a0 v77 a1 v3 v4 v5 v6 v9 v10 v11 v14 v15 v16 v20 v21 v22 vs24 v28 v75 v76 v78 v79 v82 vs83 v84 v85 v86 vs88) (fun _=>M.fail) M.fail l6
noncomputable def b1H (cb:Cb) (N:Nat) (call:j4) (a0:Value) (xs0:List Value) (v80:Value) (v7:Value) (v77:Value) (a1:Value) (v3:Value) (v4:Value) (v5:Value) (v6:Value) (v9:Value) (v10:Value) (v11:Value) (v14:Value) (v15:Value) (v16:Value) (v20:Value) (v21:Value) (v22:Value) (vs24:List Value) (v28:Value) (v75:Value) (v76:Value) (v78:Value) (v79:Value) (v82:Value):M R2:=
 cb.bj R2 (dr call a3H 166 [0, 120, 121, 122, 10, 124, 123, 125, 119, 127, 128, 126] [a0,(d9 xs0 113),(d9 xs0 114),(d9 xs0 115),v80,(d9 xs0 117),(d9 xs0 116),(d9 xs0 118),(d9 xs0 112),(d9 xs0 120),(d9 xs0 121),(d9 xs0 119)] [119, 120, 121, 122, 123, 124, 125, 126, 127, 128]) fun _ vs83=>
 cb.bv R2 (l9 0 v80) fun v84=>
 cb.bv R2 (j5 v84) fun v85=>
 cb.bv R2 (bn .eql 22 (.tmp 130) (.const (.int .i64 (.ofNat 2))) v85 (.int .i64 (.ofNat 2))) fun v86=>
 b4m cb N call v86 v80 v7 xs0 a0 v77 a1 v3 v4 v5 v6 v9 v10 v11 v14 v15 v16 v20 v21 v22 vs24 v28 v75 v76 v78 v79 v82 vs83 v84 v85
noncomputable def b2t (cb:Cb) (N:Nat) (call:j4) (v76:Value) (v79:Value) (xs0:List Value) (a1:Value) (v3:Value) (v4:Value) (v5:Value) (v6:Value) (v7:Value) (v9:Value) (v10:Value) (v11:Value) (v14:Value) (v15:Value) (v16:Value) (v20:Value) (v21:Value) (v22:Value) (vs24:List Value) (v28:Value) (a0:Value) (v75:Value) (v77:Value) (v78:Value):M R2:=
 cb.bv R2 (J6 [(.int .i64 (.ofNat 0)),(.int .i64 (.ofNat 0)),(.int .i64 (.ofNat 0)),(.int .u64 (.ofNat 0)),(.int .i64 (.ofNat 0)),(.int .i64 (.ofNat 0)),(.int .i64 (.ofNat 0)),(.slice none 0 0),(.slice none 0 0)]) fun v80=>
 cb.bv R2 (r9 9 v80 v76) fun v81=>
 cb.bv R2 (un .not v79) fun v82=>
 j6 v82 (
 c8c cb N call xs0 a1 v3 v4 v5 v6 v7 v9 v10 v11 v14 v15 v16 v20 v21 v22 vs24 v28 a0 v75 v76 v77 v78 v79 v80 v82) (
 b1H cb N call a0 xs0 v80 v7 v77 a1 v3 v4 v5 v6 v9 v10 v11 v14 v15 v16 v20 v21 v22 vs24 v28 v75 v76 v78 v79 v82)
noncomputable def b3D (cb:Cb) (N:Nat) (call:j4) (a0:Value) (a1:Value) (xs0:List Value) (v3:Value) (v4:Value) (v5:Value) (v6:Value) (v7:Value) (v9:Value) (v10:Value) (v11:Value) (v14:Value) (v15:Value) (v16:Value) (v20:Value) (v21:Value) (v22:Value) (vs24:List Value) (v28:Value):M R2:=
 cb.bc R2 (call 73 [a0,a1,(d9 xs0 148)]) (fun v75=>
 cb.bv R2 (z8 0 v75) fun v76=>
 cb.bv R2 (z8 1 v75) fun v77=>
 cb.bv R2 (z8 2 v75) fun v78=>
 cb.bv R2 (z8 3 v75) fun v79=>
 b2t cb N call v76 v79 xs0 a1 v3 v4 v5 v6 v7 v9 v10 v11 v14 v15 v16 v20 v21 v22 vs24 v28 a0 v75 v77 v78) l6
noncomputable def b4x (cb:Cb) (N:Nat) (call:j4) (v22:Value) (v7:Value) (xs0:List Value) (a0:Value) (a1:Value) (v3:Value) (v4:Value) (v5:Value) (v6:Value) (v9:Value) (v10:Value) (v11:Value) (v14:Value) (v15:Value) (v16:Value) (v20:Value) (v21:Value):M R2:=
 cb.bj R2 (l8 (o7 false v22) (cb.bv R2 (l9 2 v7) fun v25=>
 cb.bv R2 (j5 v25) fun v26=>
 cb.bv R2 (bn .eql 9 (.tmp 50) (.const (.string ⟨⟨[101, 110, 100]⟩⟩)) v26 (.string ⟨⟨[101, 110, 100]⟩⟩)) fun v27=>
 M.pure (.normal, [v25,v26,v27])) (M.pure (.normal, [undef,undef,undef]))) fun x23 vs24=>l7 x23 (cb.bv R2 (q9 v22 (.bool true) (d9 vs24 2)) fun v28=>
 j6 v28 (
 b6I cb N call xs0 v7 a0 a1 v3 v4 v5 v6 v9 v10 v11 v14 v15 v16 v20 v21 v22 vs24 v28) (
 b3D cb N call a0 a1 xs0 v3 v4 v5 v6 v7 v9 v10 v11 v14 v15 v16 v20 v21 v22 vs24 v28)) (fun _=>M.fail) M.fail l6
noncomputable def b3V (cb:Cb) (N:Nat) (call:j4) (v7:Value) (xs0:List Value) (a0:Value) (a1:Value) (v3:Value) (v4:Value) (v5:Value) (v6:Value) (v9:Value) (v10:Value) (v11:Value) (v14:Value) (v15:Value) (v16:Value):M R2:=
 cb.bv R2 (l9 2 v7) fun v20=>
 cb.bv R2 (j5 v20) fun v21=>
 cb.bv R2 (bn .eql 9 (.tmp 46) (.const (.string ⟨⟨[101, 108, 115, 101]⟩⟩)) v21 (.string ⟨⟨[101, 108, 115, 101]⟩⟩)) fun v22=>
 b4x cb N call v22 v7 xs0 a0 a1 v3 v4 v5 v6 v9 v10 v11 v14 v15 v16 v20 v21
noncomputable def b7m (cb:Cb) (N:Nat) (call:j4) (v7:Value) (a0:Value) (xs0:List Value) (a1:Value) (v3:Value) (v4:Value) (v5:Value) (v6:Value) (v9:Value) (v10:Value) (v11:Value):M R2:=
 cb.bv R2 (l9 0 v7) fun v14=>
 cb.bv R2 (j5 v14) fun v15=>
 cb.bv R2 (bn .neq 117 (.tmp 38) (.const (.int .i64 (.ofNat 2))) v15 (.int .i64 (.ofNat 2))) fun v16=>
 j6 v16 (
 d7a cb N call v7 a0 xs0 a1 v3 v4 v5 v6 v9 v10 v11 v14 v15 v16) (
 b3V cb N call v7 xs0 a0 a1 v3 v4 v5 v6 v9 v10 v11 v14 v15 v16)
noncomputable def b5N (cb:Cb) (N:Nat) (call:j4) (a1:Value) (xs0:List Value) (a0:Value) (v3:Value) (v4:Value):M R2:=
 cb.bv R2 (F3 4 a1 (d9 xs0 148)) fun v5=>
 cb.bv R2 (E8 4 v5) fun v6=>
 cb.bv R2 (J6 [(.int .i64 (.ofNat 0)),(.int .i64 (.ofNat 0)),(.string ⟨⟨[]⟩⟩),(.slice none 0 0)]) fun v7=>
 cb.bv R2 (r9 4 v7 v6) fun v8=>
 cb.bv R2 (l9 0 v7) fun v9=>
 cb.bv R2 (j5 v9) fun v10=>
 cb.bv R2 (bn .eql 117 (.tmp 25) (.const (.int .i64 (.ofNat 0))) v10 (.int .i64 (.ofNat 0))) fun v11=>
 j6 v11 (
 c5y cb N call a0 xs0 v7 a1 v3 v4 v5 v6 v9 v10 v11) (
 b7m cb N call v7 a0 xs0 a1 v3 v4 v5 v6 v9 v10 v11)
noncomputable def d1H (cb:Cb) (N:Nat) (call:j4) (xs0:List Value) (a1:Value) (v3:Value) (v4:Value):M R2:=
 M.pure (.exit 0, [(d9 xs0 148),a1,v3,v4,(d9 xs0 4),(d9 xs0 5),(d9 xs0 6),(d9 xs0 7),(d9 xs0 8),(d9 xs0 9),(d9 xs0 10),(d9 xs0 11),(d9 xs0 12),(d9 xs0 13),(d9 xs0 14),(d9 xs0 15),(d9 xs0 16),(d9 xs0 17),(d9 xs0 18),(d9 xs0 19),(d9 xs0 20),(d9 xs0 21),(d9 xs0 22),(d9 xs0 23),(d9 xs0 24),(d9 xs0 25),(d9 xs0 26),(d9 xs0 27),(d9 xs0 28),(d9 xs0 29),(d9 xs0 30),(d9 xs0 31),(d9 xs0 32),(d9 xs0 33),(d9 xs0 34),(d9 xs0 35),(d9 xs0 36),(d9 xs0 37),(d9 xs0 38),(d9 xs0 39),(d9 xs0 40),(d9 xs0 41),(d9 xs0 42),(d9 xs0 43),(d9 xs0 44),(d9 xs0 45),(d9 xs0 46),(d9 xs0 47),(d9 xs0 48),(d9 xs0 49),(d9 xs0 50),(d9 xs0 51),(d9 xs0 52),(d9 xs0 53),(d9 xs0 54),(d9 xs0 55),(d9 xs0 56),(d9 xs0 57),(d9 xs0 58),(d9 xs0 59),(d9 xs0 60),(d9 xs0 61),(d9 xs0 62),(d9 xs0 63),(d9 xs0 64),(d9 xs0 65),(d9 xs0 66),(d9 xs0 67),(d9 xs0 68),(d9 xs0 69),(d9 xs0 70),(d9 xs0 71),(d9 xs0 72),(d9 xs0 73),(d9 xs0 74),(d9 xs0 75),(d9 xs0 76),(d9 xs0 77),(d9 xs0 78),(d9 xs0 79),(d9 xs0 80),(d9 xs0 81),(d9 xs0 82),(d9 xs0 83),(d9 xs0 84),(d9 xs0 85),(d9 xs0 86),(d9 xs0 87),(d9 xs0 88),(d9 xs0 89),(d9 xs0 90),(d9 xs0 91),(d9 xs0 92),(d9 xs0 93),(d9 xs0 94),(d9 xs0 95),(d9 xs0 96),(d9 xs0 97),(d9 xs0 98),(d9 xs0 99),(d9 xs0 100),(d9 xs0 101),(d9 xs0 102),(d9 xs0 103),(d9 xs0 104),(d9 xs0 105),(d9 xs0 106),(d9 xs0 107),(d9 xs0 108),(d9 xs0 109),(d9 xs0 110),(d9 xs0 111),(d9 xs0 112),(d9 xs0 113),(d9 xs0 114),(d9 xs0 115),(d9 xs0 116),(d9 xs0 117),(d9 xs0 118),(d9 xs0 119),(d9 xs0 120),(d9 xs0 121),(d9 xs0 122),(d9 xs0 123),(d9 xs0 124),(d9 xs0 125),(d9 xs0 126),(d9 xs0 127),(d9 xs0 128),(d9 xs0 129),(d9 xs0 130),(d9 xs0 131),(d9 xs0 132),(d9 xs0 133),(d9 xs0 134),(d9 xs0 135),(d9 xs0 136),(d9 xs0 137),(d9 xs0 138),(d9 xs0 139),(d9 xs0 140),(d9 xs0 141),(d9 xs0 142),(d9 xs0 143),(d9 xs0 144),(d9 xs0 145),(d9 xs0 146),(d9 xs0 147),(d9 xs0 148)])
noncomputable def b2d (cb:Cb) (N:Nat) (call:j4) (a1:Value) (a0:Value) (xs0:List Value):M R2:=
 cb.bv R2 (H6 a1) fun v3=>
 cb.bv R2 (bn .lss 3 (.tmp 15) (.tmp 17) (d9 xs0 148) v3) fun v4=>
 j6 v4 (
 b5N cb N call a1 xs0 a0 v3 v4) (
 d1H cb N call xs0 a1 v3 v4)
noncomputable def d1r (cb:Cb) (N:Nat) (call:j4) (vs2:List Value) (v109:Value) (a0:Value):M CR:=
 cb.bv CR (F3 3 (d9 vs2 143) v109) fun v111=>
 cb.bv CR (l9 0 v111) fun v112=>
 cb.bv CR (j5 v112) fun v113=>
 cb.bc CR (call 72 [a0,v113,(.int .i64 (.ofNat 3))]) (fun v114=>
 M.pure (.ret v114)) l6
noncomputable def d5P (cb:Cb) (N:Nat) (call:j4) (a0:Value) (a1:Value):M CR:=
 cb.bj CR (cb.lp (b2d cb N call a1 a0) N [undef,undef,undef,undef,undef,undef,undef,undef,undef,undef,undef,undef,undef,undef,undef,undef,undef,undef,undef,undef,undef,undef,undef,undef,undef,undef,undef,undef,undef,undef,undef,undef,undef,undef,undef,undef,undef,undef,undef,undef,undef,undef,undef,undef,undef,undef,undef,undef,undef,undef,undef,undef,undef,undef,undef,undef,undef,undef,undef,undef,undef,undef,undef,undef,undef,undef,undef,undef,undef,undef,undef,undef,undef,undef,undef,undef,undef,undef,undef,undef,undef,undef,undef,undef,undef,undef,undef,undef,undef,undef,undef,undef,undef,undef,undef,undef,undef,undef,undef,undef,undef,undef,undef,undef,undef,undef,undef,undef,undef,undef,undef,(.bool false),undef,undef,undef,undef,undef,undef,undef,undef,undef,undef,undef,undef,undef,undef,undef,undef,undef,undef,undef,undef,undef,undef,undef,undef,undef,undef,undef,undef,undef,undef,undef,(.slice none 0 0),undef,undef,undef,undef,(.int .i64 (.ofNat 0))]) fun x1 vs2=>
 l7 x1 (M.fail) (fun i107=>l8 (Nat.beq i107 0) (cb.bv CR (H6 (d9 vs2 143)) fun v108=>
 cb.bv CR (bn .sub 3 (.tmp 155) (.const (.int .i64 (.ofNat 1))) v108 (.int .i64 (.ofNat 1))) fun v109=>
 cb.bv CR (bn .geq 3 (.tmp 157) (.const (.int .i64 (.ofNat 0))) v109 (.int .i64 (.ofNat 0))) fun v110=>
 j6 v110 (
 d1r cb N call vs2 v109 a0) (
 M.pure (.ret (.bool true)))) (l8 (Nat.beq i107 1) (M.fail) (M.fail))) (M.pure (.ret (d9 vs2 111))) l6
theorem d9g (cb:Cb) (N:Nat) (call:j4) (a0:Value) (a1:Value):D5 Tryz.prog A9 cb false N call Tryz.f76 c76 e9S [a0,a1]=d5P cb N call a0 a1:=by kernel_rfl
noncomputable def c77:Code:=D6 Tryz.f77
noncomputable def e9X:Pl:=.d
noncomputable def a5Z:List Oper:=J7 c77 1
noncomputable def c4i (call:j4) (u0:Value) (u1:Value) (u2:Value) (u3:Value) (u4:Value) (u5:Value) (u6:Value) (u7:Value) (u8:Value) (u9:Value) (u10:Value) (u11:Value) (u12:Value) (u13:Value) (u14:Value):M R2:=
 M.bind (M.foot (M.pure u3)) fun y0=>
 M.bind (M.foot (M.pure u3)) fun y1=>
 M.bind (M.foot (q8 y1.1)) fun y2=>
 M.bind (M.foot (l9 1 y2.1)) fun y3=>
 M.bind (M.foot (j5 y3.1)) fun y4=>
 M.bind (M.foot (M.pure u3)) fun y5=>
 M.bind (M.foot (q8 y5.1)) fun y6=>
 M.bind (M.foot (l9 1 y6.1)) fun y7=>
 M.bind (M.foot (j5 y7.1)) fun y8=>
 M.bind (M.foot (H6 y8.1)) fun y9=>
 M.bind (M.foot (bn .sub 3 (.tmp 21) (.const (.int .i64 (.ofNat 1))) y9.1 (.int .i64 (.ofNat 1)))) fun y10=>
 M.bind (M.foot (Q8 1 y4.1 none (some y10.1))) fun y11=>
 M.bind (M.foot (q8 y0.1)) fun y12=>
 M.bind (M.foot (l9 1 y12.1)) fun y13=>
 M.bind (M.foot (r9 1 y13.1 y11.1)) fun y14=>
 M.guard (E9 a5Z (H9 a5Z [y0.2,y1.2,y2.2,y3.2,y4.2,y5.2,y6.2,y7.2,y8.2,y9.2,y10.2,y11.2,y12.2,y13.2,y14.2]) [] [] 0) (M.pure (.normal, [y0.1,y1.1,y2.1,y3.1,y4.1,y5.1,y6.1,y7.1,y8.1,y9.1,y10.1,y11.1,y12.1,y13.1]))
theorem d5k (call:j4) (u0:Value) (u1:Value) (u2:Value) (u3:Value) (u4:Value) (u5:Value) (u6:Value) (u7:Value) (u8:Value) (u9:Value) (u10:Value) (u11:Value) (u12:Value) (u13:Value) (u14:Value):dr call a5Z 26 [13, 14, 15, 0, 17, 18, 19, 20, 21, 16, 22, 12, 24, 25, 23] [u0,u1,u2,u3,u4,u5,u6,u7,u8,u9,u10,u11,u12,u13,u14] [12, 13, 14, 15, 16, 17, 18, 19, 20, 21, 22, 23, 24, 25]=c4i call u0 u1 u2 u3 u4 u5 u6 u7 u8 u9 u10 u11 u12 u13 u14:=(F6 _ _ _ _ _ _ _ _).trans (by kernel_rfl)
noncomputable def c4d (cb:Cb) (N:Nat) (call:j4) (a0:Value):M CR:=
 cb.bj CR (dr call a5Z 26 [13, 14, 15, 0, 17, 18, 19, 20, 21, 16, 22, 12, 24, 25, 23] [undef,undef,undef,a0,undef,undef,undef,undef,undef,undef,undef,undef,undef,undef,undef] [12, 13, 14, 15, 16, 17, 18, 19, 20, 21, 22, 23, 24, 25]) fun _ vs9=>
 M.pure (.ret (.tuple ⟨[]⟩))
noncomputable def c1J (cb:Cb) (N:Nat) (call:j4) (v0:Value) (a0:Value):M CR:=
 cb.bj CR (l8 (o7 true v0) (cb.bv R2 (q8 a0) fun v3=>
 cb.bv R2 (l9 1 v3) fun v4=>
 cb.bv R2 (j5 v4) fun v5=>
 cb.bv R2 (H6 v5) fun v6=>
 cb.bv R2 (bn .gtr 3 (.tmp 9) (.const (.int .i64 (.ofNat 0))) v6 (.int .i64 (.ofNat 0))) fun v7=>
 M.pure (.normal, [a0,v3,v4,v5,v6,v7])) (M.pure (.normal, [undef,undef,undef,undef,undef,undef]))) fun x1 vs2=>l7 x1 (cb.bv CR (q9 v0 (d9 vs2 5) (.bool false)) fun v8=>
 j6 v8 (
 c4d cb N call a0) (
 M.pure (.ret (.tuple ⟨[]⟩)))) (fun _=>M.fail) M.fail l6
noncomputable def d3f (cb:Cb) (N:Nat) (call:j4) (a0:Value):M CR:=
 cb.bc CR (call 79 [a0]) (fun v0=>
 c1J cb N call v0 a0) l6
theorem d9c (cb:Cb) (N:Nat) (call:j4) (a0:Value):D5 Tryz.prog A9 cb false N call Tryz.f77 c77 e9X [a0]=d3f cb N call a0:=by kernel_rfl
noncomputable def c79:Code:=D6 Tryz.f79
noncomputable def f0g:Pl:=.d
noncomputable def d5o (cb:Cb) (N:Nat) (call:j4) (a0:Value):M CR:=
 cb.bv CR (bn .neq 44 (.tmp 3) (.const (.pointer none)) a0 (.pointer none)) fun v0=>
 cb.bj CR (l8 (o7 true v0) (cb.bv R2 (q8 a0) fun v3=>
 cb.bv R2 (l9 0 v3) fun v4=>
 cb.bv R2 (j5 v4) fun v5=>
 cb.bv R2 (bn .neq 90 (.tmp 9) (.const (.map none)) v5 (.map none)) fun v6=>
 M.pure (.normal, [a0,v3,v4,v5,v6])) (M.pure (.normal, [undef,undef,undef,undef,undef]))) fun x1 vs2=>l7 x1 (cb.bv CR (q9 v0 (d9 vs2 4) (.bool false)) fun v7=>
 M.pure (.ret v7)) (fun _=>M.fail) M.fail l6
theorem d9p (cb:Cb) (N:Nat) (call:j4) (a0:Value):D5 Tryz.prog A9 cb false N call Tryz.f79 c79 f0g [a0]=d5o cb N call a0:=by kernel_rfl
noncomputable def c80:Code:=D6 Tryz.f80
noncomputable def e9v:Pl:=.d
noncomputable def e1k (cb:Cb) (N:Nat) (call:j4) (a0:Value) (a1:Value):M CR:=
 cb.bc CR (call 117 [a0,a1]) (fun v0=>
 M.pure (.ret v0)) l6
theorem d8o (cb:Cb) (N:Nat) (call:j4) (a0:Value) (a1:Value):D5 Tryz.prog A9 cb false N call Tryz.f80 c80 e9v [a0,a1]=e1k cb N call a0 a1:=by kernel_rfl
noncomputable def c81:Code:=D6 Tryz.f81
noncomputable def e9t:Pl:=.d
noncomputable def c3u (cb:Cb) (N:Nat) (call:j4) (v8:Value) (a1:Value) (v1:Value):M CR:=
 cb.bj CR (l8 (o7 false v8) (cb.bv R2 (I7 .u64 a1) fun v11=>
 cb.bv R2 (bn .gtr 23 (.tmp 25) (.tmp 27) v1 v11) fun v12=>
 M.pure (.normal, [v1,a1,v11,v12])) (M.pure (.normal, [undef,undef,undef,undef]))) fun x9 vs10=>l7 x9 (cb.bv CR (q9 v8 (.bool true) (d9 vs10 3)) fun v13=>
 j6 v13 (
 M.pure (.ret (.tuple ⟨[(.int .i64 (.ofNat 0)),(.int .i64 (.ofNat 6))]⟩))) (
 cb.bv CR (I7 .i64 v1) fun v14=>
 M.pure (.ret (.tuple ⟨[v14,(.int .i64 (.ofNat 0))]⟩)))) (fun _=>M.fail) M.fail l6
noncomputable def c6k (cb:Cb) (N:Nat) (call:j4) (v2:Value) (a1:Value) (v1:Value):M CR:=
 cb.bj CR (l8 (o7 false v2) (cb.bv R2 (bn .lss 3 (.tmp 21) (.const (.int .i64 (.ofNat 0))) a1 (.int .i64 (.ofNat 0))) fun v7=>
 M.pure (.normal, [a1,v7])) (M.pure (.normal, [undef,undef]))) fun x5 vs6=>l7 x5 (cb.bv CR (q9 v2 (.bool true) (d9 vs6 1)) fun v8=>
 c3u cb N call v8 a1 v1) (fun _=>M.fail) M.fail l6
noncomputable def d3g (cb:Cb) (N:Nat) (call:j4) (a0:Value) (a1:Value):M CR:=
 cb.bc CR (call 118 [a0]) (fun v0=>
 cb.bv CR (z8 0 v0) fun v1=>
 cb.bv CR (z8 1 v0) fun v2=>
 cb.bv CR (z8 2 v0) fun v3=>
 cb.bv CR (un .not v3) fun v4=>
 j6 v4 (
 M.pure (.ret (.tuple ⟨[(.int .i64 (.ofNat 0)),(.int .i64 (.ofNat 4))]⟩))) (
 c6k cb N call v2 a1 v1)) l6
theorem d8y (cb:Cb) (N:Nat) (call:j4) (a0:Value) (a1:Value):D5 Tryz.prog A9 cb false N call Tryz.f81 c81 e9t [a0,a1]=d3g cb N call a0 a1:=by kernel_rfl
noncomputable def c85:Code:=D6 Tryz.f85
noncomputable def e9T:Pl:=.d
noncomputable def d3d (cb:Cb) (N:Nat) (call:j4) (a0:Value):M CR:=
 cb.bc CR (call 35 [a0]) (fun v0=>
 cb.bv CR (bn .neq 9 (.tmp 4) (.const (.string ⟨⟨[]⟩⟩)) v0 (.string ⟨⟨[]⟩⟩)) fun v1=>
 M.pure (.ret v1)) l6
theorem d7V (cb:Cb) (N:Nat) (call:j4) (a0:Value):D5 Tryz.prog A9 cb false N call Tryz.f85 c85 e9T [a0]=d3d cb N call a0:=by kernel_rfl
noncomputable def c91:Code:=D6 Tryz.f91
noncomputable def f0o:Pl:=(.s none .d (.s none .d (.s none .d (.s none (.s none .d (.s none (.l [14, 15, 16, 5, 17, 18, 19, 20, 21, 22, 23, 24, 25, 26, 2, 27, 13] .d) .d)) .d))))
noncomputable def a5D:List Oper:=J7 c91 7
noncomputable def c4M (call:j4) (u0:Value) (u1:Value) (u2:Value) (u3:Value) (u4:Value) (u5:Value) (u6:Value) (u7:Value) (u8:Value):M R2:=
 M.bind (M.foot (M.pure u0)) fun y0=>
 M.bind (M.foot (J4 y0.1 (some (.int .i64 (.ofNat 4))) none)) fun y1=>
 M.bind (M.foot (H8 1 3 [(0, 1),(1, 1),(2, 1)] [(.string ⟨⟨[56]⟩⟩),(.string ⟨⟨[49, 54]⟩⟩),(.string ⟨⟨[51, 50]⟩⟩)] [(.string ⟨⟨[]⟩⟩),(.string ⟨⟨[]⟩⟩),(.string ⟨⟨[]⟩⟩)])) fun y2=>
 M.bind (M.foot (M.pure u2)) fun y3=>
 M.bind (M.foot (bn .quo 3 (.tmp 20) (.const (.int .i64 (.ofNat 16))) y3.1 (.int .i64 (.ofNat 16)))) fun y4=>
 M.bind (M.foot (F3 1 y2.1 y4.1)) fun y5=>
 M.bind (M.foot (j5 y5.1)) fun y6=>
 M.bind (M.foot (D7 call 125 [y1.1,y6.1])) fun y7=>
 M.guard (E9 a5D (H9 a5D [y0.2,y1.2,y2.2,y3.2,y4.2,y5.2,y6.2,y7.2]) [] [] 0) (M.pure (.normal, [y0.1,y1.1,y2.1,y3.1,y4.1,y5.1,y6.1,y7.1]))
theorem d5q (call:j4) (u0:Value) (u1:Value) (u2:Value) (u3:Value) (u4:Value) (u5:Value) (u6:Value) (u7:Value) (u8:Value):dr call a5D 31 [3, 17, 5, 20, 19, 21, 22, 18, 23] [u0,u1,u2,u3,u4,u5,u6,u7,u8] [17, 18, 19, 20, 21, 22, 23, 24]=c4M call u0 u1 u2 u3 u4 u5 u6 u7 u8:=(F6 _ _ _ _ _ _ _ _).trans (by kernel_rfl)
noncomputable def c0p (cb:Cb) (N:Nat) (call:j4) (v10:Value) (v8:Value) (v9:Value) (vs11:List Value) (xs5:List Value):M R2:=
 cb.bv R2 (bn .quo 3 (.tmp 25) (.const (.int .i64 (.ofNat 8))) v10 (.int .i64 (.ofNat 8))) fun v12=>
 M.pure (.ret, [v8,v9,v10,v10,(d9 vs11 0),(d9 vs11 1),(d9 vs11 2),(d9 vs11 3),(d9 vs11 4),(d9 vs11 5),(d9 vs11 6),(d9 vs11 7),v10,v12,v12,(d9 xs5 15),(d9 xs5 16)])
noncomputable def c1X (cb:Cb) (N:Nat) (call:j4) (xs5:List Value) (v8:Value) (v9:Value) (v10:Value) (vs11:List Value):M R2:=
 cb.bv R2 (bn .add 3 (.tmp 13) (.const (.int .i64 (.ofNat 1))) (d9 xs5 16) (.int .i64 (.ofNat 1))) fun v13=>
 M.pure (.normal, [v8,v9,v10,v10,(d9 vs11 0),(d9 vs11 1),(d9 vs11 2),(d9 vs11 3),(d9 vs11 4),(d9 vs11 5),(d9 vs11 6),(d9 vs11 7),(d9 xs5 12),(d9 xs5 13),(d9 xs5 14),v13,v13])
noncomputable def c2u (cb:Cb) (N:Nat) (call:j4) (v3:Value) (xs5:List Value) (v2:Value) (v8:Value):M R2:=
 cb.bv R2 (F3 1 v3 (d9 xs5 16)) fun v9=>
 cb.bv R2 (j5 v9) fun v10=>
 cb.bj R2 (dr call a5D 31 [3, 17, 5, 20, 19, 21, 22, 18, 23] [v2,(d9 xs5 4),v10,(d9 xs5 7),(d9 xs5 6),(d9 xs5 8),(d9 xs5 9),(d9 xs5 5),(d9 xs5 10)] [17, 18, 19, 20, 21, 22, 23, 24]) fun _ vs11=>
 j6 (d9 vs11 7) (
 c0p cb N call v10 v8 v9 vs11 xs5) (
 c1X cb N call xs5 v8 v9 v10 vs11)
noncomputable def d6K (cb:Cb) (N:Nat) (call:j4) (v8:Value) (xs5:List Value):M R2:=
 M.pure (.exit 0, [v8,(d9 xs5 1),(d9 xs5 2),(d9 xs5 3),(d9 xs5 4),(d9 xs5 5),(d9 xs5 6),(d9 xs5 7),(d9 xs5 8),(d9 xs5 9),(d9 xs5 10),(d9 xs5 11),(d9 xs5 12),(d9 xs5 13),(d9 xs5 14),(d9 xs5 15),(d9 xs5 16)])
noncomputable def c3B (cb:Cb) (N:Nat) (call:j4) (v4:Value) (v3:Value) (v2:Value) (xs5:List Value):M R2:=
 cb.bv R2 (bn .lss 3 (.tmp 13) (.tmp 12) (d9 xs5 16) v4) fun v8=>
 j6 v8 (
 c2u cb N call v3 xs5 v2 v8) (
 d6K cb N call v8 xs5)
noncomputable def c4y (cb:Cb) (N:Nat) (call:j4) (v4:Value) (v3:Value) (v2:Value):M CR:=
 cb.bj CR (cb.lp (c3B cb N call v4 v3 v2) N [undef,undef,undef,undef,undef,undef,undef,undef,undef,undef,undef,undef,undef,undef,(.int .i64 (.ofNat 0)),undef,(.int .i64 (.ofNat 0))]) fun x6 vs7=>
 l7 x6 (M.fail) (fun i14=>l8 (Nat.beq i14 0) (cb.bv CR (J4 v2 none (some (.int .i64 (.ofNat 3)))) fun v15=>
 cb.bv CR (bn .eql 9 (.tmp 29) (.const (.string ⟨⟨[105, 51, 50]⟩⟩)) v15 (.string ⟨⟨[105, 51, 50]⟩⟩)) fun v16=>
 j6 v16 (
 M.pure (.ret (.int .i64 (.ofNat 4)))) (
 M.pure (.ret (.int .i64 (.ofNat 8))))) (M.fail)) (M.pure (.ret (d9 vs7 14))) l6
noncomputable def c5f (cb:Cb) (N:Nat) (call:j4) (a0:Value):M CR:=
 cb.bc CR (call 35 [a0]) (fun v2=>
 cb.bv CR (H8 1 3 [(0, 1),(1, 1),(2, 1)] [(.int .i64 (.ofNat 8)),(.int .i64 (.ofNat 16)),(.int .i64 (.ofNat 32))] [(.int .i64 (.ofNat 0)),(.int .i64 (.ofNat 0)),(.int .i64 (.ofNat 0))]) fun v3=>
 cb.bv CR (H6 v3) fun v4=>
 c4y cb N call v4 v3 v2) l6
noncomputable def d3H (cb:Cb) (N:Nat) (call:j4) (a0:Value):M CR:=
 cb.bc CR (call 124 [a0]) (fun v0=>
 cb.bv CR (un .not v0) fun v1=>
 j6 v1 (
 M.pure (.ret (.int .i64 (.ofNat 0)))) (
 c5f cb N call a0)) l6
theorem d7I (cb:Cb) (N:Nat) (call:j4) (a0:Value):D5 Tryz.prog A9 cb false N call Tryz.f91 c91 f0o [a0]=d3H cb N call a0:=by kernel_rfl
noncomputable def c92:Code:=D6 Tryz.f92
noncomputable def e9I:Pl:=(.s none .d (.s none (.s none .d (.s none (.s (some [5, 6, 7, 8, 9, 4]) .d (.s none .d (.s none .d (.s none .d (.s none .d (.s none .d (.s none .d (.s none .d (.s (some [17, 18, 19, 16]) .d .d))))))))) .d)) .d))
noncomputable def c6P (cb:Cb) (N:Nat) (call:j4) (a0:Value) (v2:Value) (v3:Value) (v4:Value):M R2:=
 cb.bv R2 (bn .eql 22 (.tmp 3) (.const (.int .i64 (.ofNat 64527))) a0 (.int .i64 (.ofNat 64527))) fun v5=>
 j6 v5 (
 M.pure (.normal, [v2,v3,v4,v5,undef,v5])) (
 cb.bv R2 (bn .eql 22 (.tmp 3) (.const (.int .i64 (.ofNat 64529))) a0 (.int .i64 (.ofNat 64529))) fun v6=>
 M.pure (.normal, [v2,v3,v4,v5,v6,v6]))
noncomputable def c0Q (cb:Cb) (N:Nat) (call:j4) (a0:Value) (v2:Value) (v3:Value):M R2:=
 cb.bv R2 (bn .eql 22 (.tmp 3) (.const (.int .i64 (.ofNat 64528))) a0 (.int .i64 (.ofNat 64528))) fun v4=>
 j6 v4 (
 M.pure (.normal, [v2,v3,v4,undef,undef,v4])) (
 c6P cb N call a0 v2 v3 v4)
noncomputable def c1N (cb:Cb) (N:Nat) (call:j4) (a0:Value) (v2:Value):M R2:=
 cb.bv R2 (bn .eql 22 (.tmp 3) (.const (.int .i64 (.ofNat 38))) a0 (.int .i64 (.ofNat 38))) fun v3=>
 j6 v3 (
 M.pure (.normal, [v2,v3,undef,undef,undef,v3])) (
 c0Q cb N call a0 v2 v3)
noncomputable def c3V (cb:Cb) (N:Nat) (call:j4) (a0:Value) (v12:Value):M R2:=
 cb.bv R2 (bn .eql 22 (.tmp 3) (.const (.int .i64 (.ofNat 64))) a0 (.int .i64 (.ofNat 64))) fun v13=>
 j6 v13 (
 M.pure (.normal, [v12,v13,undef,v13])) (
 cb.bv R2 (bn .eql 22 (.tmp 3) (.const (.int .i64 (.ofNat 64523))) a0 (.int .i64 (.ofNat 64523))) fun v14=>
 M.pure (.normal, [v12,v13,v14,v14]))
noncomputable def c1l (cb:Cb) (N:Nat) (call:j4) (a0:Value):M CR:=
 cb.bv CR (bn .eql 22 (.tmp 3) (.const (.int .i64 (.ofNat 64521))) a0 (.int .i64 (.ofNat 64521))) fun v17=>
 j6 v17 (
 M.pure (.ret (.int .i64 (.ofNat 16)))) (
 M.pure (.ret (.int .i64 (.ofNat 0))))
noncomputable def c7P (cb:Cb) (N:Nat) (call:j4) (a0:Value):M CR:=
 cb.bv CR (bn .eql 22 (.tmp 3) (.const (.int .i64 (.ofNat 64520))) a0 (.int .i64 (.ofNat 64520))) fun v16=>
 j6 v16 (
 M.pure (.ret (.int .i64 (.ofNat 15)))) (
 c1l cb N call a0)
noncomputable def c7A (cb:Cb) (N:Nat) (call:j4) (a0:Value):M CR:=
 cb.bv CR (bn .eql 22 (.tmp 3) (.const (.int .i64 (.ofNat 64522))) a0 (.int .i64 (.ofNat 64522))) fun v15=>
 j6 v15 (
 M.pure (.ret (.int .i64 (.ofNat 14)))) (
 c7P cb N call a0)
noncomputable def c1e (cb:Cb) (N:Nat) (call:j4) (a0:Value):M CR:=
 cb.bj CR (cb.bv R2 (bn .eql 22 (.tmp 3) (.const (.int .i64 (.ofNat 63))) a0 (.int .i64 (.ofNat 63))) fun v12=>
 j6 v12 (
 M.pure (.normal, [v12,undef,undef,v12])) (
 c3V cb N call a0 v12)) fun x10 vs11=>
 l7 x10 (j6 (d9 vs11 3) (
 M.pure (.ret (.int .i64 (.ofNat 13)))) (
 c7A cb N call a0)) (fun _=>M.fail) (M.fail) l6
noncomputable def c2J (cb:Cb) (N:Nat) (call:j4) (a0:Value):M CR:=
 cb.bv CR (bn .eql 22 (.tmp 3) (.const (.int .i64 (.ofNat 64525))) a0 (.int .i64 (.ofNat 64525))) fun v9=>
 j6 v9 (
 M.pure (.ret (.int .i64 (.ofNat 12)))) (
 c1e cb N call a0)
noncomputable def c3t (cb:Cb) (N:Nat) (call:j4) (a0:Value):M CR:=
 cb.bv CR (bn .eql 22 (.tmp 3) (.const (.int .i64 (.ofNat 64524))) a0 (.int .i64 (.ofNat 64524))) fun v8=>
 j6 v8 (
 M.pure (.ret (.int .i64 (.ofNat 11)))) (
 c2J cb N call a0)
noncomputable def b5f (cb:Cb) (N:Nat) (call:j4) (a0:Value):M CR:=
 cb.bv CR (bn .eql 22 (.tmp 3) (.const (.int .i64 (.ofNat 64526))) a0 (.int .i64 (.ofNat 64526))) fun v7=>
 j6 v7 (
 M.pure (.ret (.int .i64 (.ofNat 10)))) (
 c3t cb N call a0)
noncomputable def d5n (cb:Cb) (N:Nat) (call:j4) (a0:Value):M CR:=
 cb.bj CR (cb.bv R2 (bn .eql 22 (.tmp 3) (.const (.int .i64 (.ofNat 37))) a0 (.int .i64 (.ofNat 37))) fun v2=>
 j6 v2 (
 M.pure (.normal, [v2,undef,undef,undef,undef,v2])) (
 c1N cb N call a0 v2)) fun x0 vs1=>
 l7 x0 (j6 (d9 vs1 5) (
 M.pure (.ret (.int .i64 (.ofNat 9)))) (
 b5f cb N call a0)) (fun _=>M.fail) (M.fail) l6
theorem d7J (cb:Cb) (N:Nat) (call:j4) (a0:Value):D5 Tryz.prog A9 cb false N call Tryz.f92 c92 e9I [a0]=d5n cb N call a0:=by kernel_rfl
noncomputable def c94:Code:=D6 Tryz.f94
noncomputable def e9B:Pl:=(.s none .d (.s none .d (.s none (.s none .d (.s none (.l [7, 8, 11, 12, 3, 9, 10, 4] .d) .d)) .d)))
noncomputable def c6M (cb:Cb) (N:Nat) (call:j4) (xs1:List Value) (v4:Value):M R2:=
 cb.bv R2 (bn .add 3 (.tmp 11) (.const (.int .i64 (.ofNat 1))) (d9 xs1 4) (.int .i64 (.ofNat 1))) fun v5=>
 cb.bv R2 (bn .quo 3 (.tmp 9) (.const (.int .i64 (.ofNat 2))) (d9 xs1 7) (.int .i64 (.ofNat 2))) fun v6=>
 M.pure (.normal, [(d9 xs1 7),v4,(d9 xs1 4),v5,v5,(d9 xs1 7),v6,v6])
noncomputable def c6N (cb:Cb) (N:Nat) (call:j4) (xs1:List Value):M R2:=
 cb.bv R2 (bn .gtr 3 (.tmp 7) (.const (.int .i64 (.ofNat 1))) (d9 xs1 7) (.int .i64 (.ofNat 1))) fun v4=>
 j6 v4 (
 c6M cb N call xs1 v4) (
 M.pure (.exit 0, [(d9 xs1 7),v4,(d9 xs1 2),(d9 xs1 3),(d9 xs1 4),(d9 xs1 5),(d9 xs1 6),(d9 xs1 7)]))
noncomputable def d3w (cb:Cb) (N:Nat) (call:j4) (a0:Value):M CR:=
 cb.bc CR (call 91 [a0]) (fun v0=>
 cb.bj CR (cb.lp (c6N cb N call) N [undef,undef,undef,undef,(.int .i64 (.ofNat 0)),undef,undef,v0]) fun x2 vs3=>
 l7 x2 (M.fail) (fun i7=>l8 (Nat.beq i7 0) (M.pure (.ret (d9 vs3 4))) (M.fail)) (M.fail) l6) l6
theorem d8f (cb:Cb) (N:Nat) (call:j4) (a0:Value):D5 Tryz.prog A9 cb false N call Tryz.f94 c94 e9B [a0]=d3w cb N call a0:=by kernel_rfl
noncomputable def e8g:Code:=D6 Tryz.f104
noncomputable def e3o:Pl:=.d
noncomputable def b3P (cb:Cb) (N:Nat) (call:j4) (v30:Value) (a1:Value) (a0:Value):M CR:=
 cb.bj CR (l8 (o7 true v30) (cb.bv R2 (bn .add 3 (.tmp 53) (.const (.int .i64 (.ofNat 2))) a1 (.int .i64 (.ofNat 2))) fun v33=>
 cb.bv R2 (J4 a0 (some a1) (some v33)) fun v34=>
 cb.bv R2 (bn .eql 9 (.tmp 55) (.const (.string ⟨⟨[40, 59]⟩⟩)) v34 (.string ⟨⟨[40, 59]⟩⟩)) fun v35=>
 M.pure (.normal, [a0,a1,a1,v33,v34,v35])) (M.pure (.normal, [undef,undef,undef,undef,undef,undef]))) fun x31 vs32=>l7 x31 (cb.bv CR (q9 v30 (d9 vs32 5) (.bool false)) fun v36=>
 j6 v36 (
 cb.bc CR (call 134 [a0,a1]) (fun v37=>
 M.pure (.ret v37)) l6) (
 M.pure (.ret a1))) (fun _=>M.fail) M.fail l6
noncomputable def b2S (cb:Cb) (N:Nat) (call:j4) (a1:Value) (a0:Value):M CR:=
 cb.bv CR (bn .add 3 (.tmp 45) (.const (.int .i64 (.ofNat 1))) a1 (.int .i64 (.ofNat 1))) fun v28=>
 cb.bv CR (K7 a0) fun v29=>
 cb.bv CR (bn .lss 3 (.tmp 46) (.tmp 48) v28 v29) fun v30=>
 b3P cb N call v30 a1 a0
noncomputable def b2G (cb:Cb) (N:Nat) (call:j4) (v20:Value) (a1:Value) (a0:Value):M CR:=
 cb.bj CR (l8 (o7 true v20) (cb.bv R2 (bn .add 3 (.tmp 37) (.const (.int .i64 (.ofNat 2))) a1 (.int .i64 (.ofNat 2))) fun v23=>
 cb.bv R2 (J4 a0 (some a1) (some v23)) fun v24=>
 cb.bv R2 (bn .eql 9 (.tmp 39) (.const (.string ⟨⟨[59, 59]⟩⟩)) v24 (.string ⟨⟨[59, 59]⟩⟩)) fun v25=>
 M.pure (.normal, [a0,a1,a1,v23,v24,v25])) (M.pure (.normal, [undef,undef,undef,undef,undef,undef]))) fun x21 vs22=>l7 x21 (cb.bv CR (q9 v20 (d9 vs22 5) (.bool false)) fun v26=>
 j6 v26 (
 cb.bc CR (call 133 [a0,a1]) (fun v27=>
 M.pure (.ret v27)) l6) (
 b2S cb N call a1 a0)) (fun _=>M.fail) M.fail l6
noncomputable def b5x (cb:Cb) (N:Nat) (call:j4) (a1:Value) (a0:Value):M CR:=
 cb.bv CR (bn .add 3 (.tmp 29) (.const (.int .i64 (.ofNat 1))) a1 (.int .i64 (.ofNat 1))) fun v18=>
 cb.bv CR (K7 a0) fun v19=>
 cb.bv CR (bn .lss 3 (.tmp 30) (.tmp 32) v18 v19) fun v20=>
 b2G cb N call v20 a1 a0
noncomputable def b4T (cb:Cb) (N:Nat) (call:j4) (v11:Value) (a0:Value) (a1:Value):M CR:=
 cb.bj CR (l8 (o7 false v11) (cb.bv R2 (J5 a0 a1) fun v14=>
 cb.bv R2 (bn .eql 5 (.tmp 24) (.const (.int .u8 (.ofNat 13))) v14 (.int .u8 (.ofNat 13))) fun v15=>
 M.pure (.normal, [a0,a1,v14,v15])) (M.pure (.normal, [undef,undef,undef,undef]))) fun x12 vs13=>l7 x12 (cb.bv CR (q9 v11 (.bool true) (d9 vs13 3)) fun v16=>
 j6 v16 (
 cb.bv CR (bn .add 3 (.tmp 27) (.const (.int .i64 (.ofNat 1))) a1 (.int .i64 (.ofNat 1))) fun v17=>
 M.pure (.ret v17)) (
 b5x cb N call a1 a0)) (fun _=>M.fail) M.fail l6
noncomputable def b2K (cb:Cb) (N:Nat) (call:j4) (v1:Value) (a0:Value) (a1:Value):M CR:=
 cb.bj CR (l8 (o7 false v1) (cb.bv R2 (J5 a0 a1) fun v4=>
 cb.bv R2 (bn .eql 5 (.tmp 12) (.const (.int .u8 (.ofNat 9))) v4 (.int .u8 (.ofNat 9))) fun v5=>
 M.pure (.normal, [a0,a1,v4,v5])) (M.pure (.normal, [undef,undef,undef,undef]))) fun x2 vs3=>l7 x2 (cb.bv CR (q9 v1 (.bool true) (d9 vs3 3)) fun v6=>
 cb.bj CR (l8 (o7 false v6) (cb.bv R2 (J5 a0 a1) fun v9=>
 cb.bv R2 (bn .eql 5 (.tmp 18) (.const (.int .u8 (.ofNat 10))) v9 (.int .u8 (.ofNat 10))) fun v10=>
 M.pure (.normal, [a0,a1,v9,v10])) (M.pure (.normal, [undef,undef,undef,undef]))) fun x7 vs8=>l7 x7 (cb.bv CR (q9 v6 (.bool true) (d9 vs8 3)) fun v11=>
 b4T cb N call v11 a0 a1) (fun _=>M.fail) M.fail l6) (fun _=>M.fail) M.fail l6
noncomputable def c4h (cb:Cb) (N:Nat) (call:j4) (a0:Value) (a1:Value):M CR:=
 cb.bv CR (J5 a0 a1) fun v0=>
 cb.bv CR (bn .eql 5 (.tmp 7) (.const (.int .u8 (.ofNat 32))) v0 (.int .u8 (.ofNat 32))) fun v1=>
 b2K cb N call v1 a0 a1
theorem d3D (cb:Cb) (N:Nat) (call:j4) (a0:Value) (a1:Value):D5 Tryz.prog A9 cb false N call Tryz.f104 e8g e3o [a0,a1]=c4h cb N call a0 a1:=by kernel_rfl
noncomputable def e8F:Code:=D6 Tryz.f105
noncomputable def e4J:Pl:=(.s none .d (.s none .d (.s none .d (.s none .d (.s none .d (.s none .d (.s none (.s none (.l [49, 50, 51, 52, 53, 54, 55, 56, 57, 58, 59, 60, 10] .d) .d) .d)))))))
noncomputable def b2H (cb:Cb) (N:Nat) (call:j4) (a1:Value) (v0:Value):M CR:=
 cb.bv CR (H7 [(0, 1),(1, 1)] [(.int .i64 (.ofNat 0)),a1] [(.int .i64 (.ofNat 0)),(.int .i64 (.ofNat 0)),(.string ⟨⟨[]⟩⟩)]) fun v3=>
 cb.bv CR (bn .add 3 (.tmp 18) (.const (.int .i64 (.ofNat 1))) a1 (.int .i64 (.ofNat 1))) fun v4=>
 cb.bv CR (r9 3 v0 v3) fun v5=>
 K5 v0 fun ad7=>cb.bv CR (M.bind (loadN ad7 3) fun q=>M.pure (.agg ⟨q⟩)) fun v6=>
 M.pure (.ret (.tuple ⟨[v6,v4,(.int .i64 (.ofNat 0))]⟩))
noncomputable def b1Q (cb:Cb) (N:Nat) (call:j4) (a1:Value) (v0:Value):M CR:=
 cb.bv CR (H7 [(0, 1),(1, 1)] [(.int .i64 (.ofNat 1)),a1] [(.int .i64 (.ofNat 0)),(.int .i64 (.ofNat 0)),(.string ⟨⟨[]⟩⟩)]) fun v9=>
 cb.bv CR (bn .add 3 (.tmp 24) (.const (.int .i64 (.ofNat 1))) a1 (.int .i64 (.ofNat 1))) fun v10=>
 cb.bv CR (r9 3 v0 v9) fun v11=>
 K5 v0 fun ad13=>cb.bv CR (M.bind (loadN ad13 3) fun q=>M.pure (.agg ⟨q⟩)) fun v12=>
 M.pure (.ret (.tuple ⟨[v12,v10,(.int .i64 (.ofNat 0))]⟩))
noncomputable def c8p (cb:Cb) (N:Nat) (call:j4) (v0:Value) (v16:Value) (v17:Value):M CR:=
 cb.bv CR (H7 [] [] [(.int .i64 (.ofNat 0)),(.int .i64 (.ofNat 0)),(.string ⟨⟨[]⟩⟩)]) fun v19=>
 cb.bv CR (r9 3 v0 v19) fun v20=>
 K5 v0 fun ad22=>cb.bv CR (M.bind (loadN ad22 3) fun q=>M.pure (.agg ⟨q⟩)) fun v21=>
 M.pure (.ret (.tuple ⟨[v21,v16,v17]⟩))
noncomputable def b2B (cb:Cb) (N:Nat) (call:j4) (a1:Value) (v16:Value) (a0:Value) (v0:Value):M CR:=
 cb.bv CR (bn .add 3 (.tmp 41) (.const (.int .i64 (.ofNat 1))) a1 (.int .i64 (.ofNat 1))) fun v23=>
 cb.bv CR (bn .sub 3 (.tmp 43) (.const (.int .i64 (.ofNat 1))) v16 (.int .i64 (.ofNat 1))) fun v24=>
 cb.bv CR (J4 a0 (some v23) (some v24)) fun v25=>
 cb.bv CR (H7 [(0, 1),(1, 1),(2, 1)] [(.int .i64 (.ofNat 3)),a1,v25] [(.int .i64 (.ofNat 0)),(.int .i64 (.ofNat 0)),(.string ⟨⟨[]⟩⟩)]) fun v26=>
 cb.bv CR (r9 3 v0 v26) fun v27=>
 K5 v0 fun ad29=>cb.bv CR (M.bind (loadN ad29 3) fun q=>M.pure (.agg ⟨q⟩)) fun v28=>
 M.pure (.ret (.tuple ⟨[v28,v16,(.int .i64 (.ofNat 0))]⟩))
noncomputable def b8t (cb:Cb) (N:Nat) (call:j4) (a0:Value) (a1:Value) (v0:Value):M CR:=
 cb.bc CR (call 135 [a0,a1]) (fun v15=>
 cb.bv CR (z8 0 v15) fun v16=>
 cb.bv CR (z8 1 v15) fun v17=>
 cb.bv CR (bn .neq 41 (.tmp 34) (.const (.int .i64 (.ofNat 0))) v17 (.int .i64 (.ofNat 0))) fun v18=>
 j6 v18 (
 c8p cb N call v0 v16 v17) (
 b2B cb N call a1 v16 a0 v0)) l6
noncomputable def b5Q (cb:Cb) (N:Nat) (call:j4) (xs30:List Value) (a0:Value) (v33:Value) (v34:Value) (vs36:List Value) (v39:Value):M R2:=
 cb.bv R2 (bn .add 3 (.tmp 59) (.const (.int .i64 (.ofNat 1))) (d9 xs30 12) (.int .i64 (.ofNat 1))) fun v40=>
 M.pure (.normal, [(d9 xs30 12),a0,v33,v34,v34,(d9 vs36 0),(d9 vs36 1),(d9 vs36 2),(d9 vs36 3),v39,(d9 xs30 12),v40,v40])
noncomputable def c9N (cb:Cb) (N:Nat) (call:j4) (xs30:List Value) (a0:Value) (v33:Value) (v34:Value) (vs36:List Value) (v39:Value):M R2:=
 M.pure (.exit 0, [(d9 xs30 12),a0,v33,v34,v34,(d9 vs36 0),(d9 vs36 1),(d9 vs36 2),(d9 vs36 3),v39,(d9 xs30 10),(d9 xs30 11),(d9 xs30 12)])
noncomputable def b5l (cb:Cb) (N:Nat) (call:j4) (xs30:List Value) (v33:Value) (a0:Value):M R2:=
 cb.bv R2 (bn .lss 3 (.tmp 49) (.tmp 51) (d9 xs30 12) v33) fun v34=>
 cb.bj R2 (l8 (o7 true v34) (cb.bv R2 (J5 a0 (d9 xs30 12)) fun v37=>
 cb.bc R2 (call 136 [v37]) (fun v38=>
 M.pure (.normal, [a0,(d9 xs30 12),v37,v38])) l6) (M.pure (.normal, [undef,undef,undef,undef]))) fun x35 vs36=>l7 x35 (cb.bv R2 (q9 v34 (d9 vs36 3) (.bool false)) fun v39=>
 j6 v39 (
 b5Q cb N call xs30 a0 v33 v34 vs36 v39) (
 c9N cb N call xs30 a0 v33 v34 vs36 v39)) (fun _=>M.fail) M.fail l6
noncomputable def b2q (cb:Cb) (N:Nat) (call:j4) (a0:Value) (xs30:List Value):M R2:=
 cb.bv R2 (K7 a0) fun v33=>
 b5l cb N call xs30 v33 a0
noncomputable def c9i (cb:Cb) (N:Nat) (call:j4) (v0:Value) (a1:Value):M CR:=
 cb.bv CR (H7 [] [] [(.int .i64 (.ofNat 0)),(.int .i64 (.ofNat 0)),(.string ⟨⟨[]⟩⟩)]) fun v43=>
 cb.bv CR (r9 3 v0 v43) fun v44=>
 K5 v0 fun ad46=>cb.bv CR (M.bind (loadN ad46 3) fun q=>M.pure (.agg ⟨q⟩)) fun v45=>
 M.pure (.ret (.tuple ⟨[v45,a1,(.int .i64 (.ofNat 4))]⟩))
noncomputable def b9R (cb:Cb) (N:Nat) (call:j4) (a0:Value) (a1:Value) (vs32:List Value) (v0:Value):M CR:=
 cb.bv CR (J4 a0 (some a1) (some (d9 vs32 12))) fun v47=>
 cb.bv CR (H7 [(0, 1),(1, 1),(2, 1)] [(.int .i64 (.ofNat 2)),a1,v47] [(.int .i64 (.ofNat 0)),(.int .i64 (.ofNat 0)),(.string ⟨⟨[]⟩⟩)]) fun v48=>
 cb.bv CR (r9 3 v0 v48) fun v49=>
 K5 v0 fun ad51=>cb.bv CR (M.bind (loadN ad51 3) fun q=>M.pure (.agg ⟨q⟩)) fun v50=>
 M.pure (.ret (.tuple ⟨[v50,(d9 vs32 12),(.int .i64 (.ofNat 0))]⟩))
noncomputable def a8n (cb:Cb) (N:Nat) (call:j4) (a0:Value) (a1:Value) (v0:Value):M CR:=
 cb.bj CR (cb.lp (b2q cb N call a0) N [undef,undef,undef,undef,undef,undef,undef,undef,undef,undef,undef,undef,a1]) fun x31 vs32=>
 l7 x31 (M.fail) (fun i41=>l8 (Nat.beq i41 0) (cb.bv CR (bn .eql 3 (.tmp 61) (.tmp 62) (d9 vs32 12) a1) fun v42=>
 j6 v42 (
 c9i cb N call v0 a1) (
 b9R cb N call a0 a1 vs32 v0)) (M.fail)) (M.fail) l6
noncomputable def a7T (cb:Cb) (N:Nat) (call:j4) (v1:Value) (a0:Value) (a1:Value) (v0:Value):M CR:=
 cb.bv CR (bn .eql 5 (.tmp 26) (.const (.int .u8 (.ofNat 34))) v1 (.int .u8 (.ofNat 34))) fun v14=>
 j6 v14 (
 b8t cb N call a0 a1 v0) (
 a8n cb N call a0 a1 v0)
noncomputable def a6F (cb:Cb) (N:Nat) (call:j4) (v1:Value) (a1:Value) (v0:Value) (a0:Value):M CR:=
 cb.bv CR (bn .eql 5 (.tmp 20) (.const (.int .u8 (.ofNat 41))) v1 (.int .u8 (.ofNat 41))) fun v8=>
 j6 v8 (
 b1Q cb N call a1 v0) (
 a7T cb N call v1 a0 a1 v0)
noncomputable def c1p (cb:Cb) (N:Nat) (call:j4) (a0:Value) (a1:Value):M CR:=
 cb.bv CR (J6 [(.int .i64 (.ofNat 0)),(.int .i64 (.ofNat 0)),(.string ⟨⟨[]⟩⟩)]) fun v0=>
 cb.bv CR (J5 a0 a1) fun v1=>
 cb.bv CR (bn .eql 5 (.tmp 14) (.const (.int .u8 (.ofNat 40))) v1 (.int .u8 (.ofNat 40))) fun v2=>
 j6 v2 (
 b2H cb N call a1 v0) (
 a6F cb N call v1 a1 v0 a0)
theorem d4A (cb:Cb) (N:Nat) (call:j4) (a0:Value) (a1:Value):D5 Tryz.prog A9 cb false N call Tryz.f105 e8F e4J [a0,a1]=c1p cb N call a0 a1:=by kernel_rfl
end Go.Proofs.YtmomonnlmbljoaaGreatDoor
end
