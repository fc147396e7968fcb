import Derived.Test.YtmomonnlmbljoaaGreatDoorQak
section
namespace Go.Proofs.YtmomonnlmbljoaaGreatDoor
open Go.V Go.Proofs
set_option maxRecDepth 100000
set_option linter.unusedVariables false
noncomputable def c3:Code:=a0x Tryz.f3
noncomputable def pl3:Pl:=.d
noncomputable def b4l:List Oper:=a6b c3 3
noncomputable def c0u (call:j5) (u0:Value) (u1:Value) (u2:Value) (u3:Value) (u4:Value) (u5:Value) (u6:Value) (u7:Value) (u8:Value) (u9:Value) (u10:Value) (u11:Value) (u12:Value) (u13:Value) (u14:Value) (u15:Value) (u16:Value):M R2:=
 M.bind (M.foot (a3p 9 u1)) fun y0=>
 M.bind (M.foot (a2g call 12 [y0.1])) fun y1=>
 M.bind (M.foot (a3p 9 u1)) fun y2=>
 M.bind (M.foot (a2g call 13 [y2.1])) fun y3=>
 M.bind (M.foot (bn .eql 9 (.tmp 11) (.tmp 13) y1.1 y3.1)) fun y4=>
 M.bind (M.foot (M.pure y4.1)) fun y5=>
 M.bind (bcase (O7 true y5.1) (M.foot (a3p 3 u7)) (M.pure (undef,([], [])))) fun y6=>
 M.bind (bcase (O7 true y5.1) (M.foot (a2g call 14 [y6.1])) (M.pure (undef,([], [])))) fun y7=>
 M.bind (bcase (O7 true y5.1) (M.foot (a3p 3 u7)) (M.pure (undef,([], [])))) fun y8=>
 M.bind (bcase (O7 true y5.1) (M.foot (a2g call 15 [y8.1])) (M.pure (undef,([], [])))) fun y9=>
 M.bind (bcase (O7 true y5.1) (M.foot (bn .eql 9 (.tmp 17) (.tmp 19) y7.1 y9.1)) (M.pure (undef,([], [])))) fun y10=>
 M.bind (M.foot (X0 y5.1 y10.1 (.bool false))) fun y11=>
 M.bind (M.foot (M.pure y11.1)) fun y12=>
 M.bind (bcase (O7 true y12.1) (M.foot (a2g call 11 [])) (M.pure (undef,([], [])))) fun y13=>
 M.bind (M.foot (X0 y12.1 y13.1 (.bool false))) fun y14=>
 M.bind (M.foot (M.pure y14.1)) fun y15=>
 M.guard (a1b b4l (a2I b4l [y0.2,y1.2,y2.2,y3.2,y4.2,y5.2,y6.2,y7.2,y8.2,y9.2,y10.2,y11.2,y12.2,y13.2,y14.2,y15.2]) [] [] 0) (M.pure (.normal, [y0.1,y1.1,y2.1,y3.1,y4.1,y5.1,y6.1,y7.1,y8.1,y9.1,y10.1,y11.1,y12.1,y13.1,y14.1,y15.1]))
theorem b4c (call:j5) (u0:Value) (u1:Value) (u2:Value) (u3:Value) (u4:Value) (u5:Value) (u6:Value) (u7:Value) (u8:Value) (u9:Value) (u10:Value) (u11:Value) (u12:Value) (u13:Value) (u14:Value) (u15:Value) (u16:Value):dr call b4l 25 [10, 2, 12, 11, 13, 14, 16, 3, 18, 17, 19, 15, 20, 21, 22, 23, 24] [u0,u1,u2,u3,u4,u5,u6,u7,u8,u9,u10,u11,u12,u13,u14,u15,u16] [10, 11, 12, 13, 14, 15, 16, 17, 18, 19, 20, 21, 22, 23, 24, 4]=c0u call u0 u1 u2 u3 u4 u5 u6 u7 u8 u9 u10 u11 u12 u13 u14 u15 u16:=(a4Q _ _ _ _ _ _ _ _).trans (by kernel_rfl)
theorem c5W {F:List a3t} (hl:M4 F=16) (h:a4e [(0, 2),(1, 2),(6, 8),(7, 8)] F=true):a1b b4l (a2I b4l F) [] [] 0=true:=a5C (L:=[(0, 2),(1, 2),(6, 8),(7, 8)]) (by kernel_rfl) (by kernel_rfl) hl h
noncomputable def c1c (cb:Cb) (N:Nat) (call:j5) (v0:Value) (v1:Value):M CR:=
 cb.bj CR (dr call b4l 25 [10, 2, 12, 11, 13, 14, 16, 3, 18, 17, 19, 15, 20, 21, 22, 23, 24] [undef,v0,undef,undef,undef,undef,undef,v1,undef,undef,undef,undef,undef,undef,undef,undef,undef] [10, 11, 12, 13, 14, 15, 16, 17, 18, 19, 20, 21, 22, 23, 24, 4]) fun _ vs7=>
 M.pure (.ret (d9 vs7 15))
noncomputable def sh3 (cb:Cb) (N:Nat) (call:j5) (a0:Value) (a1:Value):M CR:=
 cb.bv CR (a6X a0) fun v0=>
 cb.bv CR (a6X a1) fun v1=>
 cb.bv CR (a3p 9 v0) fun v2=>
 cb.bv CR (a2p 9 1 [(0, 9)] [v2] [(.int .i64 (.ofNat 0)),(.int .i64 (.ofNat 0)),(.int .i64 (.ofNat 0)),(.int .u64 (.ofNat 0)),(.int .i64 (.ofNat 0)),(.int .i64 (.ofNat 0)),(.int .i64 (.ofNat 0)),(.slice none 0 0),(.slice none 0 0)]) fun v3=>
 cb.bc CR (call 10 [v3]) (fun v4=>
 cb.bv CR (un .not v4) fun v5=>
 K3 v5 (
 cb.bc CR (call 11 []) (fun v6=>
 M.pure (.ret v6)) N7) (
 c1c cb N call v0 v1)) N7
theorem d0e (cb:Cb) (N:Nat) (call:j5) (a0:Value) (a1:Value):a0i Tryz.prog Q6 cb false N call Tryz.f3 c3 pl3 [a0,a1]=sh3 cb N call a0 a1:=by kernel_rfl
noncomputable def c4:Code:=a0x Tryz.f4
noncomputable def pl4:Pl:=.d
noncomputable def e2G (cb:Cb) (N:Nat) (call:j5) (v1:Value) (a0:Value):M CR:=
 cb.bj CR (bcase (O7 false v1) (cb.bc R2 (call 17 [a0]) (fun v4=>
 cb.bc R2 (call 18 [a0]) (fun v5=>
 cb.bc R2 (call 16 [v4,v5]) (fun v6=>
 M.pure (.normal, [a0,v4,a0,v5,v6])) N7) N7) N7) (M.pure (.normal, [undef,undef,undef,undef,undef]))) fun x2 vs3=>M5 x2 (cb.bv CR (X0 v1 (.bool true) (d9 vs3 4)) fun v7=>
 cb.bj CR (bcase (O7 true v7) (cb.bc R2 (call 11 []) (fun v10=>
 M.pure (.normal, [v10])) N7) (M.pure (.normal, [undef]))) fun x8 vs9=>M5 x8 (cb.bv CR (X0 v7 (d9 vs9 0) (.bool false)) fun v11=>
 M.pure (.ret v11)) (fun _=>M.fail) M.fail N7) (fun _=>M.fail) M.fail N7
noncomputable def sh4 (cb:Cb) (N:Nat) (call:j5) (a0:Value):M CR:=
 cb.bc CR (call 10 [a0]) (fun v0=>
 cb.bv CR (un .not v0) fun v1=>
 e2G cb N call v1 a0) N7
theorem d0R (cb:Cb) (N:Nat) (call:j5) (a0:Value):a0i Tryz.prog Q6 cb false N call Tryz.f4 c4 pl4 [a0]=sh4 cb N call a0:=by kernel_rfl
noncomputable def c10:Code:=a0x Tryz.f10
noncomputable def e1u:Pl:=(.s none .d (.s none .d (.s none (.s none .d (.s none (.l [7, 8, 9, 10, 13, 14, 15, 16, 17, 18, 19, 20, 21, 22, 23, 24, 25, 26, 27, 28, 2, 11, 12, 3] .d) .d)) .d)))
noncomputable def b5P (cb:Cb) (N:Nat) (call:j5) (xs2:List Value) (a0:Value) (v5:Value) (v6:Value) (v7:Value) (v8:Value) (v9:Value) (v10:Value) (v11:Value) (vs13:List Value) (v19:Value):M R2:=
 M.pure (.ret, [(d9 xs2 23),a0,v5,v6,a0,(d9 xs2 23),v7,v8,v9,v10,v11,v11,(d9 vs13 0),(d9 vs13 1),(d9 vs13 2),(d9 vs13 3),(d9 vs13 4),(d9 vs13 5),(d9 vs13 6),v19,(.bool false),(d9 xs2 21),(d9 xs2 22),(d9 xs2 23)])
noncomputable def b5I (cb:Cb) (N:Nat) (call:j5) (xs2:List Value) (a0:Value) (v5:Value) (v6:Value) (v7:Value) (v8:Value) (v9:Value) (v10:Value) (v11:Value) (vs13:List Value) (v19:Value):M R2:=
 cb.bv R2 (bn .add 3 (.tmp 11) (.const (.int .i64 (.ofNat 1))) (d9 xs2 23) (.int .i64 (.ofNat 1))) fun v20=>
 M.pure (.normal, [(d9 xs2 23),a0,v5,v6,a0,(d9 xs2 23),v7,v8,v9,v10,v11,v11,(d9 vs13 0),(d9 vs13 1),(d9 vs13 2),(d9 vs13 3),(d9 vs13 4),(d9 vs13 5),(d9 vs13 6),v19,(d9 xs2 20),(d9 xs2 23),v20,v20])
noncomputable def b5N (cb:Cb) (N:Nat) (call:j5) (v11:Value) (a0:Value) (xs2:List Value) (v5:Value) (v6:Value) (v7:Value) (v8:Value) (v9:Value) (v10:Value):M R2:=
 cb.bj R2 (bcase (O7 false v11) (cb.bv R2 (a5I 9 a0 (d9 xs2 23)) fun v14=>
 cb.bv R2 (xFA 7 v14) fun v15=>
 cb.bv R2 (K5 v15) fun v16=>
 cb.bv R2 (a4q v16) fun v17=>
 cb.bv R2 (bn .gtr 3 (.tmp 26) (.const (.int .i64 (.ofNat 20))) v17 (.int .i64 (.ofNat 20))) fun v18=>
 M.pure (.normal, [a0,(d9 xs2 23),v14,v15,v16,v17,v18])) (M.pure (.normal, [undef,undef,undef,undef,undef,undef,undef]))) fun x12 vs13=>M5 x12 (cb.bv R2 (X0 v11 (.bool true) (d9 vs13 6)) fun v19=>
 K3 v19 (
 b5P cb N call xs2 a0 v5 v6 v7 v8 v9 v10 v11 vs13 v19) (
 b5I cb N call xs2 a0 v5 v6 v7 v8 v9 v10 v11 vs13 v19)) (fun _=>M.fail) M.fail N7
noncomputable def b5k (cb:Cb) (N:Nat) (call:j5) (a0:Value) (xs2:List Value) (v5:Value) (v6:Value):M R2:=
 cb.bv R2 (a5I 9 a0 (d9 xs2 23)) fun v7=>
 cb.bv R2 (xFA 8 v7) fun v8=>
 cb.bv R2 (K5 v8) fun v9=>
 cb.bv R2 (a4q v9) fun v10=>
 cb.bv R2 (bn .gtr 3 (.tmp 18) (.const (.int .i64 (.ofNat 20))) v10 (.int .i64 (.ofNat 20))) fun v11=>
 b5N cb N call v11 a0 xs2 v5 v6 v7 v8 v9 v10
noncomputable def b5R (cb:Cb) (N:Nat) (call:j5) (xs2:List Value) (a0:Value) (v5:Value) (v6:Value):M R2:=
 M.pure (.exit 0, [(d9 xs2 23),a0,v5,v6,(d9 xs2 4),(d9 xs2 5),(d9 xs2 6),(d9 xs2 7),(d9 xs2 8),(d9 xs2 9),(d9 xs2 10),(d9 xs2 11),(d9 xs2 12),(d9 xs2 13),(d9 xs2 14),(d9 xs2 15),(d9 xs2 16),(d9 xs2 17),(d9 xs2 18),(d9 xs2 19),(d9 xs2 20),(d9 xs2 21),(d9 xs2 22),(d9 xs2 23)])
noncomputable def b5y (cb:Cb) (N:Nat) (call:j5) (a0:Value) (xs2:List Value):M R2:=
 cb.bv R2 (a4q a0) fun v5=>
 cb.bv R2 (bn .lss 3 (.tmp 7) (.tmp 9) (d9 xs2 23) v5) fun v6=>
 K3 v6 (
 b5k cb N call a0 xs2 v5 v6) (
 b5R cb N call xs2 a0 v5 v6)
noncomputable def b5B (cb:Cb) (N:Nat) (call:j5) (a0:Value):M CR:=
 cb.bj CR (cb.lp (b5y cb N call a0) N [undef,undef,undef,undef,undef,undef,undef,undef,undef,undef,undef,undef,undef,undef,undef,undef,undef,undef,undef,undef,(.bool false),undef,undef,(.int .i64 (.ofNat 0))]) fun x3 vs4=>
 M5 x3 (M.fail) (fun i21=>bcase (Nat.beq i21 0) (M.pure (.ret (.bool true))) (M.fail)) (M.pure (.ret (d9 vs4 20))) N7
noncomputable def b2t (cb:Cb) (N:Nat) (call:j5) (a0:Value):M CR:=
 cb.bv CR (a4q a0) fun v0=>
 cb.bv CR (bn .gtr 3 (.tmp 5) (.const (.int .i64 (.ofNat 60))) v0 (.int .i64 (.ofNat 60))) fun v1=>
 K3 v1 (
 M.pure (.ret (.bool false))) (
 b5B cb N call a0)
theorem c6v (cb:Cb) (N:Nat) (call:j5) (a0:Value):a0i Tryz.prog Q6 cb false N call Tryz.f10 c10 e1u [a0]=b2t cb N call a0:=by kernel_rfl
noncomputable def c12:Code:=a0x Tryz.f12
noncomputable def e2Q:Pl:=(.s none .d (.s none .d (.s none .d (.s none .d (.s none .d (.s (some [18, 19, 20, 22, 21, 23, 24, 25, 6, 26, 27, 28, 29, 30, 31, 33, 34, 35, 36, 37, 38, 32, 39, 40, 41, 42, 44, 43, 45, 46, 47, 49, 50, 51, 8, 52, 53, 54, 55, 48, 56, 57, 58, 59, 61, 60, 62, 63, 64, 65, 66, 67, 68, 69, 70, 71, 72, 73, 75, 74, 76, 77, 78, 79, 80, 81, 82, 83, 84, 85, 87, 86, 88, 89, 90, 91, 93, 94, 92, 95, 96, 97, 98, 99, 100, 101, 102, 103, 104, 105, 106, 107, 108, 109, 110, 112, 113, 111, 114, 115, 116, 117, 118, 119, 120, 121, 123, 122, 124, 125, 126, 127, 129, 128, 130, 131, 132, 133, 134, 135, 136, 137, 139, 138, 140, 141, 142, 143, 144, 145, 147, 146, 148, 149, 150, 151, 152, 153, 155, 154, 156, 157, 158, 159, 160, 161]) (.s none .d (.s none (.s none .d (.s none .d (.s (some [33, 34, 35, 36, 37, 38, 32]) .d (.s none .d (.s none .d (.s none (.s none (.s none .d (.s none (.l [49, 50, 51, 8, 52, 53, 54, 55, 48] .d) .d)) .d) (.s none .d (.s none .d (.s none .d (.s none .d (.s none .d (.s none .d (.s (some [93, 94, 92]) .d (.s none .d (.s (some [112, 113, 111]) .d .d))))))))))))))) .d)) .d))))))
noncomputable def a9O:List Oper:=a6b c12 27
noncomputable def a9N:List Oper:=a6b c12 29
noncomputable def b0e:List Oper:=a6b c12 45
noncomputable def b0b:List Oper:=a6b c12 47
noncomputable def a9M:List Oper:=a6b c12 49
noncomputable def a9S:List Oper:=a6b c12 51
noncomputable def a1u (call:j5) (u0:Value) (u1:Value) (u2:Value) (u3:Value) (u4:Value) (u5:Value) (u6:Value) (u7:Value) (u8:Value) (u9:Value):M R2:=
 M.bind (M.foot (K5 u8)) fun y0=>
 M.bind (M.foot (xFA 1 u0)) fun y1=>
 M.bind (M.foot (K5 y1.1)) fun y2=>
 M.bind (M.foot (a2g call 37 [y2.1])) fun y3=>
 M.bind (M.foot (bn .add 9 (.const (.string ⟨⟨[40, 116, 121, 112, 101, 32]⟩⟩)) (.tmp 69) (.string ⟨⟨[40, 116, 121, 112, 101, 32]⟩⟩) y3.1)) fun y4=>
 M.bind (M.foot (bn .add 9 (.tmp 70) (.const (.string ⟨⟨[41]⟩⟩)) y4.1 (.string ⟨⟨[41]⟩⟩))) fun y5=>
 M.bind (M.foot (a2p 1 1 [(0, 1)] [y5.1] [(.string ⟨⟨[]⟩⟩)])) fun y6=>
 M.bind (M.foot (a4g ti9 y0.1 y6.1)) fun y7=>
 M.bind (M.foot (a4M 1 u8 y7.1)) fun y8=>
 M.guard (a1b a9O (a2I a9O [y0.2,y1.2,y2.2,y3.2,y4.2,y5.2,y6.2,y7.2,y8.2]) [] [] 0) (M.pure (.normal, [y0.1,y1.1,y2.1,y3.1,y4.1,y5.1,y6.1,y7.1]))
theorem a0o (call:j5) (u0:Value) (u1:Value) (u2:Value) (u3:Value) (u4:Value) (u5:Value) (u6:Value) (u7:Value) (u8:Value) (u9:Value):dr call a9O 164 [1, 67, 68, 69, 70, 71, 66, 72, 3, 73] [u0,u1,u2,u3,u4,u5,u6,u7,u8,u9] [66, 67, 68, 69, 70, 71, 72, 73]=a1u call u0 u1 u2 u3 u4 u5 u6 u7 u8 u9:=(a4Q _ _ _ _ _ _ _ _).trans (by kernel_rfl)
theorem b4B {F:List a3t} (hl:M4 F=9) (h:a4e [(0, 1),(0, 2),(0, 3),(0, 4),(0, 5),(0, 6)] F=true):a1b a9O (a2I a9O F) [] [] 0=true:=a5C (L:=[(0, 1),(0, 2),(0, 3),(0, 4),(0, 5),(0, 6)]) (by kernel_rfl) (by kernel_rfl) hl h
noncomputable def a1i (call:j5) (u0:Value) (u1:Value) (u2:Value) (u3:Value) (u4:Value) (u5:Value) (u6:Value) (u7:Value) (u8:Value) (u9:Value) (u10:Value) (u11:Value):M R2:=
 M.bind (M.foot (K5 u10)) fun y0=>
 M.bind (M.foot (xFA 7 u0)) fun y1=>
 M.bind (M.foot (K5 y1.1)) fun y2=>
 M.bind (M.foot (a5I 1 y2.1 (.int .i64 (.ofNat 0)))) fun y3=>
 M.bind (M.foot (K5 y3.1)) fun y4=>
 M.bind (M.foot (a2g call 40 [y4.1])) fun y5=>
 M.bind (M.foot (bn .add 9 (.const (.string ⟨⟨[40, 114, 101, 115, 117, 108, 116, 32]⟩⟩)) (.tmp 81) (.string ⟨⟨[40, 114, 101, 115, 117, 108, 116, 32]⟩⟩) y5.1)) fun y6=>
 M.bind (M.foot (bn .add 9 (.tmp 82) (.const (.string ⟨⟨[41]⟩⟩)) y6.1 (.string ⟨⟨[41]⟩⟩))) fun y7=>
 M.bind (M.foot (a2p 1 1 [(0, 1)] [y7.1] [(.string ⟨⟨[]⟩⟩)])) fun y8=>
 M.bind (M.foot (a4g ti9 y0.1 y8.1)) fun y9=>
 M.bind (M.foot (a4M 1 u10 y9.1)) fun y10=>
 M.guard (a1b a9N (a2I a9N [y0.2,y1.2,y2.2,y3.2,y4.2,y5.2,y6.2,y7.2,y8.2,y9.2,y10.2]) [] [] 0) (M.pure (.normal, [y0.1,y1.1,y2.1,y3.1,y4.1,y5.1,y6.1,y7.1,y8.1,y9.1]))
theorem a0q (call:j5) (u0:Value) (u1:Value) (u2:Value) (u3:Value) (u4:Value) (u5:Value) (u6:Value) (u7:Value) (u8:Value) (u9:Value) (u10:Value) (u11:Value):dr call a9N 164 [1, 77, 78, 79, 80, 81, 82, 83, 76, 84, 3, 85] [u0,u1,u2,u3,u4,u5,u6,u7,u8,u9,u10,u11] [76, 77, 78, 79, 80, 81, 82, 83, 84, 85]=a1i call u0 u1 u2 u3 u4 u5 u6 u7 u8 u9 u10 u11:=(a4Q _ _ _ _ _ _ _ _).trans (by kernel_rfl)
theorem c1y {F:List a3t} (hl:M4 F=11) (h:a4e [(0, 1),(0, 2),(0, 3),(0, 4),(0, 5),(0, 6),(0, 7),(0, 8)] F=true):a1b a9N (a2I a9N F) [] [] 0=true:=a5C (L:=[(0, 1),(0, 2),(0, 3),(0, 4),(0, 5),(0, 6),(0, 7),(0, 8)]) (by kernel_rfl) (by kernel_rfl) hl h
noncomputable def a1x (call:j5) (u0:Value) (u1:Value) (u2:Value) (u3:Value) (u4:Value) (u5:Value):M R2:=
 M.bind (M.foot (K5 u4)) fun y0=>
 M.bind (M.foot (a3p 9 u0)) fun y1=>
 M.bind (M.foot (a2g call 41 [y1.1])) fun y2=>
 M.bind (M.foot (a4g ti9 y0.1 y2.1)) fun y3=>
 M.bind (M.foot (a4M 1 u4 y3.1)) fun y4=>
 M.guard (a1b b0e (a2I b0e [y0.2,y1.2,y2.2,y3.2,y4.2]) [] [] 0) (M.pure (.normal, [y0.1,y1.1,y2.1,y3.1]))
theorem a0t (call:j5) (u0:Value) (u1:Value) (u2:Value) (u3:Value) (u4:Value) (u5:Value):dr call b0e 164 [1, 135, 134, 136, 3, 137] [u0,u1,u2,u3,u4,u5] [134, 135, 136, 137]=a1x call u0 u1 u2 u3 u4 u5:=(a4Q _ _ _ _ _ _ _ _).trans (by kernel_rfl)
theorem a7A {F:List a3t} (hl:M4 F=5) (h:a4e [(0, 1),(0, 2)] F=true):a1b b0e (a2I b0e F) [] [] 0=true:=a5C (L:=[(0, 1),(0, 2)]) (by kernel_rfl) (by kernel_rfl) hl h
noncomputable def a1p (call:j5) (u0:Value) (u1:Value) (u2:Value) (u3:Value) (u4:Value) (u5:Value) (u6:Value) (u7:Value):M R2:=
 M.bind (M.foot (K5 u6)) fun y0=>
 M.bind (M.foot (xFA 3 u0)) fun y1=>
 M.bind (M.foot (K5 y1.1)) fun y2=>
 M.bind (M.foot (a2g call 42 [y2.1,(.int .i64 (.ofNat 32))])) fun y3=>
 M.bind (M.foot (a2p 1 1 [(0, 1)] [y3.1] [(.string ⟨⟨[]⟩⟩)])) fun y4=>
 M.bind (M.foot (a4g ti9 y0.1 y4.1)) fun y5=>
 M.bind (M.foot (a4M 1 u6 y5.1)) fun y6=>
 M.guard (a1b b0b (a2I b0b [y0.2,y1.2,y2.2,y3.2,y4.2,y5.2,y6.2]) [] [] 0) (M.pure (.normal, [y0.1,y1.1,y2.1,y3.1,y4.1,y5.1]))
theorem a0r (call:j5) (u0:Value) (u1:Value) (u2:Value) (u3:Value) (u4:Value) (u5:Value) (u6:Value) (u7:Value):dr call b0b 164 [1, 141, 142, 143, 140, 144, 3, 145] [u0,u1,u2,u3,u4,u5,u6,u7] [140, 141, 142, 143, 144, 145]=a1p call u0 u1 u2 u3 u4 u5 u6 u7:=(a4Q _ _ _ _ _ _ _ _).trans (by kernel_rfl)
theorem c2q {F:List a3t} (hl:M4 F=7) (h:a4e [(0, 1),(0, 2),(0, 3),(0, 4)] F=true):a1b b0b (a2I b0b F) [] [] 0=true:=a5C (L:=[(0, 1),(0, 2),(0, 3),(0, 4)]) (by kernel_rfl) (by kernel_rfl) hl h
noncomputable def a1e (call:j5) (u0:Value) (u1:Value) (u2:Value) (u3:Value) (u4:Value) (u5:Value) (u6:Value) (u7:Value):M R2:=
 M.bind (M.foot (K5 u6)) fun y0=>
 M.bind (M.foot (xFA 3 u0)) fun y1=>
 M.bind (M.foot (K5 y1.1)) fun y2=>
 M.bind (M.foot (a2g call 42 [y2.1,(.int .i64 (.ofNat 64))])) fun y3=>
 M.bind (M.foot (a2p 1 1 [(0, 1)] [y3.1] [(.string ⟨⟨[]⟩⟩)])) fun y4=>
 M.bind (M.foot (a4g ti9 y0.1 y4.1)) fun y5=>
 M.bind (M.foot (a4M 1 u6 y5.1)) fun y6=>
 M.guard (a1b a9M (a2I a9M [y0.2,y1.2,y2.2,y3.2,y4.2,y5.2,y6.2]) [] [] 0) (M.pure (.normal, [y0.1,y1.1,y2.1,y3.1,y4.1,y5.1]))
theorem a0s (call:j5) (u0:Value) (u1:Value) (u2:Value) (u3:Value) (u4:Value) (u5:Value) (u6:Value) (u7:Value):dr call a9M 164 [1, 149, 150, 151, 148, 152, 3, 153] [u0,u1,u2,u3,u4,u5,u6,u7] [148, 149, 150, 151, 152, 153]=a1e call u0 u1 u2 u3 u4 u5 u6 u7:=(a4Q _ _ _ _ _ _ _ _).trans (by kernel_rfl)
theorem c2h {F:List a3t} (hl:M4 F=7) (h:a4e [(0, 1),(0, 2),(0, 3),(0, 4)] F=true):a1b a9M (a2I a9M F) [] [] 0=true:=a5C (L:=[(0, 1),(0, 2),(0, 3),(0, 4)]) (by kernel_rfl) (by kernel_rfl) hl h
noncomputable def a1I (call:j5) (u0:Value) (u1:Value) (u2:Value) (u3:Value) (u4:Value) (u5:Value) (u6:Value) (u7:Value):M R2:=
 M.bind (M.foot (K5 u6)) fun y0=>
 M.bind (M.foot (xFA 1 u0)) fun y1=>
 M.bind (M.foot (K5 y1.1)) fun y2=>
 M.bind (M.foot (a2g call 43 [y2.1])) fun y3=>
 M.bind (M.foot (a2p 1 1 [(0, 1)] [y3.1] [(.string ⟨⟨[]⟩⟩)])) fun y4=>
 M.bind (M.foot (a4g ti9 y0.1 y4.1)) fun y5=>
 M.bind (M.foot (a4M 1 u6 y5.1)) fun y6=>
 M.guard (a1b a9S (a2I a9S [y0.2,y1.2,y2.2,y3.2,y4.2,y5.2,y6.2]) [] [] 0) (M.pure (.normal, [y0.1,y1.1,y2.1,y3.1,y4.1,y5.1]))
theorem a0p (call:j5) (u0:Value) (u1:Value) (u2:Value) (u3:Value) (u4:Value) (u5:Value) (u6:Value) (u7:Value):dr call a9S 164 [1, 157, 158, 159, 156, 160, 3, 161] [u0,u1,u2,u3,u4,u5,u6,u7] [156, 157, 158, 159, 160, 161]=a1I call u0 u1 u2 u3 u4 u5 u6 u7:=(a4Q _ _ _ _ _ _ _ _).trans (by kernel_rfl)
theorem b4t {F:List a3t} (hl:M4 F=7) (h:a4e [(0, 1),(0, 2),(0, 3),(0, 4)] F=true):a1b a9S (a2I a9S F) [] [] 0=true:=a5C (L:=[(0, 1),(0, 2),(0, 3),(0, 4)]) (by kernel_rfl) (by kernel_rfl) hl h
noncomputable def a2B (cb:Cb) (N:Nat) (call:j5) (v16:Value) (v17:Value) (v18:Value) (v19:Value) (v20:Value) (v21:Value) (v22:Value) (v23:Value) (v24:Value) (v25:Value) (v26:Value):M R2:=
 M.pure (.normal, [v16,v17,v18,v19,v19,v20,v21,v22,v22,v22,v23,v24,v22,v25,v26,undef,undef,undef,undef,undef,undef,undef,undef,undef,undef,undef,undef,undef,undef,undef,undef,undef,undef,undef,undef,undef,undef,undef,undef,undef,undef,undef,undef,undef,undef,undef,undef,undef,undef,undef,undef,undef,undef,undef,undef,undef,undef,undef,undef,undef,undef,undef,undef,undef,undef,undef,undef,undef,undef,undef,undef,undef,undef,undef,undef,undef,undef,undef,undef,undef,undef,undef,undef,undef,undef,undef,undef,undef,undef,undef,undef,undef,undef,undef,undef,undef,undef,undef,undef,undef,undef,undef,undef,undef,undef,undef,undef,undef,undef,undef,undef,undef,undef,undef,undef,undef,undef,undef,undef,undef,undef,undef,undef,undef,undef,undef,undef,undef,undef,undef,undef,undef,undef,undef,undef,undef,undef,undef,undef,undef,undef,undef,undef,undef,undef,undef])
noncomputable def a2t (cb:Cb) (N:Nat) (call:j5) (v8:Value) (v22:Value) (v16:Value) (v17:Value) (v18:Value) (v19:Value) (v20:Value) (v21:Value) (v23:Value):M R2:=
 cb.bv R2 (K5 v8) fun v24=>
 cb.bv R2 (a2p 1 1 [(0, 1)] [v22] [(.string ⟨⟨[]⟩⟩)]) fun v25=>
 cb.bv R2 (a4g ti9 v24 v25) fun v26=>
 cb.bv R2 (a4M 1 v8 v26) fun v27=>
 a2B cb N call v16 v17 v18 v19 v20 v21 v22 v23 v24 v25 v26
noncomputable def a2s (cb:Cb) (N:Nat) (call:j5) (v16:Value) (v17:Value) (v18:Value) (v19:Value) (v20:Value) (v21:Value) (v22:Value) (v23:Value):M R2:=
 M.pure (.normal, [v16,v17,v18,v19,v19,v20,v21,v22,v22,v22,v23,undef,undef,undef,undef,undef,undef,undef,undef,undef,undef,undef,undef,undef,undef,undef,undef,undef,undef,undef,undef,undef,undef,undef,undef,undef,undef,undef,undef,undef,undef,undef,undef,undef,undef,undef,undef,undef,undef,undef,undef,undef,undef,undef,undef,undef,undef,undef,undef,undef,undef,undef,undef,undef,undef,undef,undef,undef,undef,undef,undef,undef,undef,undef,undef,undef,undef,undef,undef,undef,undef,undef,undef,undef,undef,undef,undef,undef,undef,undef,undef,undef,undef,undef,undef,undef,undef,undef,undef,undef,undef,undef,undef,undef,undef,undef,undef,undef,undef,undef,undef,undef,undef,undef,undef,undef,undef,undef,undef,undef,undef,undef,undef,undef,undef,undef,undef,undef,undef,undef,undef,undef,undef,undef,undef,undef,undef,undef,undef,undef,undef,undef,undef,undef,undef,undef])
noncomputable def a2u (cb:Cb) (N:Nat) (call:j5) (v0:Value) (v8:Value) (v16:Value) (v17:Value) (v18:Value) (v19:Value):M R2:=
 cb.bv R2 (xFA 4 v0) fun v20=>
 cb.bv R2 (a3p 3 v20) fun v21=>
 cb.bc R2 (call 14 [v21]) (fun v22=>
 cb.bv R2 (bn .neq 9 (.tmp 26) (.const (.string ⟨⟨[]⟩⟩)) v22 (.string ⟨⟨[]⟩⟩)) fun v23=>
 K3 v23 (
 a2t cb N call v8 v22 v16 v17 v18 v19 v20 v21 v23) (
 a2s cb N call v16 v17 v18 v19 v20 v21 v22 v23)) N7
noncomputable def a2z (cb:Cb) (N:Nat) (call:j5) (v18:Value) (v30:Value) (v31:Value) (v32:Value) (v33:Value) (v34:Value):M R2:=
 cb.bv R2 (bn .eql 76 (.tmp 20) (.const (.int .i64 (.ofNat 16))) v18 (.int .i64 (.ofNat 16))) fun v35=>
 M.pure (.normal, [v30,v31,v32,v33,v34,v35,v35])
noncomputable def a2v (cb:Cb) (N:Nat) (call:j5) (v18:Value) (v30:Value) (v31:Value) (v32:Value) (v33:Value):M R2:=
 cb.bv R2 (bn .eql 76 (.tmp 20) (.const (.int .i64 (.ofNat 12))) v18 (.int .i64 (.ofNat 12))) fun v34=>
 K3 v34 (
 M.pure (.normal, [v30,v31,v32,v33,v34,undef,v34])) (
 a2z cb N call v18 v30 v31 v32 v33 v34)
noncomputable def a2r (cb:Cb) (N:Nat) (call:j5) (v18:Value) (v30:Value) (v31:Value) (v32:Value):M R2:=
 cb.bv R2 (bn .eql 76 (.tmp 20) (.const (.int .i64 (.ofNat 8))) v18 (.int .i64 (.ofNat 8))) fun v33=>
 K3 v33 (
 M.pure (.normal, [v30,v31,v32,v33,undef,undef,v33])) (
 a2v cb N call v18 v30 v31 v32 v33)
noncomputable def a2w (cb:Cb) (N:Nat) (call:j5) (v18:Value) (v30:Value) (v31:Value):M R2:=
 cb.bv R2 (bn .eql 76 (.tmp 20) (.const (.int .i64 (.ofNat 7))) v18 (.int .i64 (.ofNat 7))) fun v32=>
 K3 v32 (
 M.pure (.normal, [v30,v31,v32,undef,undef,undef,v32])) (
 a2r cb N call v18 v30 v31 v32)
noncomputable def a2A (cb:Cb) (N:Nat) (call:j5) (v18:Value) (v30:Value):M R2:=
 cb.bv R2 (bn .eql 76 (.tmp 20) (.const (.int .i64 (.ofNat 4))) v18 (.int .i64 (.ofNat 4))) fun v31=>
 K3 v31 (
 M.pure (.normal, [v30,v31,undef,undef,undef,undef,v31])) (
 a2w cb N call v18 v30 v31)
noncomputable def a2y (cb:Cb) (N:Nat) (call:j5) (v16:Value) (v17:Value) (v18:Value) (v19:Value) (vs29:List Value) (v36:Value) (v37:Value) (v38:Value) (v40:Value):M R2:=
 M.pure (.normal, [v16,v17,v18,v19,v19,undef,undef,undef,undef,undef,undef,undef,undef,undef,undef,(d9 vs29 0),(d9 vs29 1),(d9 vs29 2),(d9 vs29 3),(d9 vs29 4),(d9 vs29 5),(d9 vs29 6),v36,v37,v38,v40,undef,undef,undef,undef,undef,undef,undef,undef,undef,undef,undef,undef,undef,undef,undef,undef,undef,undef,undef,undef,undef,undef,undef,undef,undef,undef,undef,undef,undef,undef,undef,undef,undef,undef,undef,undef,undef,undef,undef,undef,undef,undef,undef,undef,undef,undef,undef,undef,undef,undef,undef,undef,undef,undef,undef,undef,undef,undef,undef,undef,undef,undef,undef,undef,undef,undef,undef,undef,undef,undef,undef,undef,undef,undef,undef,undef,undef,undef,undef,undef,undef,undef,undef,undef,undef,undef,undef,undef,undef,undef,undef,undef,undef,undef,undef,undef,undef,undef,undef,undef,undef,undef,undef,undef,undef,undef,undef,undef,undef,undef,undef,undef,undef,undef,undef,undef,undef,undef,undef,undef])
noncomputable def a1r (cb:Cb) (N:Nat) (call:j5) (v11:Value) (v0:Value) (v16:Value) (v17:Value) (v18:Value) (v19:Value) (vs29:List Value):M R2:=
 cb.bv R2 (K5 v11) fun v36=>
 cb.bv R2 (xFA 1 v0) fun v37=>
 cb.bv R2 (K5 v37) fun v38=>
 M.obind (a5h v36 [v38]) fun g39=>cb.bc R2 (call g39.1 g39.2) (fun v40=>
 a2y cb N call v16 v17 v18 v19 vs29 v36 v37 v38 v40) N7
noncomputable def b8j (cb:Cb) (N:Nat) (call:j5) (v43:Value) (xs45:List Value) (v11:Value) (v48:Value):M R2:=
 cb.bv R2 (a5I 1 v43 (d9 xs45 8)) fun v49=>
 cb.bv R2 (K5 v49) fun v50=>
 cb.bv R2 (K5 v11) fun v51=>
 M.obind (a5h v51 [v50]) fun g52=>cb.bc R2 (call g52.1 g52.2) (fun v53=>
 cb.bv R2 (bn .add 3 (.tmp 48) (.const (.int .i64 (.ofNat 1))) (d9 xs45 8) (.int .i64 (.ofNat 1))) fun v54=>
 M.pure (.normal, [v48,v49,v50,v50,v51,v50,v53,v54,v54])) N7
noncomputable def b3r (cb:Cb) (N:Nat) (call:j5) (v44:Value) (v43:Value) (v11:Value) (xs45:List Value):M R2:=
 cb.bv R2 (bn .lss 3 (.tmp 48) (.tmp 47) (d9 xs45 8) v44) fun v48=>
 K3 v48 (
 b8j cb N call v43 xs45 v11 v48) (
 M.pure (.exit 1, [v48,(d9 xs45 1),(d9 xs45 2),(d9 xs45 3),(d9 xs45 4),(d9 xs45 5),(d9 xs45 6),(d9 xs45 7),(d9 xs45 8)]))
noncomputable def a1O (cb:Cb) (N:Nat) (call:j5) (v16:Value) (v17:Value) (v18:Value) (v19:Value) (vs29:List Value) (v41:Value) (v42:Value) (v43:Value) (v44:Value) (vs47:List Value) (v56:Value) (v57:Value) (v58:Value) (v60:Value):M R2:=
 M.pure (.normal, [v16,v17,v18,v19,v19,undef,undef,undef,undef,undef,undef,undef,undef,undef,undef,(d9 vs29 0),(d9 vs29 1),(d9 vs29 2),(d9 vs29 3),(d9 vs29 4),(d9 vs29 5),(d9 vs29 6),undef,undef,undef,undef,v41,v41,v42,v43,v44,(d9 vs47 0),(d9 vs47 1),(d9 vs47 2),(d9 vs47 3),(d9 vs47 4),(d9 vs47 5),(d9 vs47 6),(d9 vs47 7),(d9 vs47 8),v56,v57,v58,v60,undef,undef,undef,undef,undef,undef,undef,undef,undef,undef,undef,undef,undef,undef,undef,undef,undef,undef,undef,undef,undef,undef,undef,undef,undef,undef,undef,undef,undef,undef,undef,undef,undef,undef,undef,undef,undef,undef,undef,undef,undef,undef,undef,undef,undef,undef,undef,undef,undef,undef,undef,undef,undef,undef,undef,undef,undef,undef,undef,undef,undef,undef,undef,undef,undef,undef,undef,undef,undef,undef,undef,undef,undef,undef,undef,undef,undef,undef,undef,undef,undef,undef,undef,undef,undef,undef,undef,undef,undef,undef,undef,undef,undef,undef,undef,undef,undef,undef,undef,undef,undef,undef])
noncomputable def a1A (cb:Cb) (N:Nat) (call:j5) (v43:Value) (v11:Value) (v0:Value) (v16:Value) (v17:Value) (v18:Value) (v19:Value) (vs29:List Value) (v41:Value) (v42:Value):M R2:=
 cb.bv R2 (a4q v43) fun v44=>
 cb.bj R2 (cb.lp (b3r cb N call v44 v43 v11) N [undef,undef,undef,undef,undef,undef,undef,undef,(.int .i64 (.ofNat 0))]) fun x46 vs47=>
 M5 x46 (M.fail) (fun i55=>bcase (Nat.beq i55 1) (cb.bv R2 (K5 v11) fun v56=>
 cb.bv R2 (xFA 1 v0) fun v57=>
 cb.bv R2 (K5 v57) fun v58=>
 M.obind (a5h v56 [v58]) fun g59=>cb.bc R2 (call g59.1 g59.2) (fun v60=>
 a1O cb N call v16 v17 v18 v19 vs29 v41 v42 v43 v44 vs47 v56 v57 v58 v60) N7) (M.fail)) (M.fail) N7
noncomputable def a1q (cb:Cb) (N:Nat) (call:j5) (v16:Value) (v17:Value) (v18:Value) (v19:Value) (vs29:List Value) (v41:Value) (v61:Value) (v13:Value) (v62:Value) (v63:Value) (v65:Value) (vs66:List Value):M R2:=
 M.pure (.normal, [v16,v17,v18,v19,v19,undef,undef,undef,undef,undef,undef,undef,undef,undef,undef,(d9 vs29 0),(d9 vs29 1),(d9 vs29 2),(d9 vs29 3),(d9 vs29 4),(d9 vs29 5),(d9 vs29 6),undef,undef,undef,undef,v41,v41,undef,undef,undef,undef,undef,undef,undef,undef,undef,undef,undef,undef,undef,undef,undef,undef,v61,v61,v13,v62,v63,v65,(d9 vs66 0),(d9 vs66 1),(d9 vs66 2),(d9 vs66 3),(d9 vs66 4),(d9 vs66 5),(d9 vs66 6),(d9 vs66 7),undef,undef,undef,undef,undef,undef,undef,undef,undef,undef,undef,undef,undef,undef,undef,undef,undef,undef,undef,undef,undef,undef,undef,undef,undef,undef,undef,undef,undef,undef,undef,undef,undef,undef,undef,undef,undef,undef,undef,undef,undef,undef,undef,undef,undef,undef,undef,undef,undef,undef,undef,undef,undef,undef,undef,undef,undef,undef,undef,undef,undef,undef,undef,undef,undef,undef,undef,undef,undef,undef,undef,undef,undef,undef,undef,undef,undef,undef,undef,undef,undef,undef,undef,undef,undef,undef,undef,undef])
noncomputable def a1E (cb:Cb) (N:Nat) (call:j5) (v0:Value) (v13:Value) (v8:Value) (v16:Value) (v17:Value) (v18:Value) (v19:Value) (vs29:List Value) (v41:Value) (v61:Value):M R2:=
 cb.bv R2 (xFA 2 v0) fun v62=>
 cb.bv R2 (K5 v62) fun v63=>
 M.obind (a5h v13 [v63]) fun g64=>cb.bc R2 (call g64.1 g64.2) (fun v65=>
 cb.bj R2 (dr call a9O 164 [1, 67, 68, 69, 70, 71, 66, 72, 3, 73] [v0,undef,undef,undef,undef,undef,undef,undef,v8,undef] [66, 67, 68, 69, 70, 71, 72, 73]) fun _ vs66=>
 a1q cb N call v16 v17 v18 v19 vs29 v41 v61 v13 v62 v63 v65 vs66) N7
noncomputable def a1s (cb:Cb) (N:Nat) (call:j5) (v16:Value) (v17:Value) (v18:Value) (v19:Value) (vs29:List Value) (v41:Value) (v61:Value) (v67:Value) (vs68:List Value):M R2:=
 M.pure (.normal, [v16,v17,v18,v19,v19,undef,undef,undef,undef,undef,undef,undef,undef,undef,undef,(d9 vs29 0),(d9 vs29 1),(d9 vs29 2),(d9 vs29 3),(d9 vs29 4),(d9 vs29 5),(d9 vs29 6),undef,undef,undef,undef,v41,v41,undef,undef,undef,undef,undef,undef,undef,undef,undef,undef,undef,undef,undef,undef,undef,undef,v61,v61,undef,undef,undef,undef,undef,undef,undef,undef,undef,undef,undef,undef,v67,v67,(d9 vs68 0),(d9 vs68 1),(d9 vs68 2),(d9 vs68 3),(d9 vs68 4),(d9 vs68 5),(d9 vs68 6),(d9 vs68 7),(d9 vs68 8),(d9 vs68 9),undef,undef,undef,undef,undef,undef,undef,undef,undef,undef,undef,undef,undef,undef,undef,undef,undef,undef,undef,undef,undef,undef,undef,undef,undef,undef,undef,undef,undef,undef,undef,undef,undef,undef,undef,undef,undef,undef,undef,undef,undef,undef,undef,undef,undef,undef,undef,undef,undef,undef,undef,undef,undef,undef,undef,undef,undef,undef,undef,undef,undef,undef,undef,undef,undef,undef,undef,undef,undef,undef,undef,undef,undef,undef,undef,undef])
noncomputable def a1g (cb:Cb) (N:Nat) (call:j5) (v0:Value) (v8:Value) (v16:Value) (v17:Value) (v18:Value) (v19:Value) (vs29:List Value) (v41:Value) (v61:Value) (v67:Value):M R2:=
 cb.bj R2 (dr call a9N 164 [1, 77, 78, 79, 80, 81, 82, 83, 76, 84, 3, 85] [v0,undef,undef,undef,undef,undef,undef,undef,undef,undef,v8,undef] [76, 77, 78, 79, 80, 81, 82, 83, 84, 85]) fun _ vs68=>
 a1s cb N call v16 v17 v18 v19 vs29 v41 v61 v67 vs68
noncomputable def a1y (cb:Cb) (N:Nat) (call:j5) (v16:Value) (v17:Value) (v18:Value) (v19:Value) (vs29:List Value) (v41:Value) (v61:Value) (v67:Value) (v69:Value) (v13:Value) (v70:Value) (v71:Value) (v73:Value):M R2:=
 M.pure (.normal, [v16,v17,v18,v19,v19,undef,undef,undef,undef,undef,undef,undef,undef,undef,undef,(d9 vs29 0),(d9 vs29 1),(d9 vs29 2),(d9 vs29 3),(d9 vs29 4),(d9 vs29 5),(d9 vs29 6),undef,undef,undef,undef,v41,v41,undef,undef,undef,undef,undef,undef,undef,undef,undef,undef,undef,undef,undef,undef,undef,undef,v61,v61,undef,undef,undef,undef,undef,undef,undef,undef,undef,undef,undef,undef,v67,v67,undef,undef,undef,undef,undef,undef,undef,undef,undef,undef,v69,v69,v13,v70,v71,v73,undef,undef,undef,undef,undef,undef,undef,undef,undef,undef,undef,undef,undef,undef,undef,undef,undef,undef,undef,undef,undef,undef,undef,undef,undef,undef,undef,undef,undef,undef,undef,undef,undef,undef,undef,undef,undef,undef,undef,undef,undef,undef,undef,undef,undef,undef,undef,undef,undef,undef,undef,undef,undef,undef,undef,undef,undef,undef,undef,undef,undef,undef,undef,undef,undef,undef,undef,undef,undef,undef])
noncomputable def a1W (cb:Cb) (N:Nat) (call:j5) (v0:Value) (v13:Value) (v16:Value) (v17:Value) (v18:Value) (v19:Value) (vs29:List Value) (v41:Value) (v61:Value) (v67:Value) (v69:Value):M R2:=
 cb.bv R2 (xFA 1 v0) fun v70=>
 cb.bv R2 (K5 v70) fun v71=>
 M.obind (a5h v13 [v71]) fun g72=>cb.bc R2 (call g72.1 g72.2) (fun v73=>
 a1y cb N call v16 v17 v18 v19 vs29 v41 v61 v67 v69 v13 v70 v71 v73) N7
noncomputable def a1J (cb:Cb) (N:Nat) (call:j5) (v16:Value) (v17:Value) (v18:Value) (v19:Value) (vs29:List Value) (v41:Value) (v61:Value) (v67:Value) (v69:Value) (vs75:List Value) (v78:Value) (v79:Value) (v80:Value) (vs82:List Value) (v86:Value) (v87:Value) (v88:Value) (v89:Value) (v91:Value) (v92:Value) (v93:Value) (v94:Value) (v96:Value):M R2:=
 M.pure (.normal, [v16,v17,v18,v19,v19,undef,undef,undef,undef,undef,undef,undef,undef,undef,undef,(d9 vs29 0),(d9 vs29 1),(d9 vs29 2),(d9 vs29 3),(d9 vs29 4),(d9 vs29 5),(d9 vs29 6),undef,undef,undef,undef,v41,v41,undef,undef,undef,undef,undef,undef,undef,undef,undef,undef,undef,undef,undef,undef,undef,undef,v61,v61,undef,undef,undef,undef,undef,undef,undef,undef,undef,undef,undef,undef,v67,v67,undef,undef,undef,undef,undef,undef,undef,undef,undef,undef,v69,v69,undef,undef,undef,undef,(d9 vs75 0),(d9 vs75 1),(d9 vs75 2),v78,v79,v80,v80,(d9 vs82 0),(d9 vs82 1),(d9 vs82 2),v86,v87,v88,v89,v91,v92,v93,v94,v96,undef,undef,undef,undef,undef,undef,undef,undef,undef,undef,undef,undef,undef,undef,undef,undef,undef,undef,undef,undef,undef,undef,undef,undef,undef,undef,undef,undef,undef,undef,undef,undef,undef,undef,undef,undef,undef,undef,undef,undef,undef,undef,undef,undef,undef,undef,undef,undef,undef,undef,undef])
noncomputable def a1T (cb:Cb) (N:Nat) (call:j5) (v11:Value) (v0:Value) (v16:Value) (v17:Value) (v18:Value) (v19:Value) (vs29:List Value) (v41:Value) (v61:Value) (v67:Value) (v69:Value) (vs75:List Value) (v78:Value) (v79:Value) (v80:Value) (vs82:List Value) (v86:Value):M R2:=
 cb.bv R2 (K5 v11) fun v87=>
 cb.bv R2 (xFA 1 v0) fun v88=>
 cb.bv R2 (K5 v88) fun v89=>
 M.obind (a5h v87 [v89]) fun g90=>cb.bc R2 (call g90.1 g90.2) (fun v91=>
 cb.bv R2 (K5 v11) fun v92=>
 cb.bv R2 (xFA 2 v0) fun v93=>
 cb.bv R2 (K5 v93) fun v94=>
 M.obind (a5h v92 [v94]) fun g95=>cb.bc R2 (call g95.1 g95.2) (fun v96=>
 a1J cb N call v16 v17 v18 v19 vs29 v41 v61 v67 v69 vs75 v78 v79 v80 vs82 v86 v87 v88 v89 v91 v92 v93 v94 v96) N7) N7
noncomputable def a1l (cb:Cb) (N:Nat) (call:j5) (v16:Value) (v17:Value) (v18:Value) (v19:Value) (vs29:List Value) (v41:Value) (v61:Value) (v67:Value) (v69:Value) (vs75:List Value) (v78:Value) (v79:Value) (v80:Value) (vs82:List Value) (v86:Value):M R2:=
 M.pure (.normal, [v16,v17,v18,v19,v19,undef,undef,undef,undef,undef,undef,undef,undef,undef,undef,(d9 vs29 0),(d9 vs29 1),(d9 vs29 2),(d9 vs29 3),(d9 vs29 4),(d9 vs29 5),(d9 vs29 6),undef,undef,undef,undef,v41,v41,undef,undef,undef,undef,undef,undef,undef,undef,undef,undef,undef,undef,undef,undef,undef,undef,v61,v61,undef,undef,undef,undef,undef,undef,undef,undef,undef,undef,undef,undef,v67,v67,undef,undef,undef,undef,undef,undef,undef,undef,undef,undef,v69,v69,undef,undef,undef,undef,(d9 vs75 0),(d9 vs75 1),(d9 vs75 2),v78,v79,v80,v80,(d9 vs82 0),(d9 vs82 1),(d9 vs82 2),v86,undef,undef,undef,undef,undef,undef,undef,undef,undef,undef,undef,undef,undef,undef,undef,undef,undef,undef,undef,undef,undef,undef,undef,undef,undef,undef,undef,undef,undef,undef,undef,undef,undef,undef,undef,undef,undef,undef,undef,undef,undef,undef,undef,undef,undef,undef,undef,undef,undef,undef,undef,undef,undef,undef,undef,undef,undef,undef,undef])
noncomputable def a1X (cb:Cb) (N:Nat) (call:j5) (v80:Value) (v0:Value) (v11:Value) (v16:Value) (v17:Value) (v18:Value) (v19:Value) (vs29:List Value) (v41:Value) (v61:Value) (v67:Value) (v69:Value) (vs75:List Value) (v78:Value) (v79:Value):M R2:=
 cb.bj R2 (bcase (O7 false v80) (cb.bv R2 (xFA 2 v0) fun v83=>
 cb.bv R2 (K5 v83) fun v84=>
 cb.bv R2 (bn .neq 3 (.tmp 100) (.const (.int .i64 (.ofNat 0))) v84 (.int .i64 (.ofNat 0))) fun v85=>
 M.pure (.normal, [v83,v84,v85])) (M.pure (.normal, [undef,undef,undef]))) fun x81 vs82=>M5 x81 (cb.bv R2 (X0 v80 (.bool true) (d9 vs82 2)) fun v86=>
 K3 v86 (
 a1T cb N call v11 v0 v16 v17 v18 v19 vs29 v41 v61 v67 v69 vs75 v78 v79 v80 vs82 v86) (
 a1l cb N call v16 v17 v18 v19 vs29 v41 v61 v67 v69 vs75 v78 v79 v80 vs82 v86)) (fun _=>M.fail) M.fail N7
noncomputable def a1M (cb:Cb) (N:Nat) (call:j5) (v0:Value) (v11:Value) (v16:Value) (v17:Value) (v18:Value) (v19:Value) (vs29:List Value) (v41:Value) (v61:Value) (v67:Value) (v69:Value) (vs75:List Value):M R2:=
 cb.bv R2 (xFA 1 v0) fun v78=>
 cb.bv R2 (K5 v78) fun v79=>
 cb.bv R2 (bn .neq 3 (.tmp 96) (.const (.int .i64 (.ofNat 0))) v79 (.int .i64 (.ofNat 0))) fun v80=>
 a1X cb N call v80 v0 v11 v16 v17 v18 v19 vs29 v41 v61 v67 v69 vs75 v78 v79
noncomputable def a1K (cb:Cb) (N:Nat) (call:j5) (v16:Value) (v17:Value) (v18:Value) (v19:Value) (vs29:List Value) (v41:Value) (v61:Value) (v67:Value) (v69:Value) (vs75:List Value) (vs98:List Value) (v13:Value) (v101:Value) (v102:Value) (v104:Value) (v105:Value) (v106:Value) (v107:Value) (v109:Value):M R2:=
 M.pure (.normal, [v16,v17,v18,v19,v19,undef,undef,undef,undef,undef,undef,undef,undef,undef,undef,(d9 vs29 0),(d9 vs29 1),(d9 vs29 2),(d9 vs29 3),(d9 vs29 4),(d9 vs29 5),(d9 vs29 6),undef,undef,undef,undef,v41,v41,undef,undef,undef,undef,undef,undef,undef,undef,undef,undef,undef,undef,undef,undef,undef,undef,v61,v61,undef,undef,undef,undef,undef,undef,undef,undef,undef,undef,undef,undef,v67,v67,undef,undef,undef,undef,undef,undef,undef,undef,undef,undef,v69,v69,undef,undef,undef,undef,(d9 vs75 0),(d9 vs75 1),(d9 vs75 2),undef,undef,undef,undef,undef,undef,undef,undef,undef,undef,undef,undef,undef,undef,undef,undef,(d9 vs98 0),(d9 vs98 1),(d9 vs98 2),v13,v101,v102,v104,v105,v106,v107,v109,undef,undef,undef,undef,undef,undef,undef,undef,undef,undef,undef,undef,undef,undef,undef,undef,undef,undef,undef,undef,undef,undef,undef,undef,undef,undef,undef,undef,undef,undef,undef,undef,undef,undef,undef,undef,undef,undef,undef,undef])
noncomputable def a1j (cb:Cb) (N:Nat) (call:j5) (v0:Value) (v13:Value) (v11:Value) (v16:Value) (v17:Value) (v18:Value) (v19:Value) (vs29:List Value) (v41:Value) (v61:Value) (v67:Value) (v69:Value) (vs75:List Value) (vs98:List Value):M R2:=
 cb.bv R2 (xFA 2 v0) fun v101=>
 cb.bv R2 (K5 v101) fun v102=>
 M.obind (a5h v13 [v102]) fun g103=>cb.bc R2 (call g103.1 g103.2) (fun v104=>
 cb.bv R2 (K5 v11) fun v105=>
 cb.bv R2 (xFA 1 v0) fun v106=>
 cb.bv R2 (K5 v106) fun v107=>
 M.obind (a5h v105 [v107]) fun g108=>cb.bc R2 (call g108.1 g108.2) (fun v109=>
 a1K cb N call v16 v17 v18 v19 vs29 v41 v61 v67 v69 vs75 vs98 v13 v101 v102 v104 v105 v106 v107 v109) N7) N7
noncomputable def a1v (cb:Cb) (N:Nat) (call:j5) (v16:Value) (v17:Value) (v18:Value) (v19:Value) (vs29:List Value) (v41:Value) (v61:Value) (v67:Value) (v69:Value) (vs75:List Value) (vs98:List Value) (v110:Value) (v13:Value) (v111:Value) (v112:Value) (v114:Value):M R2:=
 M.pure (.normal, [v16,v17,v18,v19,v19,undef,undef,undef,undef,undef,undef,undef,undef,undef,undef,(d9 vs29 0),(d9 vs29 1),(d9 vs29 2),(d9 vs29 3),(d9 vs29 4),(d9 vs29 5),(d9 vs29 6),undef,undef,undef,undef,v41,v41,undef,undef,undef,undef,undef,undef,undef,undef,undef,undef,undef,undef,undef,undef,undef,undef,v61,v61,undef,undef,undef,undef,undef,undef,undef,undef,undef,undef,undef,undef,v67,v67,undef,undef,undef,undef,undef,undef,undef,undef,undef,undef,v69,v69,undef,undef,undef,undef,(d9 vs75 0),(d9 vs75 1),(d9 vs75 2),undef,undef,undef,undef,undef,undef,undef,undef,undef,undef,undef,undef,undef,undef,undef,undef,(d9 vs98 0),(d9 vs98 1),(d9 vs98 2),undef,undef,undef,undef,undef,undef,undef,undef,v110,v110,v13,v111,v112,v114,undef,undef,undef,undef,undef,undef,undef,undef,undef,undef,undef,undef,undef,undef,undef,undef,undef,undef,undef,undef,undef,undef,undef,undef,undef,undef,undef,undef,undef,undef,undef,undef,undef,undef])
noncomputable def a1R (cb:Cb) (N:Nat) (call:j5) (v0:Value) (v13:Value) (v16:Value) (v17:Value) (v18:Value) (v19:Value) (vs29:List Value) (v41:Value) (v61:Value) (v67:Value) (v69:Value) (vs75:List Value) (vs98:List Value) (v110:Value):M R2:=
 cb.bv R2 (xFA 2 v0) fun v111=>
 cb.bv R2 (K5 v111) fun v112=>
 M.obind (a5h v13 [v112]) fun g113=>cb.bc R2 (call g113.1 g113.2) (fun v114=>
 a1v cb N call v16 v17 v18 v19 vs29 v41 v61 v67 v69 vs75 vs98 v110 v13 v111 v112 v114) N7
noncomputable def a1P (cb:Cb) (N:Nat) (call:j5) (v16:Value) (v17:Value) (v18:Value) (v19:Value) (vs29:List Value) (v41:Value) (v61:Value) (v67:Value) (v69:Value) (vs75:List Value) (vs98:List Value) (v110:Value) (v115:Value) (v13:Value) (v116:Value) (v117:Value) (v119:Value) (vs120:List Value):M R2:=
 M.pure (.normal, [v16,v17,v18,v19,v19,undef,undef,undef,undef,undef,undef,undef,undef,undef,undef,(d9 vs29 0),(d9 vs29 1),(d9 vs29 2),(d9 vs29 3),(d9 vs29 4),(d9 vs29 5),(d9 vs29 6),undef,undef,undef,undef,v41,v41,undef,undef,undef,undef,undef,undef,undef,undef,undef,undef,undef,undef,undef,undef,undef,undef,v61,v61,undef,undef,undef,undef,undef,undef,undef,undef,undef,undef,undef,undef,v67,v67,undef,undef,undef,undef,undef,undef,undef,undef,undef,undef,v69,v69,undef,undef,undef,undef,(d9 vs75 0),(d9 vs75 1),(d9 vs75 2),undef,undef,undef,undef,undef,undef,undef,undef,undef,undef,undef,undef,undef,undef,undef,undef,(d9 vs98 0),(d9 vs98 1),(d9 vs98 2),undef,undef,undef,undef,undef,undef,undef,undef,v110,v110,undef,undef,undef,undef,v115,v115,v13,v116,v117,v119,(d9 vs120 0),(d9 vs120 1),(d9 vs120 2),(d9 vs120 3),undef,undef,undef,undef,undef,undef,undef,undef,undef,undef,undef,undef,undef,undef,undef,undef,undef,undef,undef,undef,undef,undef,undef,undef])
noncomputable def a1z (cb:Cb) (N:Nat) (call:j5) (v0:Value) (v13:Value) (v8:Value) (v16:Value) (v17:Value) (v18:Value) (v19:Value) (vs29:List Value) (v41:Value) (v61:Value) (v67:Value) (v69:Value) (vs75:List Value) (vs98:List Value) (v110:Value) (v115:Value):M R2:=
 cb.bv R2 (xFA 2 v0) fun v116=>
 cb.bv R2 (K5 v116) fun v117=>
 M.obind (a5h v13 [v117]) fun g118=>cb.bc R2 (call g118.1 g118.2) (fun v119=>
 cb.bj R2 (dr call b0e 164 [1, 135, 134, 136, 3, 137] [v0,undef,undef,undef,v8,undef] [134, 135, 136, 137]) fun _ vs120=>
 a1P cb N call v16 v17 v18 v19 vs29 v41 v61 v67 v69 vs75 vs98 v110 v115 v13 v116 v117 v119 vs120) N7
noncomputable def a1V (cb:Cb) (N:Nat) (call:j5) (v16:Value) (v17:Value) (v18:Value) (v19:Value) (vs29:List Value) (v41:Value) (v61:Value) (v67:Value) (v69:Value) (vs75:List Value) (vs98:List Value) (v110:Value) (v115:Value) (v121:Value) (vs122:List Value):M R2:=
 M.pure (.normal, [v16,v17,v18,v19,v19,undef,undef,undef,undef,undef,undef,undef,undef,undef,undef,(d9 vs29 0),(d9 vs29 1),(d9 vs29 2),(d9 vs29 3),(d9 vs29 4),(d9 vs29 5),(d9 vs29 6),undef,undef,undef,undef,v41,v41,undef,undef,undef,undef,undef,undef,undef,undef,undef,undef,undef,undef,undef,undef,undef,undef,v61,v61,undef,undef,undef,undef,undef,undef,undef,undef,undef,undef,undef,undef,v67,v67,undef,undef,undef,undef,undef,undef,undef,undef,undef,undef,v69,v69,undef,undef,undef,undef,(d9 vs75 0),(d9 vs75 1),(d9 vs75 2),undef,undef,undef,undef,undef,undef,undef,undef,undef,undef,undef,undef,undef,undef,undef,undef,(d9 vs98 0),(d9 vs98 1),(d9 vs98 2),undef,undef,undef,undef,undef,undef,undef,undef,v110,v110,undef,undef,undef,undef,v115,v115,undef,undef,undef,undef,undef,undef,undef,undef,v121,v121,(d9 vs122 0),(d9 vs122 1),(d9 vs122 2),(d9 vs122 3),(d9 vs122 4),(d9 vs122 5),undef,undef,undef,undef,undef,undef,undef,undef,undef,undef,undef,undef,undef,undef,undef,undef])
noncomputable def a1L (cb:Cb) (N:Nat) (call:j5) (v0:Value) (v8:Value) (v16:Value) (v17:Value) (v18:Value) (v19:Value) (vs29:List Value) (v41:Value) (v61:Value) (v67:Value) (v69:Value) (vs75:List Value) (vs98:List Value) (v110:Value) (v115:Value) (v121:Value):M R2:=
 cb.bj R2 (dr call b0b 164 [1, 141, 142, 143, 140, 144, 3, 145] [v0,undef,undef,undef,undef,undef,v8,undef] [140, 141, 142, 143, 144, 145]) fun _ vs122=>
 a1V cb N call v16 v17 v18 v19 vs29 v41 v61 v67 v69 vs75 vs98 v110 v115 v121 vs122
noncomputable def a1C (cb:Cb) (N:Nat) (call:j5) (v16:Value) (v17:Value) (v18:Value) (v19:Value) (vs29:List Value) (v41:Value) (v61:Value) (v67:Value) (v69:Value) (vs75:List Value) (vs98:List Value) (v110:Value) (v115:Value) (v121:Value) (v123:Value) (vs124:List Value):M R2:=
 M.pure (.normal, [v16,v17,v18,v19,v19,undef,undef,undef,undef,undef,undef,undef,undef,undef,undef,(d9 vs29 0),(d9 vs29 1),(d9 vs29 2),(d9 vs29 3),(d9 vs29 4),(d9 vs29 5),(d9 vs29 6),undef,undef,undef,undef,v41,v41,undef,undef,undef,undef,undef,undef,undef,undef,undef,undef,undef,undef,undef,undef,undef,undef,v61,v61,undef,undef,undef,undef,undef,undef,undef,undef,undef,undef,undef,undef,v67,v67,undef,undef,undef,undef,undef,undef,undef,undef,undef,undef,v69,v69,undef,undef,undef,undef,(d9 vs75 0),(d9 vs75 1),(d9 vs75 2),undef,undef,undef,undef,undef,undef,undef,undef,undef,undef,undef,undef,undef,undef,undef,undef,(d9 vs98 0),(d9 vs98 1),(d9 vs98 2),undef,undef,undef,undef,undef,undef,undef,undef,v110,v110,undef,undef,undef,undef,v115,v115,undef,undef,undef,undef,undef,undef,undef,undef,v121,v121,undef,undef,undef,undef,undef,undef,v123,v123,(d9 vs124 0),(d9 vs124 1),(d9 vs124 2),(d9 vs124 3),(d9 vs124 4),(d9 vs124 5),undef,undef,undef,undef,undef,undef,undef,undef])
noncomputable def a1o (cb:Cb) (N:Nat) (call:j5) (v0:Value) (v8:Value) (v16:Value) (v17:Value) (v18:Value) (v19:Value) (vs29:List Value) (v41:Value) (v61:Value) (v67:Value) (v69:Value) (vs75:List Value) (vs98:List Value) (v110:Value) (v115:Value) (v121:Value) (v123:Value):M R2:=
 cb.bj R2 (dr call a9M 164 [1, 149, 150, 151, 148, 152, 3, 153] [v0,undef,undef,undef,undef,undef,v8,undef] [148, 149, 150, 151, 152, 153]) fun _ vs124=>
 a1C cb N call v16 v17 v18 v19 vs29 v41 v61 v67 v69 vs75 vs98 v110 v115 v121 v123 vs124
noncomputable def a1m (cb:Cb) (N:Nat) (call:j5) (v16:Value) (v17:Value) (v18:Value) (v19:Value) (vs29:List Value) (v41:Value) (v61:Value) (v67:Value) (v69:Value) (vs75:List Value) (vs98:List Value) (v110:Value) (v115:Value) (v121:Value) (v123:Value) (v125:Value) (vs126:List Value):M R2:=
 M.pure (.normal, [v16,v17,v18,v19,v19,undef,undef,undef,undef,undef,undef,undef,undef,undef,undef,(d9 vs29 0),(d9 vs29 1),(d9 vs29 2),(d9 vs29 3),(d9 vs29 4),(d9 vs29 5),(d9 vs29 6),undef,undef,undef,undef,v41,v41,undef,undef,undef,undef,undef,undef,undef,undef,undef,undef,undef,undef,undef,undef,undef,undef,v61,v61,undef,undef,undef,undef,undef,undef,undef,undef,undef,undef,undef,undef,v67,v67,undef,undef,undef,undef,undef,undef,undef,undef,undef,undef,v69,v69,undef,undef,undef,undef,(d9 vs75 0),(d9 vs75 1),(d9 vs75 2),undef,undef,undef,undef,undef,undef,undef,undef,undef,undef,undef,undef,undef,undef,undef,undef,(d9 vs98 0),(d9 vs98 1),(d9 vs98 2),undef,undef,undef,undef,undef,undef,undef,undef,v110,v110,undef,undef,undef,undef,v115,v115,undef,undef,undef,undef,undef,undef,undef,undef,v121,v121,undef,undef,undef,undef,undef,undef,v123,v123,undef,undef,undef,undef,undef,undef,v125,v125,(d9 vs126 0),(d9 vs126 1),(d9 vs126 2),(d9 vs126 3),(d9 vs126 4),(d9 vs126 5)])
noncomputable def a1h (cb:Cb) (N:Nat) (call:j5) (v0:Value) (v8:Value) (v16:Value) (v17:Value) (v18:Value) (v19:Value) (vs29:List Value) (v41:Value) (v61:Value) (v67:Value) (v69:Value) (vs75:List Value) (vs98:List Value) (v110:Value) (v115:Value) (v121:Value) (v123:Value) (v125:Value):M R2:=
 cb.bj R2 (dr call a9S 164 [1, 157, 158, 159, 156, 160, 3, 161] [v0,undef,undef,undef,undef,undef,v8,undef] [156, 157, 158, 159, 160, 161]) fun _ vs126=>
 a1m cb N call v16 v17 v18 v19 vs29 v41 v61 v67 v69 vs75 vs98 v110 v115 v121 v123 v125 vs126
noncomputable def a1w (cb:Cb) (N:Nat) (call:j5) (v16:Value) (v17:Value) (v18:Value) (v19:Value) (vs29:List Value) (v41:Value) (v61:Value) (v67:Value) (v69:Value) (vs75:List Value) (vs98:List Value) (v110:Value) (v115:Value) (v121:Value) (v123:Value) (v125:Value):M R2:=
 M.pure (.normal, [v16,v17,v18,v19,v19,undef,undef,undef,undef,undef,undef,undef,undef,undef,undef,(d9 vs29 0),(d9 vs29 1),(d9 vs29 2),(d9 vs29 3),(d9 vs29 4),(d9 vs29 5),(d9 vs29 6),undef,undef,undef,undef,v41,v41,undef,undef,undef,undef,undef,undef,undef,undef,undef,undef,undef,undef,undef,undef,undef,undef,v61,v61,undef,undef,undef,undef,undef,undef,undef,undef,undef,undef,undef,undef,v67,v67,undef,undef,undef,undef,undef,undef,undef,undef,undef,undef,v69,v69,undef,undef,undef,undef,(d9 vs75 0),(d9 vs75 1),(d9 vs75 2),undef,undef,undef,undef,undef,undef,undef,undef,undef,undef,undef,undef,undef,undef,undef,undef,(d9 vs98 0),(d9 vs98 1),(d9 vs98 2),undef,undef,undef,undef,undef,undef,undef,undef,v110,v110,undef,undef,undef,undef,v115,v115,undef,undef,undef,undef,undef,undef,undef,undef,v121,v121,undef,undef,undef,undef,undef,undef,v123,v123,undef,undef,undef,undef,undef,undef,v125,v125,undef,undef,undef,undef,undef,undef])
noncomputable def a1t (cb:Cb) (N:Nat) (call:j5) (v18:Value) (v0:Value) (v8:Value) (v16:Value) (v17:Value) (v19:Value) (vs29:List Value) (v41:Value) (v61:Value) (v67:Value) (v69:Value) (vs75:List Value) (vs98:List Value) (v110:Value) (v115:Value) (v121:Value) (v123:Value):M R2:=
 cb.bv R2 (bn .eql 76 (.tmp 20) (.const (.int .i64 (.ofNat 20))) v18 (.int .i64 (.ofNat 20))) fun v125=>
 K3 v125 (
 a1h cb N call v0 v8 v16 v17 v18 v19 vs29 v41 v61 v67 v69 vs75 vs98 v110 v115 v121 v123 v125) (
 a1w cb N call v16 v17 v18 v19 vs29 v41 v61 v67 v69 vs75 vs98 v110 v115 v121 v123 v125)
noncomputable def a1Q (cb:Cb) (N:Nat) (call:j5) (v18:Value) (v0:Value) (v8:Value) (v16:Value) (v17:Value) (v19:Value) (vs29:List Value) (v41:Value) (v61:Value) (v67:Value) (v69:Value) (vs75:List Value) (vs98:List Value) (v110:Value) (v115:Value) (v121:Value):M R2:=
 cb.bv R2 (bn .eql 76 (.tmp 20) (.const (.int .i64 (.ofNat 19))) v18 (.int .i64 (.ofNat 19))) fun v123=>
 K3 v123 (
 a1o cb N call v0 v8 v16 v17 v18 v19 vs29 v41 v61 v67 v69 vs75 vs98 v110 v115 v121 v123) (
 a1t cb N call v18 v0 v8 v16 v17 v19 vs29 v41 v61 v67 v69 vs75 vs98 v110 v115 v121 v123)
noncomputable def a1S (cb:Cb) (N:Nat) (call:j5) (v18:Value) (v0:Value) (v8:Value) (v16:Value) (v17:Value) (v19:Value) (vs29:List Value) (v41:Value) (v61:Value) (v67:Value) (v69:Value) (vs75:List Value) (vs98:List Value) (v110:Value) (v115:Value):M R2:=
 cb.bv R2 (bn .eql 76 (.tmp 20) (.const (.int .i64 (.ofNat 18))) v18 (.int .i64 (.ofNat 18))) fun v121=>
 K3 v121 (
 a1L cb N call v0 v8 v16 v17 v18 v19 vs29 v41 v61 v67 v69 vs75 vs98 v110 v115 v121) (
 a1Q cb N call v18 v0 v8 v16 v17 v19 vs29 v41 v61 v67 v69 vs75 vs98 v110 v115 v121)
noncomputable def a1F (cb:Cb) (N:Nat) (call:j5) (v18:Value) (v0:Value) (v13:Value) (v8:Value) (v16:Value) (v17:Value) (v19:Value) (vs29:List Value) (v41:Value) (v61:Value) (v67:Value) (v69:Value) (vs75:List Value) (vs98:List Value) (v110:Value):M R2:=
 cb.bv R2 (bn .eql 76 (.tmp 20) (.const (.int .i64 (.ofNat 17))) v18 (.int .i64 (.ofNat 17))) fun v115=>
 K3 v115 (
 a1z cb N call v0 v13 v8 v16 v17 v18 v19 vs29 v41 v61 v67 v69 vs75 vs98 v110 v115) (
 a1S cb N call v18 v0 v8 v16 v17 v19 vs29 v41 v61 v67 v69 vs75 vs98 v110 v115)
noncomputable def a1N (cb:Cb) (N:Nat) (call:j5) (v18:Value) (v0:Value) (v13:Value) (v16:Value) (v17:Value) (v19:Value) (vs29:List Value) (v41:Value) (v61:Value) (v67:Value) (v69:Value) (vs75:List Value) (vs98:List Value) (v8:Value):M R2:=
 cb.bv R2 (bn .eql 76 (.tmp 20) (.const (.int .i64 (.ofNat 13))) v18 (.int .i64 (.ofNat 13))) fun v110=>
 K3 v110 (
 a1R cb N call v0 v13 v16 v17 v18 v19 vs29 v41 v61 v67 v69 vs75 vs98 v110) (
 a1F cb N call v18 v0 v13 v8 v16 v17 v19 vs29 v41 v61 v67 v69 vs75 vs98 v110)
noncomputable def a1Z (cb:Cb) (N:Nat) (call:j5) (v18:Value) (v0:Value) (v13:Value) (v11:Value) (v16:Value) (v17:Value) (v19:Value) (vs29:List Value) (v41:Value) (v61:Value) (v67:Value) (v69:Value) (vs75:List Value) (v8:Value):M R2:=
 cb.bj R2 (cb.bv R2 (bn .eql 76 (.tmp 20) (.const (.int .i64 (.ofNat 11))) v18 (.int .i64 (.ofNat 11))) fun v99=>
 K3 v99 (
 M.pure (.normal, [v99,undef,v99])) (
 cb.bv R2 (bn .eql 76 (.tmp 20) (.const (.int .i64 (.ofNat 15))) v18 (.int .i64 (.ofNat 15))) fun v100=>
 M.pure (.normal, [v99,v100,v100]))) fun x97 vs98=>
 M5 x97 (K3 (d9 vs98 2) (
 a1j cb N call v0 v13 v11 v16 v17 v18 v19 vs29 v41 v61 v67 v69 vs75 vs98) (
 a1N cb N call v18 v0 v13 v16 v17 v19 vs29 v41 v61 v67 v69 vs75 vs98 v8)) (fun _=>M.fail) (M.fail) N7
noncomputable def a1Y (cb:Cb) (N:Nat) (call:j5) (v18:Value) (v0:Value) (v11:Value) (v16:Value) (v17:Value) (v19:Value) (vs29:List Value) (v41:Value) (v61:Value) (v67:Value) (v69:Value) (v13:Value) (v8:Value):M R2:=
 cb.bj R2 (cb.bv R2 (bn .eql 76 (.tmp 20) (.const (.int .i64 (.ofNat 10))) v18 (.int .i64 (.ofNat 10))) fun v76=>
 K3 v76 (
 M.pure (.normal, [v76,undef,v76])) (
 cb.bv R2 (bn .eql 76 (.tmp 20) (.const (.int .i64 (.ofNat 14))) v18 (.int .i64 (.ofNat 14))) fun v77=>
 M.pure (.normal, [v76,v77,v77]))) fun x74 vs75=>
 M5 x74 (K3 (d9 vs75 2) (
 a1M cb N call v0 v11 v16 v17 v18 v19 vs29 v41 v61 v67 v69 vs75) (
 a1Z cb N call v18 v0 v13 v11 v16 v17 v19 vs29 v41 v61 v67 v69 vs75 v8)) (fun _=>M.fail) (M.fail) N7
noncomputable def a1D (cb:Cb) (N:Nat) (call:j5) (v18:Value) (v0:Value) (v13:Value) (v16:Value) (v17:Value) (v19:Value) (vs29:List Value) (v41:Value) (v61:Value) (v67:Value) (v11:Value) (v8:Value):M R2:=
 cb.bv R2 (bn .eql 76 (.tmp 20) (.const (.int .i64 (.ofNat 9))) v18 (.int .i64 (.ofNat 9))) fun v69=>
 K3 v69 (
 a1W cb N call v0 v13 v16 v17 v18 v19 vs29 v41 v61 v67 v69) (
 a1Y cb N call v18 v0 v11 v16 v17 v19 vs29 v41 v61 v67 v69 v13 v8)
noncomputable def a1H (cb:Cb) (N:Nat) (call:j5) (v18:Value) (v0:Value) (v8:Value) (v16:Value) (v17:Value) (v19:Value) (vs29:List Value) (v41:Value) (v61:Value) (v13:Value) (v11:Value):M R2:=
 cb.bv R2 (bn .eql 76 (.tmp 20) (.const (.int .i64 (.ofNat 6))) v18 (.int .i64 (.ofNat 6))) fun v67=>
 K3 v67 (
 a1g cb N call v0 v8 v16 v17 v18 v19 vs29 v41 v61 v67) (
 a1D cb N call v18 v0 v13 v16 v17 v19 vs29 v41 v61 v67 v11 v8)
noncomputable def a1f (cb:Cb) (N:Nat) (call:j5) (v18:Value) (v0:Value) (v13:Value) (v8:Value) (v16:Value) (v17:Value) (v19:Value) (vs29:List Value) (v41:Value) (v11:Value):M R2:=
 cb.bv R2 (bn .eql 76 (.tmp 20) (.const (.int .i64 (.ofNat 5))) v18 (.int .i64 (.ofNat 5))) fun v61=>
 K3 v61 (
 a1E cb N call v0 v13 v8 v16 v17 v18 v19 vs29 v41 v61) (
 a1H cb N call v18 v0 v8 v16 v17 v19 vs29 v41 v61 v13 v11)
noncomputable def a1B (cb:Cb) (N:Nat) (call:j5) (v18:Value) (v0:Value) (v11:Value) (v16:Value) (v17:Value) (v19:Value) (vs29:List Value) (v13:Value) (v8:Value):M R2:=
 cb.bv R2 (bn .eql 76 (.tmp 20) (.const (.int .i64 (.ofNat 3))) v18 (.int .i64 (.ofNat 3))) fun v41=>
 K3 v41 (
 cb.bv R2 (xFA 8 v0) fun v42=>
 cb.bv R2 (K5 v42) fun v43=>
 a1A cb N call v43 v11 v0 v16 v17 v18 v19 vs29 v41 v42) (
 a1f cb N call v18 v0 v13 v8 v16 v17 v19 vs29 v41 v11)
noncomputable def a1k (cb:Cb) (N:Nat) (call:j5) (v18:Value) (v11:Value) (v0:Value) (v16:Value) (v17:Value) (v19:Value) (v13:Value) (v8:Value):M R2:=
 cb.bj R2 (cb.bv R2 (bn .eql 76 (.tmp 20) (.const (.int .i64 (.ofNat 2))) v18 (.int .i64 (.ofNat 2))) fun v30=>
 K3 v30 (
 M.pure (.normal, [v30,undef,undef,undef,undef,undef,v30])) (
 a2A cb N call v18 v30)) fun x28 vs29=>
 M5 x28 (K3 (d9 vs29 6) (
 a1r cb N call v11 v0 v16 v17 v18 v19 vs29) (
 a1B cb N call v18 v0 v11 v16 v17 v19 vs29 v13 v8)) (fun _=>M.fail) (M.fail) N7
noncomputable def a1G (cb:Cb) (N:Nat) (call:j5) (v0:Value) (v8:Value) (v11:Value) (v13:Value):M CR:=
 cb.bj CR (cb.bv R2 (xFA 0 v0) fun v16=>
 cb.bv R2 (K5 v16) fun v17=>
 cb.bc R2 (call 39 [v17]) (fun v18=>
 cb.bv R2 (bn .eql 76 (.tmp 20) (.const (.int .i64 (.ofNat 1))) v18 (.int .i64 (.ofNat 1))) fun v19=>
 K3 v19 (
 a2u cb N call v0 v8 v16 v17 v18 v19) (
 a1k cb N call v18 v11 v0 v16 v17 v19 v13 v8)) N7) fun x14 vs15=>
 M5 x14 (cb.bv CR (K5 v8) fun v127=>
 cb.bc CR (call 44 [v127]) (fun v128=>
 M.pure (.ret v128)) N7) (fun i129=>bcase (Nat.beq i129 1) (M.fail) (M.fail)) (M.fail) N7
noncomputable def a1n (cb:Cb) (N:Nat) (call:j5) (v0:Value):M CR:=
 cb.bv CR (xFA 0 v0) fun v4=>
 cb.bv CR (K5 v4) fun v5=>
 cb.bc CR (call 35 [v5]) (fun v6=>
 cb.bv CR (a2p 1 1 [(0, 1)] [v6] [(.string ⟨⟨[]⟩⟩)]) fun v7=>
 cb.bv CR (b0A [(.slice none 0 0)]) fun v8=>
 cb.bv CR (a4M 1 v8 v7) fun v9=>
 cb.bv CR (c0O (.func 36) [] [v8]) fun v10=>
 cb.bv CR (b0A [.nilFunc]) fun v11=>
 cb.bv CR (a4M 1 v11 v10) fun v12=>
 cb.bv CR (c0O (.func 38) [] [v11]) fun v13=>
 a1G cb N call v0 v8 v11 v13) N7
noncomputable def a0u (cb:Cb) (N:Nat) (call:j5) (a0:Value):M CR:=
 cb.bv CR (a6X a0) fun v0=>
 cb.bv CR (a3p 9 v0) fun v1=>
 cb.bc CR (call 34 [v1]) (fun v2=>
 cb.bv CR (un .not v2) fun v3=>
 K3 v3 (
 M.pure (.ret (.string ⟨⟨[]⟩⟩))) (
 a1n cb N call v0)) N7
theorem c7q (cb:Cb) (N:Nat) (call:j5) (a0:Value):a0i Tryz.prog Q6 cb false N call Tryz.f12 c12 e2Q [a0]=a0u cb N call a0:=by kernel_rfl
noncomputable def c13:Code:=a0x Tryz.f13
noncomputable def e1x:Pl:=(.s none .d (.s none .d (.s none .d (.s none (.s none .d (.s none (.s none .d (.s none .d (.s (some [26, 27, 28, 29, 30, 31, 25]) .d (.s none .d (.s none .d (.s none .d (.s none .d (.s none .d (.s none .d (.s none .d (.s none .d (.s none .d (.s (some [75, 76, 74]) .d (.s none .d (.s (some [85, 86, 84]) .d .d))))))))))))))) .d)) .d))))
noncomputable def a9Q:List Oper:=a6b c13 18
noncomputable def a9H:List Oper:=a6b c13 28
noncomputable def a3C (call:j5) (u0:Value) (u1:Value) (u2:Value) (u3:Value) (u4:Value) (u5:Value) (u6:Value) (u7:Value) (u8:Value) (u9:Value) (u10:Value) (u11:Value) (u12:Value):M R2:=
 M.bind (M.foot (M.pure u0)) fun y0=>
 M.bind (M.foot (xFA 2 u6)) fun y1=>
 M.bind (M.foot (K5 y1.1)) fun y2=>
 M.bind (M.foot (a2g call 49 [y2.1])) fun y3=>
 M.bind (M.foot (bn .add 9 (.tmp 45) (.tmp 48) y0.1 y3.1)) fun y4=>
 M.bind (M.foot (bn .add 9 (.tmp 49) (.const (.string ⟨⟨[32, 40, 116, 121, 112, 101]⟩⟩)) y4.1 (.string ⟨⟨[32, 40, 116, 121, 112, 101]⟩⟩))) fun y5=>
 M.bind (M.foot (xFA 1 u6)) fun y6=>
 M.bind (M.foot (K5 y6.1)) fun y7=>
 M.bind (M.foot (a2g call 47 [y7.1])) fun y8=>
 M.bind (M.foot (bn .add 9 (.tmp 50) (.tmp 53) y5.1 y8.1)) fun y9=>
 M.bind (M.foot (bn .add 9 (.tmp 54) (.const (.string ⟨⟨[41]⟩⟩)) y9.1 (.string ⟨⟨[41]⟩⟩))) fun y10=>
 M.bind (M.foot (M.pure y10.1)) fun y11=>
 M.guard (a1b a9Q (a2I a9Q [y0.2,y1.2,y2.2,y3.2,y4.2,y5.2,y6.2,y7.2,y8.2,y9.2,y10.2,y11.2]) [] [] 0) (M.pure (.normal, [y0.1,y1.1,y2.1,y3.1,y4.1,y5.1,y6.1,y7.1,y8.1,y9.1,y10.1,y11.1]))
theorem a2D (call:j5) (u0:Value) (u1:Value) (u2:Value) (u3:Value) (u4:Value) (u5:Value) (u6:Value) (u7:Value) (u8:Value) (u9:Value) (u10:Value) (u11:Value) (u12:Value):dr call a9Q 135 [3, 46, 47, 45, 48, 49, 1, 51, 52, 50, 53, 54, 55] [u0,u1,u2,u3,u4,u5,u6,u7,u8,u9,u10,u11,u12] [45, 46, 47, 48, 49, 50, 51, 52, 53, 54, 55, 3]=a3C call u0 u1 u2 u3 u4 u5 u6 u7 u8 u9 u10 u11 u12:=(a4Q _ _ _ _ _ _ _ _).trans (by kernel_rfl)
theorem c1q {F:List a3t} (hl:M4 F=12) (h:a4e [(0, 1),(0, 2),(0, 3),(0, 6),(1, 6),(2, 6),(3, 6),(4, 6),(5, 6),(0, 7),(1, 7),(2, 7),(3, 7),(4, 7),(5, 7),(0, 8),(4, 8),(5, 8)] F=true):a1b a9Q (a2I a9Q F) [] [] 0=true:=a5C (L:=[(0, 1),(0, 2),(0, 3),(0, 6),(1, 6),(2, 6),(3, 6),(4, 6),(5, 6),(0, 7),(1, 7),(2, 7),(3, 7),(4, 7),(5, 7),(0, 8),(4, 8),(5, 8)]) (by kernel_rfl) (by kernel_rfl) hl h
noncomputable def a3H (call:j5) (u0:Value) (u1:Value) (u2:Value) (u3:Value) (u4:Value) (u5:Value) (u6:Value) (u7:Value) (u8:Value) (u9:Value) (u10:Value):M R2:=
 M.bind (M.foot (M.pure u0)) fun y0=>
 M.bind (M.foot (xFA 2 u5)) fun y1=>
 M.bind (M.foot (K5 y1.1)) fun y2=>
 M.bind (M.foot (a2g call 49 [y2.1])) fun y3=>
 M.bind (M.foot (bn .add 9 (.tmp 87) (.tmp 90) y0.1 y3.1)) fun y4=>
 M.bind (M.foot (xFA 1 u5)) fun y5=>
 M.bind (M.foot (K5 y5.1)) fun y6=>
 M.bind (M.foot (a2g call 47 [y6.1])) fun y7=>
 M.bind (M.foot (bn .add 9 (.tmp 91) (.tmp 94) y4.1 y7.1)) fun y8=>
 M.bind (M.foot (M.pure y8.1)) fun y9=>
 M.guard (a1b a9H (a2I a9H [y0.2,y1.2,y2.2,y3.2,y4.2,y5.2,y6.2,y7.2,y8.2,y9.2]) [] [] 0) (M.pure (.normal, [y0.1,y1.1,y2.1,y3.1,y4.1,y5.1,y6.1,y7.1,y8.1,y9.1]))
theorem a2C (call:j5) (u0:Value) (u1:Value) (u2:Value) (u3:Value) (u4:Value) (u5:Value) (u6:Value) (u7:Value) (u8:Value) (u9:Value) (u10:Value):dr call a9H 135 [3, 88, 89, 87, 90, 1, 92, 93, 91, 94, 95] [u0,u1,u2,u3,u4,u5,u6,u7,u8,u9,u10] [87, 88, 89, 90, 91, 92, 93, 94, 95, 3]=a3H call u0 u1 u2 u3 u4 u5 u6 u7 u8 u9 u10:=(a4Q _ _ _ _ _ _ _ _).trans (by kernel_rfl)
theorem b4x {F:List a3t} (hl:M4 F=10) (h:a4e [(0, 1),(0, 2),(0, 3),(0, 5),(1, 5),(2, 5),(3, 5),(4, 5),(0, 6),(1, 6),(2, 6),(3, 6),(4, 6),(0, 7),(4, 7)] F=true):a1b a9H (a2I a9H F) [] [] 0=true:=a5C (L:=[(0, 1),(0, 2),(0, 3),(0, 5),(1, 5),(2, 5),(3, 5),(4, 5),(0, 6),(1, 6),(2, 6),(3, 6),(4, 6),(0, 7),(4, 7)]) (by kernel_rfl) (by kernel_rfl) hl h
noncomputable def a4t (cb:Cb) (N:Nat) (call:j5) (v6:Value) (v0:Value):M CR:=
 cb.bv CR (bn .add 9 (.tmp 19) (.const (.string ⟨⟨[32]⟩⟩)) v6 (.string ⟨⟨[32]⟩⟩)) fun v15=>
 cb.bv CR (xFA 4 v0) fun v16=>
 cb.bv CR (a3p 3 v16) fun v17=>
 cb.bc CR (call 15 [v17]) (fun v18=>
 cb.bv CR (bn .add 9 (.tmp 20) (.tmp 23) v15 v18) fun v19=>
 M.pure (.ret v19)) N7
noncomputable def a4x (cb:Cb) (N:Nat) (call:j5) (v0:Value) (v6:Value):M CR:=
 cb.bv CR (xFA 4 v0) fun v11=>
 cb.bv CR (xFA 0 v11) fun v12=>
 cb.bv CR (K5 v12) fun v13=>
 cb.bv CR (bn .neq 3 (.tmp 17) (.const (.int .i64 (.ofNat 0))) v13 (.int .i64 (.ofNat 0))) fun v14=>
 K3 v14 (
 a4t cb N call v6 v0) (
 M.pure (.ret v6))
noncomputable def a4u (cb:Cb) (N:Nat) (call:j5) (v9:Value) (v22:Value) (v23:Value) (v24:Value) (v25:Value) (v26:Value):M R2:=
 cb.bv R2 (bn .eql 3 (.tmp 12) (.const (.int .i64 (.ofNat 16))) v9 (.int .i64 (.ofNat 16))) fun v27=>
 M.pure (.normal, [v22,v23,v24,v25,v26,v27,v27])
noncomputable def a4z (cb:Cb) (N:Nat) (call:j5) (v9:Value) (v22:Value) (v23:Value) (v24:Value) (v25:Value):M R2:=
 cb.bv R2 (bn .eql 3 (.tmp 12) (.const (.int .i64 (.ofNat 12))) v9 (.int .i64 (.ofNat 12))) fun v26=>
 K3 v26 (
 M.pure (.normal, [v22,v23,v24,v25,v26,undef,v26])) (
 a4u cb N call v9 v22 v23 v24 v25 v26)
noncomputable def a4v (cb:Cb) (N:Nat) (call:j5) (v9:Value) (v22:Value) (v23:Value) (v24:Value):M R2:=
 cb.bv R2 (bn .eql 3 (.tmp 12) (.const (.int .i64 (.ofNat 8))) v9 (.int .i64 (.ofNat 8))) fun v25=>
 K3 v25 (
 M.pure (.normal, [v22,v23,v24,v25,undef,undef,v25])) (
 a4z cb N call v9 v22 v23 v24 v25)
noncomputable def a4F (cb:Cb) (N:Nat) (call:j5) (v9:Value) (v22:Value) (v23:Value):M R2:=
 cb.bv R2 (bn .eql 3 (.tmp 12) (.const (.int .i64 (.ofNat 7))) v9 (.int .i64 (.ofNat 7))) fun v24=>
 K3 v24 (
 M.pure (.normal, [v22,v23,v24,undef,undef,undef,v24])) (
 a4v cb N call v9 v22 v23 v24)
noncomputable def a4A (cb:Cb) (N:Nat) (call:j5) (v9:Value) (v22:Value):M R2:=
 cb.bv R2 (bn .eql 3 (.tmp 12) (.const (.int .i64 (.ofNat 4))) v9 (.int .i64 (.ofNat 4))) fun v23=>
 K3 v23 (
 M.pure (.normal, [v22,v23,undef,undef,undef,undef,v23])) (
 a4F cb N call v9 v22 v23)
noncomputable def a4C (cb:Cb) (N:Nat) (call:j5) (v0:Value) (v6:Value):M CR:=
 cb.bv CR (xFA 1 v0) fun v28=>
 cb.bv CR (K5 v28) fun v29=>
 cb.bc CR (call 47 [v29]) (fun v30=>
 cb.bv CR (bn .add 9 (.tmp 32) (.tmp 35) v6 v30) fun v31=>
 M.pure (.ret v31)) N7
noncomputable def a4B (cb:Cb) (N:Nat) (call:j5) (v0:Value) (v6:Value):M CR:=
 cb.bv CR (a3p 9 v0) fun v33=>
 cb.bc CR (call 48 [v33]) (fun v34=>
 cb.bv CR (bn .add 9 (.tmp 39) (.tmp 41) v6 v34) fun v35=>
 M.pure (.ret v35)) N7
noncomputable def a4w (cb:Cb) (N:Nat) (call:j5) (v6:Value) (v0:Value):M CR:=
 cb.bj CR (dr call a9Q 135 [3, 46, 47, 45, 48, 49, 1, 51, 52, 50, 53, 54, 55] [v6,undef,undef,undef,undef,undef,v0,undef,undef,undef,undef,undef,undef] [45, 46, 47, 48, 49, 50, 51, 52, 53, 54, 55, 3]) fun _ vs37=>
 M.pure (.ret (d9 vs37 11))
noncomputable def a3M (cb:Cb) (N:Nat) (call:j5) (v6:Value) (v0:Value):M CR:=
 cb.bv CR (bn .add 9 (.tmp 58) (.const (.string ⟨⟨[32, 40, 114, 101, 115, 117, 108, 116, 32]⟩⟩)) v6 (.string ⟨⟨[32, 40, 114, 101, 115, 117, 108, 116, 32]⟩⟩)) fun v39=>
 cb.bv CR (xFA 7 v0) fun v40=>
 cb.bv CR (K5 v40) fun v41=>
 cb.bv CR (a5I 1 v41 (.int .i64 (.ofNat 0))) fun v42=>
 cb.bv CR (K5 v42) fun v43=>
 cb.bc CR (call 50 [v43]) (fun v44=>
 cb.bv CR (bn .add 9 (.tmp 59) (.tmp 64) v39 v44) fun v45=>
 cb.bv CR (bn .add 9 (.tmp 65) (.const (.string ⟨⟨[41]⟩⟩)) v45 (.string ⟨⟨[41]⟩⟩)) fun v46=>
 M.pure (.ret v46)) N7
noncomputable def a3D (cb:Cb) (N:Nat) (call:j5) (v0:Value) (v6:Value):M CR:=
 cb.bv CR (xFA 1 v0) fun v48=>
 cb.bv CR (K5 v48) fun v49=>
 cb.bc CR (call 49 [v49]) (fun v50=>
 cb.bv CR (bn .add 9 (.tmp 69) (.tmp 72) v6 v50) fun v51=>
 M.pure (.ret v51)) N7
noncomputable def a3I (cb:Cb) (N:Nat) (call:j5) (v0:Value) (v6:Value):M CR:=
 cb.bv CR (xFA 1 v0) fun v56=>
 cb.bv CR (K5 v56) fun v57=>
 cb.bv CR (xFA 2 v0) fun v58=>
 cb.bv CR (K5 v58) fun v59=>
 cb.bc CR (call 51 [v57,v59]) (fun v60=>
 cb.bv CR (bn .add 9 (.tmp 77) (.tmp 82) v6 v60) fun v61=>
 M.pure (.ret v61)) N7
noncomputable def a3S (cb:Cb) (N:Nat) (call:j5) (v6:Value) (v0:Value):M CR:=
 cb.bj CR (dr call a9H 135 [3, 88, 89, 87, 90, 1, 92, 93, 91, 94, 95] [v6,undef,undef,undef,undef,v0,undef,undef,undef,undef,undef] [87, 88, 89, 90, 91, 92, 93, 94, 95, 3]) fun _ vs66=>
 M.pure (.ret (d9 vs66 9))
noncomputable def a3A (cb:Cb) (N:Nat) (call:j5) (v0:Value) (v6:Value):M CR:=
 cb.bv CR (xFA 2 v0) fun v68=>
 cb.bv CR (K5 v68) fun v69=>
 cb.bc CR (call 49 [v69]) (fun v70=>
 cb.bv CR (bn .add 9 (.tmp 98) (.tmp 101) v6 v70) fun v71=>
 M.pure (.ret v71)) N7
noncomputable def a3J (cb:Cb) (N:Nat) (call:j5) (v0:Value) (v6:Value):M CR:=
 cb.bv CR (a3p 9 v0) fun v73=>
 cb.bc CR (call 52 [v73]) (fun v74=>
 cb.bv CR (bn .add 9 (.tmp 105) (.tmp 107) v6 v74) fun v75=>
 M.pure (.ret v75)) N7
noncomputable def a3x (cb:Cb) (N:Nat) (call:j5) (v6:Value) (v0:Value):M CR:=
 cb.bv CR (bn .add 9 (.tmp 111) (.const (.string ⟨⟨[32]⟩⟩)) v6 (.string ⟨⟨[32]⟩⟩)) fun v77=>
 cb.bv CR (xFA 3 v0) fun v78=>
 cb.bv CR (K5 v78) fun v79=>
 cb.bc CR (call 53 [v79,(.int .i64 (.ofNat 32))]) (fun v80=>
 cb.bv CR (bn .add 9 (.tmp 112) (.tmp 115) v77 v80) fun v81=>
 M.pure (.ret v81)) N7
noncomputable def a3T (cb:Cb) (N:Nat) (call:j5) (v6:Value) (v0:Value):M CR:=
 cb.bv CR (bn .add 9 (.tmp 119) (.const (.string ⟨⟨[32]⟩⟩)) v6 (.string ⟨⟨[32]⟩⟩)) fun v83=>
 cb.bv CR (xFA 3 v0) fun v84=>
 cb.bv CR (K5 v84) fun v85=>
 cb.bc CR (call 53 [v85,(.int .i64 (.ofNat 64))]) (fun v86=>
 cb.bv CR (bn .add 9 (.tmp 120) (.tmp 123) v83 v86) fun v87=>
 M.pure (.ret v87)) N7
noncomputable def a3v (cb:Cb) (N:Nat) (call:j5) (v6:Value):M CR:=
 cb.bv CR (bn .add 9 (.tmp 132) (.const (.string ⟨⟨[32, 101, 120, 116, 101, 114, 110]⟩⟩)) v6 (.string ⟨⟨[32, 101, 120, 116, 101, 114, 110]⟩⟩)) fun v93=>
 M.pure (.ret v93)
noncomputable def a3R (cb:Cb) (N:Nat) (call:j5) (v0:Value) (v6:Value):M CR:=
 cb.bv CR (xFA 1 v0) fun v89=>
 cb.bv CR (K5 v89) fun v90=>
 cb.bv CR (bn .eql 3 (.tmp 128) (.const (.int .i64 (.ofNat 3))) v90 (.int .i64 (.ofNat 3))) fun v91=>
 K3 v91 (
 cb.bv CR (bn .add 9 (.tmp 130) (.const (.string ⟨⟨[32, 102, 117, 110, 99]⟩⟩)) v6 (.string ⟨⟨[32, 102, 117, 110, 99]⟩⟩)) fun v92=>
 M.pure (.ret v92)) (
 a3v cb N call v6)
noncomputable def a3K (cb:Cb) (N:Nat) (call:j5) (v9:Value) (v0:Value) (v6:Value):M CR:=
 cb.bv CR (bn .eql 3 (.tmp 12) (.const (.int .i64 (.ofNat 20))) v9 (.int .i64 (.ofNat 20))) fun v88=>
 K3 v88 (
 a3R cb N call v0 v6) (
 M.pure (.ret v6))
noncomputable def a3z (cb:Cb) (N:Nat) (call:j5) (v9:Value) (v6:Value) (v0:Value):M CR:=
 cb.bv CR (bn .eql 3 (.tmp 12) (.const (.int .i64 (.ofNat 19))) v9 (.int .i64 (.ofNat 19))) fun v82=>
 K3 v82 (
 a3T cb N call v6 v0) (
 a3K cb N call v9 v0 v6)
noncomputable def a3U (cb:Cb) (N:Nat) (call:j5) (v9:Value) (v6:Value) (v0:Value):M CR:=
 cb.bv CR (bn .eql 3 (.tmp 12) (.const (.int .i64 (.ofNat 18))) v9 (.int .i64 (.ofNat 18))) fun v76=>
 K3 v76 (
 a3x cb N call v6 v0) (
 a3z cb N call v9 v6 v0)
noncomputable def a3O (cb:Cb) (N:Nat) (call:j5) (v9:Value) (v0:Value) (v6:Value):M CR:=
 cb.bv CR (bn .eql 3 (.tmp 12) (.const (.int .i64 (.ofNat 17))) v9 (.int .i64 (.ofNat 17))) fun v72=>
 K3 v72 (
 a3J cb N call v0 v6) (
 a3U cb N call v9 v6 v0)
noncomputable def a3P (cb:Cb) (N:Nat) (call:j5) (v9:Value) (v0:Value) (v6:Value):M CR:=
 cb.bv CR (bn .eql 3 (.tmp 12) (.const (.int .i64 (.ofNat 13))) v9 (.int .i64 (.ofNat 13))) fun v67=>
 K3 v67 (
 a3A cb N call v0 v6) (
 a3O cb N call v9 v0 v6)
noncomputable def a3G (cb:Cb) (N:Nat) (call:j5) (v9:Value) (v6:Value) (v0:Value):M CR:=
 cb.bj CR (cb.bv R2 (bn .eql 3 (.tmp 12) (.const (.int .i64 (.ofNat 11))) v9 (.int .i64 (.ofNat 11))) fun v64=>
 K3 v64 (
 M.pure (.normal, [v64,undef,v64])) (
 cb.bv R2 (bn .eql 3 (.tmp 12) (.const (.int .i64 (.ofNat 15))) v9 (.int .i64 (.ofNat 15))) fun v65=>
 M.pure (.normal, [v64,v65,v65]))) fun x62 vs63=>
 M5 x62 (K3 (d9 vs63 2) (
 a3S cb N call v6 v0) (
 a3P cb N call v9 v0 v6)) (fun _=>M.fail) (M.fail) N7
noncomputable def a3y (cb:Cb) (N:Nat) (call:j5) (v9:Value) (v0:Value) (v6:Value):M CR:=
 cb.bj CR (cb.bv R2 (bn .eql 3 (.tmp 12) (.const (.int .i64 (.ofNat 10))) v9 (.int .i64 (.ofNat 10))) fun v54=>
 K3 v54 (
 M.pure (.normal, [v54,undef,v54])) (
 cb.bv R2 (bn .eql 3 (.tmp 12) (.const (.int .i64 (.ofNat 14))) v9 (.int .i64 (.ofNat 14))) fun v55=>
 M.pure (.normal, [v54,v55,v55]))) fun x52 vs53=>
 M5 x52 (K3 (d9 vs53 2) (
 a3I cb N call v0 v6) (
 a3G cb N call v9 v6 v0)) (fun _=>M.fail) (M.fail) N7
noncomputable def a3W (cb:Cb) (N:Nat) (call:j5) (v9:Value) (v0:Value) (v6:Value):M CR:=
 cb.bv CR (bn .eql 3 (.tmp 12) (.const (.int .i64 (.ofNat 9))) v9 (.int .i64 (.ofNat 9))) fun v47=>
 K3 v47 (
 a3D cb N call v0 v6) (
 a3y cb N call v9 v0 v6)
noncomputable def a3L (cb:Cb) (N:Nat) (call:j5) (v9:Value) (v6:Value) (v0:Value):M CR:=
 cb.bv CR (bn .eql 3 (.tmp 12) (.const (.int .i64 (.ofNat 6))) v9 (.int .i64 (.ofNat 6))) fun v38=>
 K3 v38 (
 a3M cb N call v6 v0) (
 a3W cb N call v9 v0 v6)
noncomputable def a3V (cb:Cb) (N:Nat) (call:j5) (v9:Value) (v6:Value) (v0:Value):M CR:=
 cb.bv CR (bn .eql 3 (.tmp 12) (.const (.int .i64 (.ofNat 5))) v9 (.int .i64 (.ofNat 5))) fun v36=>
 K3 v36 (
 a4w cb N call v6 v0) (
 a3L cb N call v9 v6 v0)
noncomputable def a3F (cb:Cb) (N:Nat) (call:j5) (v9:Value) (v0:Value) (v6:Value):M CR:=
 cb.bv CR (bn .eql 3 (.tmp 12) (.const (.int .i64 (.ofNat 3))) v9 (.int .i64 (.ofNat 3))) fun v32=>
 K3 v32 (
 a4B cb N call v0 v6) (
 a3V cb N call v9 v6 v0)
noncomputable def a3Q (cb:Cb) (N:Nat) (call:j5) (v9:Value) (v0:Value) (v6:Value):M CR:=
 cb.bj CR (cb.bv R2 (bn .eql 3 (.tmp 12) (.const (.int .i64 (.ofNat 2))) v9 (.int .i64 (.ofNat 2))) fun v22=>
 K3 v22 (
 M.pure (.normal, [v22,undef,undef,undef,undef,undef,v22])) (
 a4A cb N call v9 v22)) fun x20 vs21=>
 M5 x20 (K3 (d9 vs21 6) (
 a4C cb N call v0 v6) (
 a3F cb N call v9 v0 v6)) (fun _=>M.fail) (M.fail) N7
noncomputable def a3w (cb:Cb) (N:Nat) (call:j5) (v0:Value):M CR:=
 cb.bv CR (xFA 0 v0) fun v4=>
 cb.bv CR (K5 v4) fun v5=>
 cb.bc CR (call 45 [v5]) (fun v6=>
 cb.bv CR (xFA 0 v0) fun v7=>
 cb.bv CR (K5 v7) fun v8=>
 cb.bc CR (call 46 [v8]) (fun v9=>
 cb.bv CR (bn .eql 3 (.tmp 12) (.const (.int .i64 (.ofNat 1))) v9 (.int .i64 (.ofNat 1))) fun v10=>
 K3 v10 (
 a4x cb N call v0 v6) (
 a3Q cb N call v9 v0 v6)) N7) N7
noncomputable def a0Y (cb:Cb) (N:Nat) (call:j5) (a0:Value):M CR:=
 cb.bv CR (a6X a0) fun v0=>
 cb.bv CR (a3p 9 v0) fun v1=>
 cb.bc CR (call 19 [v1]) (fun v2=>
 cb.bv CR (un .not v2) fun v3=>
 K3 v3 (
 M.pure (.ret (.string ⟨⟨[]⟩⟩))) (
 a3w cb N call v0)) N7
theorem c7j (cb:Cb) (N:Nat) (call:j5) (a0:Value):a0i Tryz.prog Q6 cb false N call Tryz.f13 c13 e1x [a0]=a0Y cb N call a0:=by kernel_rfl
noncomputable def c14:Code:=a0x Tryz.f14
noncomputable def e1a:Pl:=.d
noncomputable def c5i (cb:Cb) (N:Nat) (call:j5) (v6:Value):M CR:=
 cb.bv CR (bn .add 9 (.const (.string ⟨⟨[40, 114, 101, 115, 117, 108, 116, 32]⟩⟩)) (.tmp 13) (.string ⟨⟨[40, 114, 101, 115, 117, 108, 116, 32]⟩⟩) v6) fun v8=>
 cb.bv CR (bn .add 9 (.tmp 14) (.const (.string ⟨⟨[41]⟩⟩)) v8 (.string ⟨⟨[41]⟩⟩)) fun v9=>
 M.pure (.ret v9)
noncomputable def c4V (cb:Cb) (N:Nat) (call:j5) (v0:Value):M CR:=
 cb.bv CR (xFA 1 v0) fun v4=>
 cb.bv CR (K5 v4) fun v5=>
 cb.bc CR (call 40 [v5]) (fun v6=>
 cb.bv CR (bn .neq 9 (.tmp 11) (.const (.string ⟨⟨[]⟩⟩)) v6 (.string ⟨⟨[]⟩⟩)) fun v7=>
 K3 v7 (
 c5i cb N call v6) (
 M.pure (.ret (.string ⟨⟨[]⟩⟩)))) N7
noncomputable def c5w (cb:Cb) (N:Nat) (call:j5) (v0:Value):M CR:=
 cb.bv CR (xFA 2 v0) fun v11=>
 cb.bv CR (K5 v11) fun v12=>
 cb.bc CR (call 37 [v12]) (fun v13=>
 cb.bv CR (bn .add 9 (.const (.string ⟨⟨[40, 116, 121, 112, 101, 32]⟩⟩)) (.tmp 20) (.string ⟨⟨[40, 116, 121, 112, 101, 32]⟩⟩) v13) fun v14=>
 cb.bv CR (bn .add 9 (.tmp 21) (.const (.string ⟨⟨[41]⟩⟩)) v14 (.string ⟨⟨[41]⟩⟩)) fun v15=>
 M.pure (.ret v15)) N7
noncomputable def c5p (cb:Cb) (N:Nat) (call:j5) (v2:Value) (v0:Value):M CR:=
 cb.bv CR (bn .eql 3 (.tmp 5) (.const (.int .i64 (.ofNat 2))) v2 (.int .i64 (.ofNat 2))) fun v10=>
 K3 v10 (
 c5w cb N call v0) (
 M.pure (.ret (.string ⟨⟨[]⟩⟩)))
noncomputable def b7i (cb:Cb) (N:Nat) (call:j5) (a0:Value):M CR:=
 cb.bv CR (a6X a0) fun v0=>
 cb.bv CR (xFA 0 v0) fun v1=>
 cb.bv CR (K5 v1) fun v2=>
 cb.bv CR (bn .eql 3 (.tmp 5) (.const (.int .i64 (.ofNat 1))) v2 (.int .i64 (.ofNat 1))) fun v3=>
 K3 v3 (
 c4V cb N call v0) (
 c5p cb N call v2 v0)
theorem c6t (cb:Cb) (N:Nat) (call:j5) (a0:Value):a0i Tryz.prog Q6 cb false N call Tryz.f14 c14 e1a [a0]=b7i cb N call a0:=by kernel_rfl
noncomputable def c15:Code:=a0x Tryz.f15
noncomputable def e3e:Pl:=.d
noncomputable def c5l (cb:Cb) (N:Nat) (call:j5) (v0:Value):M CR:=
 cb.bv CR (xFA 1 v0) fun v8=>
 cb.bv CR (K5 v8) fun v9=>
 cb.bc CR (call 50 [v9]) (fun v10=>
 cb.bv CR (bn .add 9 (.const (.string ⟨⟨[40, 114, 101, 115, 117, 108, 116, 32]⟩⟩)) (.tmp 13) (.string ⟨⟨[40, 114, 101, 115, 117, 108, 116, 32]⟩⟩) v10) fun v11=>
 cb.bv CR (bn .add 9 (.tmp 14) (.const (.string ⟨⟨[41]⟩⟩)) v11 (.string ⟨⟨[41]⟩⟩)) fun v12=>
 M.pure (.ret v12)) N7
noncomputable def c4K (cb:Cb) (N:Nat) (call:j5) (v0:Value):M CR:=
 cb.bv CR (xFA 1 v0) fun v4=>
 cb.bv CR (K5 v4) fun v5=>
 cb.bc CR (call 54 [v5]) (fun v6=>
 cb.bv CR (un .not v6) fun v7=>
 K3 v7 (
 M.pure (.ret (.string ⟨⟨[]⟩⟩))) (
 c5l cb N call v0)) N7
noncomputable def c4L (cb:Cb) (N:Nat) (call:j5) (v0:Value):M CR:=
 cb.bv CR (xFA 2 v0) fun v14=>
 cb.bv CR (K5 v14) fun v15=>
 cb.bc CR (call 55 [v15]) (fun v16=>
 cb.bv CR (bn .add 9 (.const (.string ⟨⟨[40, 116, 121, 112, 101, 32]⟩⟩)) (.tmp 20) (.string ⟨⟨[40, 116, 121, 112, 101, 32]⟩⟩) v16) fun v17=>
 cb.bv CR (bn .add 9 (.tmp 21) (.const (.string ⟨⟨[41]⟩⟩)) v17 (.string ⟨⟨[41]⟩⟩)) fun v18=>
 M.pure (.ret v18)) N7
noncomputable def c5Q (cb:Cb) (N:Nat) (call:j5) (v2:Value) (v0:Value):M CR:=
 cb.bv CR (bn .eql 3 (.tmp 4) (.const (.int .i64 (.ofNat 2))) v2 (.int .i64 (.ofNat 2))) fun v13=>
 K3 v13 (
 c4L cb N call v0) (
 M.pure (.ret (.string ⟨⟨[]⟩⟩)))
noncomputable def b6n (cb:Cb) (N:Nat) (call:j5) (a0:Value):M CR:=
 cb.bv CR (a6X a0) fun v0=>
 cb.bv CR (xFA 0 v0) fun v1=>
 cb.bv CR (K5 v1) fun v2=>
 cb.bv CR (bn .eql 3 (.tmp 4) (.const (.int .i64 (.ofNat 1))) v2 (.int .i64 (.ofNat 1))) fun v3=>
 K3 v3 (
 c4K cb N call v0) (
 c5Q cb N call v2 v0)
theorem c6S (cb:Cb) (N:Nat) (call:j5) (a0:Value):a0i Tryz.prog Q6 cb false N call Tryz.f15 c15 e3e [a0]=b6n cb N call a0:=by kernel_rfl
noncomputable def c16:Code:=a0x Tryz.f16
noncomputable def e2W:Pl:=(.s none .d (.s none .d (.s none (.s none .d (.s none (.l [11, 12, 13, 14, 17, 18, 19, 20, 21, 22, 23, 24, 25, 4, 15, 16, 5] .d) .d)) .d)))
noncomputable def d9v:List Oper:=a6b c16 6
noncomputable def d1P (cb:Cb) (N:Nat) (call:j5) (xs3:List Value) (a0:Value) (v6:Value) (v7:Value) (vs8:List Value):M R2:=
 M.pure (.ret, [(d9 xs3 16),a0,v6,v7,(d9 vs8 0),(d9 vs8 1),(d9 vs8 2),(d9 vs8 3),(d9 vs8 4),(d9 vs8 5),(d9 vs8 6),(d9 vs8 7),(d9 vs8 8),(.bool false),(d9 xs3 14),(d9 xs3 15),(d9 xs3 16)])
noncomputable def d3I (cb:Cb) (N:Nat) (call:j5) (xs3:List Value) (a0:Value) (v6:Value) (v7:Value) (vs8:List Value):M R2:=
 cb.bv R2 (bn .add 3 (.tmp 15) (.const (.int .i64 (.ofNat 1))) (d9 xs3 16) (.int .i64 (.ofNat 1))) fun v9=>
 M.pure (.normal, [(d9 xs3 16),a0,v6,v7,(d9 vs8 0),(d9 vs8 1),(d9 vs8 2),(d9 vs8 3),(d9 vs8 4),(d9 vs8 5),(d9 vs8 6),(d9 vs8 7),(d9 vs8 8),(d9 xs3 13),(d9 xs3 16),v9,v9])
noncomputable def d3L (cb:Cb) (N:Nat) (call:j5) (a0:Value) (xs3:List Value) (a1:Value) (v6:Value) (v7:Value):M R2:=
 cb.bj R2 (dr call d9v 26 [0, 17, 18, 19, 1, 5, 21, 22, 23, 20, 24] [a0,(d9 xs3 4),(d9 xs3 5),(d9 xs3 6),a1,(d9 xs3 16),(d9 xs3 8),(d9 xs3 9),(d9 xs3 10),(d9 xs3 7),(d9 xs3 11)] [17, 18, 19, 20, 21, 22, 23, 24, 25]) fun _ vs8=>
 K3 (d9 vs8 8) (
 d1P cb N call xs3 a0 v6 v7 vs8) (
 d3I cb N call xs3 a0 v6 v7 vs8)
noncomputable def d4h (cb:Cb) (N:Nat) (call:j5) (xs3:List Value) (a0:Value) (v6:Value) (v7:Value):M R2:=
 M.pure (.exit 0, [(d9 xs3 16),a0,v6,v7,(d9 xs3 4),(d9 xs3 5),(d9 xs3 6),(d9 xs3 7),(d9 xs3 8),(d9 xs3 9),(d9 xs3 10),(d9 xs3 11),(d9 xs3 12),(d9 xs3 13),(d9 xs3 14),(d9 xs3 15),(d9 xs3 16)])
noncomputable def d8b (cb:Cb) (N:Nat) (call:j5) (a0:Value) (a1:Value) (xs3:List Value):M R2:=
 cb.bv R2 (a4q a0) fun v6=>
 cb.bv R2 (bn .lss 3 (.tmp 11) (.tmp 13) (d9 xs3 16) v6) fun v7=>
 K3 v7 (
 d3L cb N call a0 xs3 a1 v6 v7) (
 d4h cb N call xs3 a0 v6 v7)
noncomputable def d4d (cb:Cb) (N:Nat) (call:j5) (a0:Value) (a1:Value):M CR:=
 cb.bj CR (cb.lp (d8b cb N call a0 a1) N [undef,undef,undef,undef,undef,undef,undef,undef,undef,undef,undef,undef,undef,(.bool false),undef,undef,(.int .i64 (.ofNat 0))]) fun x4 vs5=>
 M5 x4 (M.fail) (fun i10=>bcase (Nat.beq i10 0) (M.pure (.ret (.bool true))) (M.fail)) (M.pure (.ret (d9 vs5 13))) N7
noncomputable def c9P (cb:Cb) (N:Nat) (call:j5) (a0:Value) (a1:Value):M CR:=
 cb.bv CR (a4q a0) fun v0=>
 cb.bv CR (a4q a1) fun v1=>
 cb.bv CR (bn .neq 3 (.tmp 7) (.tmp 9) v0 v1) fun v2=>
 K3 v2 (
 M.pure (.ret (.bool false))) (
 d4d cb N call a0 a1)
theorem c6K (cb:Cb) (N:Nat) (call:j5) (a0:Value) (a1:Value):a0i Tryz.prog Q6 cb false N call Tryz.f16 c16 e2W [a0,a1]=c9P cb N call a0 a1:=by kernel_rfl
noncomputable def c17:Code:=a0x Tryz.f17
noncomputable def e3p:Pl:=(.s none .d (.s none .d (.s none .d (.s none (.s none .d (.s none (.l [12, 13, 14, 6, 15, 16, 7, 17, 18, 2, 19, 20, 21, 23, 24, 25, 22, 26, 27, 29, 28, 30, 31, 32, 34, 33, 35, 36, 37, 8, 38, 4, 39, 40, 41, 42, 43, 44, 45, 3, 46, 11] (.s none .d (.s none .d (.s none (.s none (.s none .d (.s none .d (.s none .d (.s none .d (.s (some [20, 21, 23, 24, 25, 22, 26, 27, 29, 28, 30, 31, 32, 34, 33, 35, 36, 37, 8, 38, 4]) (.s none .d (.s none (.s (some [23, 24, 25, 22]) .d .d) .d)) .d))))) .d) .d)))) .d)) .d))))
noncomputable def d3G (cb:Cb) (N:Nat) (call:j5) (v4:Value) (v5:Value) (v6:Value) (v7:Value) (v9:Value) (v10:Value) (v11:Value) (xs1:List Value):M R2:=
 M.pure (.ret, [v4,v5,v6,v7,v9,v10,v10,v10,v11,(.slice none 0 0),(d9 xs1 10),(d9 xs1 11),(d9 xs1 12),(d9 xs1 13),(d9 xs1 14),(d9 xs1 15),(d9 xs1 16),(d9 xs1 17),(d9 xs1 18),(d9 xs1 19),(d9 xs1 20),(d9 xs1 21),(d9 xs1 22),(d9 xs1 23),(d9 xs1 24),(d9 xs1 25),(d9 xs1 26),(d9 xs1 27),(d9 xs1 28),(d9 xs1 29),(d9 xs1 30),(d9 xs1 31),(d9 xs1 32),(d9 xs1 33),(d9 xs1 34),(d9 xs1 35),(d9 xs1 36),(d9 xs1 37),(d9 xs1 38),(d9 xs1 39),(d9 xs1 40),(d9 xs1 41)])
noncomputable def d2B (cb:Cb) (N:Nat) (call:j5) (v15:Value) (v18:Value) (xs1:List Value):M R2:=
 cb.bv R2 (bn .eql 22 (.tmp 21) (.const (.int .i64 (.ofNat 3))) v15 (.int .i64 (.ofNat 3))) fun v19=>
 K3 v19 (
 M.pure (.normal, [v18,v19,(d9 xs1 15),v19])) (
 cb.bv R2 (bn .eql 22 (.tmp 21) (.const (.int .i64 (.ofNat 4))) v15 (.int .i64 (.ofNat 4))) fun v20=>
 M.pure (.normal, [v18,v19,v20,v20]))
noncomputable def d2l (cb:Cb) (N:Nat) (call:j5) (xs1:List Value) (v14:Value) (v15:Value) (vs17:List Value):M R2:=
 cb.bv R2 (bn .add 3 (.tmp 26) (.const (.int .i64 (.ofNat 1))) (d9 xs1 31) (.int .i64 (.ofNat 1))) fun v21=>
 M.pure (.normal, [v14,v15,(d9 vs17 0),(d9 vs17 1),(d9 vs17 2),(d9 vs17 3),(d9 xs1 31),v21,(d9 xs1 19),(d9 xs1 20),(d9 xs1 21),(d9 xs1 22),(d9 xs1 23),(d9 xs1 24),(d9 xs1 25),(d9 xs1 26),(d9 xs1 27),(d9 xs1 28),(d9 xs1 31),(d9 xs1 30),v21])
noncomputable def d1F (cb:Cb) (N:Nat) (call:j5) (xs1:List Value) (v14:Value) (v15:Value) (vs17:List Value) (v22:Value):M R2:=
 cb.bv R2 (bn .sub 3 (.tmp 30) (.const (.int .i64 (.ofNat 1))) (d9 xs1 31) (.int .i64 (.ofNat 1))) fun v23=>
 cb.bv R2 (mx #[3, 3] [(.int .i64 (.ofNat 0)),v23]) fun v24=>
 M.pure (.normal, [v14,v15,(d9 vs17 0),(d9 vs17 1),(d9 vs17 2),(d9 vs17 3),(d9 xs1 17),(d9 xs1 18),v22,v22,(d9 xs1 31),v23,v24,(d9 xs1 24),(d9 xs1 25),(d9 xs1 26),(d9 xs1 27),(d9 xs1 28),v24,(d9 xs1 30),(d9 xs1 31)])
noncomputable def d4N (cb:Cb) (N:Nat) (call:j5) (xs1:List Value) (v14:Value) (v15:Value) (vs17:List Value) (v22:Value) (v25:Value):M R2:=
 cb.bv R2 (bn .sub 3 (.tmp 35) (.const (.int .i64 (.ofNat 1))) (d9 xs1 31) (.int .i64 (.ofNat 1))) fun v26=>
 cb.bv R2 (mx #[3, 3] [(.int .i64 (.ofNat 0)),v26]) fun v27=>
 M.pure (.normal, [v14,v15,(d9 vs17 0),(d9 vs17 1),(d9 vs17 2),(d9 vs17 3),(d9 xs1 17),(d9 xs1 18),v22,v22,(d9 xs1 21),(d9 xs1 22),(d9 xs1 23),v25,v25,(d9 xs1 31),v26,v27,v27,v27,v27])
noncomputable def d1l (cb:Cb) (N:Nat) (call:j5) (v14:Value) (v15:Value) (vs17:List Value) (xs1:List Value) (v22:Value) (v25:Value):M R2:=
 M.pure (.normal, [v14,v15,(d9 vs17 0),(d9 vs17 1),(d9 vs17 2),(d9 vs17 3),(d9 xs1 17),(d9 xs1 18),v22,v22,(d9 xs1 21),(d9 xs1 22),(d9 xs1 23),v25,v25,(d9 xs1 26),(d9 xs1 27),(d9 xs1 28),(d9 xs1 31),(d9 xs1 30),(d9 xs1 31)])
noncomputable def d8r (cb:Cb) (N:Nat) (call:j5) (v15:Value) (xs1:List Value) (v14:Value) (vs17:List Value) (v22:Value):M R2:=
 cb.bv R2 (bn .eql 22 (.tmp 21) (.const (.int .i64 (.ofNat 11))) v15 (.int .i64 (.ofNat 11))) fun v25=>
 K3 v25 (
 d4N cb N call xs1 v14 v15 vs17 v22 v25) (
 d1l cb N call v14 v15 vs17 xs1 v22 v25)
noncomputable def d1p (cb:Cb) (N:Nat) (call:j5) (v15:Value) (xs1:List Value) (v14:Value) (vs17:List Value):M R2:=
 cb.bv R2 (bn .eql 22 (.tmp 21) (.const (.int .i64 (.ofNat 5))) v15 (.int .i64 (.ofNat 5))) fun v22=>
 K3 v22 (
 d1F cb N call xs1 v14 v15 vs17 v22) (
 d8r cb N call v15 xs1 v14 vs17 v22)
noncomputable def d1V (cb:Cb) (N:Nat) (call:j5) (xs1:List Value) (v4:Value) (v5:Value) (v6:Value) (v7:Value) (v9:Value) (v10:Value) (v11:Value) (vs13:List Value) (v28:Value) (v29:Value) (v30:Value) (v31:Value):M R2:=
 cb.bv R2 (bn .add 3 (.tmp 11) (.const (.int .i64 (.ofNat 1))) (d9 xs1 41) (.int .i64 (.ofNat 1))) fun v32=>
 M.pure (.normal, [v4,v5,v6,v7,v9,v10,v10,v10,v11,(d9 xs1 9),(d9 xs1 31),(d9 vs13 0),(d9 vs13 1),(d9 vs13 2),(d9 vs13 3),(d9 vs13 4),(d9 vs13 5),(d9 vs13 6),(d9 vs13 7),(d9 vs13 8),(d9 vs13 9),(d9 vs13 10),(d9 vs13 11),(d9 vs13 12),(d9 vs13 13),(d9 vs13 14),(d9 vs13 15),(d9 vs13 16),(d9 vs13 17),(d9 vs13 18),(d9 vs13 19),(d9 vs13 20),(d9 xs1 39),(d9 vs13 18),v28,v10,v29,v30,v31,v31,v32,v32])
noncomputable def d5h (cb:Cb) (N:Nat) (call:j5) (v7:Value) (xs1:List Value) (v10:Value) (v4:Value) (v5:Value) (v6:Value) (v9:Value) (v11:Value):M R2:=
 cb.bj R2 (cb.bv R2 (xFA 0 v7) fun v14=>
 cb.bv R2 (K5 v14) fun v15=>
 cb.bj R2 (cb.bv R2 (bn .eql 22 (.tmp 21) (.const (.int .i64 (.ofNat 2))) v15 (.int .i64 (.ofNat 2))) fun v18=>
 K3 v18 (
 M.pure (.normal, [v18,(d9 xs1 14),(d9 xs1 15),v18])) (
 d2B cb N call v15 v18 xs1)) fun x16 vs17=>
 M5 x16 (K3 (d9 vs17 3) (
 d2l cb N call xs1 v14 v15 vs17) (
 d1p cb N call v15 xs1 v14 vs17)) (fun _=>M.fail) (M.fail) N7) fun x12 vs13=>
 M5 x12 (cb.bc R2 (call 56 [(.string ⟨⟨[32, 32]⟩⟩),(d9 vs13 18)]) (fun v28=>
 cb.bv R2 (bn .add 9 (.tmp 41) (.tmp 42) v28 v10) fun v29=>
 cb.bv R2 (a2p 1 1 [(0, 1)] [v29] [(.string ⟨⟨[]⟩⟩)]) fun v30=>
 cb.bv R2 (a4g ti9 (d9 xs1 39) v30) fun v31=>
 d1V cb N call xs1 v4 v5 v6 v7 v9 v10 v11 vs13 v28 v29 v30 v31) N7) (fun _=>M.fail) (M.fail) N7
noncomputable def c8M (cb:Cb) (N:Nat) (call:j5) (v6:Value) (v4:Value) (v5:Value) (xs1:List Value):M R2:=
 cb.bv R2 (b0A [(.int .i64 (.ofNat 0)),(.int .i64 (.ofNat 0)),(.int .i64 (.ofNat 0)),(.int .u64 (.ofNat 0)),(.int .i64 (.ofNat 0)),(.int .i64 (.ofNat 0)),(.int .i64 (.ofNat 0)),(.slice none 0 0),(.slice none 0 0)]) fun v7=>
 cb.bv R2 (a4M 9 v7 v6) fun v8=>
 cb.bv R2 (a3p 9 v7) fun v9=>
 cb.bc R2 (call 12 [v9]) (fun v10=>
 cb.bv R2 (bn .eql 9 (.tmp 17) (.const (.string ⟨⟨[]⟩⟩)) v10 (.string ⟨⟨[]⟩⟩)) fun v11=>
 K3 v11 (
 d3G cb N call v4 v5 v6 v7 v9 v10 v11 xs1) (
 d5h cb N call v7 xs1 v10 v4 v5 v6 v9 v11)) N7
noncomputable def d0W (cb:Cb) (N:Nat) (call:j5) (v4:Value) (xs1:List Value):M R2:=
 M.pure (.exit 0, [v4,(d9 xs1 1),(d9 xs1 2),(d9 xs1 3),(d9 xs1 4),(d9 xs1 5),(d9 xs1 6),(d9 xs1 7),(d9 xs1 8),(d9 xs1 9),(d9 xs1 10),(d9 xs1 11),(d9 xs1 12),(d9 xs1 13),(d9 xs1 14),(d9 xs1 15),(d9 xs1 16),(d9 xs1 17),(d9 xs1 18),(d9 xs1 19),(d9 xs1 20),(d9 xs1 21),(d9 xs1 22),(d9 xs1 23),(d9 xs1 24),(d9 xs1 25),(d9 xs1 26),(d9 xs1 27),(d9 xs1 28),(d9 xs1 29),(d9 xs1 30),(d9 xs1 31),(d9 xs1 32),(d9 xs1 33),(d9 xs1 34),(d9 xs1 35),(d9 xs1 36),(d9 xs1 37),(d9 xs1 38),(d9 xs1 39),(d9 xs1 40),(d9 xs1 41)])
noncomputable def c9a (cb:Cb) (N:Nat) (call:j5) (v0:Value) (a0:Value) (xs1:List Value):M R2:=
 cb.bv R2 (bn .lss 3 (.tmp 11) (.tmp 10) (d9 xs1 41) v0) fun v4=>
 K3 v4 (
 cb.bv R2 (a5I 9 a0 (d9 xs1 41)) fun v5=>
 cb.bv R2 (a3p 9 v5) fun v6=>
 c8M cb N call v6 v4 v5 xs1) (
 d0W cb N call v4 xs1)
noncomputable def c8r (cb:Cb) (N:Nat) (call:j5) (v0:Value) (a0:Value):M CR:=
 cb.bj CR (cb.lp (c9a cb N call v0 a0) N [undef,undef,undef,undef,undef,undef,undef,undef,undef,(.slice none 0 0),undef,undef,undef,undef,undef,undef,undef,undef,undef,undef,undef,undef,undef,undef,undef,undef,undef,undef,undef,undef,undef,(.int .i64 (.ofNat 0)),undef,undef,undef,undef,undef,undef,undef,(.slice none 0 0),undef,(.int .i64 (.ofNat 0))]) fun x2 vs3=>
 M5 x2 (M.fail) (fun i33=>bcase (Nat.beq i33 0) (M.pure (.ret (d9 vs3 39))) (M.fail)) (M.pure (.ret (d9 vs3 9))) N7
noncomputable def c9K (cb:Cb) (N:Nat) (call:j5) (a0:Value):M CR:=
 cb.bv CR (a4q a0) fun v0=>
 c8r cb N call v0 a0
theorem c7s (cb:Cb) (N:Nat) (call:j5) (a0:Value):a0i Tryz.prog Q6 cb false N call Tryz.f17 c17 e3p [a0]=c9K cb N call a0:=by kernel_rfl
noncomputable def c18:Code:=a0x Tryz.f18
noncomputable def e2y:Pl:=(.s none .d (.s none .d (.s none .d (.s none (.s none .d (.s none (.l [9, 10, 11, 12, 15, 16, 17, 18, 19, 20, 2, 21, 22, 23, 24, 25, 26, 28, 27, 29, 30, 31, 33, 32, 34, 35, 36, 6, 37, 39, 40, 41, 38, 42, 43, 4, 44, 45, 46, 47, 48, 49, 50, 51, 54, 55, 7, 52, 53, 8, 56, 57, 58, 59, 3, 13, 14, 5] (.s none .d (.s none (.s none (.s none .d (.s none .d (.s (some [22, 23, 24, 25, 26, 28, 27, 29, 30, 31, 33, 32, 34, 35, 36, 6, 37, 39, 40, 41, 38, 42, 43, 4]) (.s none .d (.s none (.s none .d (.s none .d (.s none .d (.s none .d (.s (some [39, 40, 41, 38]) .d .d))))) .d)) (.s none .d (.s none (.s none .d (.s none (.l [49, 50, 51, 54, 55, 7, 52, 53, 8] .d) .d)) .d))))) .d) .d))) .d)) .d))))
noncomputable def d1m (cb:Cb) (N:Nat) (call:j5) (xs0:List Value) (a0:Value) (v3:Value) (v4:Value) (v5:Value) (v6:Value) (v7:Value) (v8:Value):M R2:=
 M.pure (.ret, [(d9 xs0 57),a0,v3,v4,a0,(d9 xs0 57),v5,v6,v7,v8,(.slice none 0 0),(d9 xs0 11),(d9 xs0 12),(d9 xs0 13),(d9 xs0 14),(d9 xs0 15),(d9 xs0 16),(d9 xs0 17),(d9 xs0 18),(d9 xs0 19),(d9 xs0 20),(d9 xs0 21),(d9 xs0 22),(d9 xs0 23),(d9 xs0 24),(d9 xs0 25),(d9 xs0 26),(d9 xs0 27),(d9 xs0 28),(d9 xs0 29),(d9 xs0 30),(d9 xs0 31),(d9 xs0 32),(d9 xs0 33),(d9 xs0 34),(d9 xs0 35),(d9 xs0 36),(d9 xs0 37),(d9 xs0 38),(d9 xs0 39),(d9 xs0 40),(d9 xs0 41),(d9 xs0 42),(d9 xs0 43),(d9 xs0 44),(d9 xs0 45),(d9 xs0 46),(d9 xs0 47),(d9 xs0 48),(d9 xs0 49),(d9 xs0 50),(d9 xs0 51),(d9 xs0 52),(d9 xs0 53),(d9 xs0 54),(d9 xs0 55),(d9 xs0 56),(d9 xs0 57)])
noncomputable def d7W (cb:Cb) (N:Nat) (call:j5) (xs0:List Value) (a0:Value) (v11:Value) (v12:Value) (v13:Value) (v14:Value):M R2:=
 cb.bv R2 (bn .sub 3 (.tmp 29) (.const (.int .i64 (.ofNat 1))) (d9 xs0 35) (.int .i64 (.ofNat 1))) fun v15=>
 cb.bv R2 (mx #[3, 3] [v15,(.int .i64 (.ofNat 0))]) fun v16=>
 M.pure (.normal, [a0,(d9 xs0 57),v11,v12,v13,v14,v14,(d9 xs0 35),v15,v16,(d9 xs0 22),(d9 xs0 23),(d9 xs0 24),(d9 xs0 25),(d9 xs0 26),v16,(d9 xs0 28),(d9 xs0 29),(d9 xs0 30),(d9 xs0 31),(d9 xs0 32),(d9 xs0 33),(d9 xs0 34),(d9 xs0 35)])
noncomputable def d6y (cb:Cb) (N:Nat) (call:j5) (xs0:List Value) (a0:Value) (v11:Value) (v12:Value) (v13:Value) (v14:Value) (v17:Value):M R2:=
 cb.bv R2 (bn .sub 3 (.tmp 34) (.const (.int .i64 (.ofNat 1))) (d9 xs0 35) (.int .i64 (.ofNat 1))) fun v18=>
 cb.bv R2 (mx #[3, 3] [v18,(.int .i64 (.ofNat 0))]) fun v19=>
 M.pure (.normal, [a0,(d9 xs0 57),v11,v12,v13,v14,v14,(d9 xs0 19),(d9 xs0 20),(d9 xs0 21),v17,v17,(d9 xs0 35),v18,v19,v19,v19,(d9 xs0 29),(d9 xs0 30),(d9 xs0 31),(d9 xs0 32),(d9 xs0 33),(d9 xs0 34),v19])
noncomputable def d6n (cb:Cb) (N:Nat) (call:j5) (v13:Value) (v22:Value) (xs0:List Value):M R2:=
 cb.bv R2 (bn .eql 22 (.tmp 26) (.const (.int .i64 (.ofNat 3))) v13 (.int .i64 (.ofNat 3))) fun v23=>
 K3 v23 (
 M.pure (.normal, [v22,v23,(d9 xs0 31),v23])) (
 cb.bv R2 (bn .eql 22 (.tmp 26) (.const (.int .i64 (.ofNat 4))) v13 (.int .i64 (.ofNat 4))) fun v24=>
 M.pure (.normal, [v22,v23,v24,v24]))
noncomputable def d2P (cb:Cb) (N:Nat) (call:j5) (xs0:List Value) (a0:Value) (v11:Value) (v12:Value) (v13:Value) (v14:Value) (v17:Value) (vs21:List Value):M R2:=
 cb.bv R2 (bn .add 3 (.tmp 42) (.const (.int .i64 (.ofNat 1))) (d9 xs0 35) (.int .i64 (.ofNat 1))) fun v25=>
 M.pure (.normal, [a0,(d9 xs0 57),v11,v12,v13,v14,v14,(d9 xs0 19),(d9 xs0 20),(d9 xs0 21),v17,v17,(d9 xs0 24),(d9 xs0 25),(d9 xs0 26),(d9 xs0 35),(d9 xs0 28),(d9 vs21 0),(d9 vs21 1),(d9 vs21 2),(d9 vs21 3),(d9 xs0 35),v25,v25])
noncomputable def d1N (cb:Cb) (N:Nat) (call:j5) (a0:Value) (xs0:List Value) (v11:Value) (v12:Value) (v13:Value) (v14:Value) (v17:Value) (vs21:List Value):M R2:=
 M.pure (.normal, [a0,(d9 xs0 57),v11,v12,v13,v14,v14,(d9 xs0 19),(d9 xs0 20),(d9 xs0 21),v17,v17,(d9 xs0 24),(d9 xs0 25),(d9 xs0 26),(d9 xs0 35),(d9 xs0 28),(d9 vs21 0),(d9 vs21 1),(d9 vs21 2),(d9 vs21 3),(d9 xs0 33),(d9 xs0 34),(d9 xs0 35)])
noncomputable def d8g (cb:Cb) (N:Nat) (call:j5) (v13:Value) (xs0:List Value) (a0:Value) (v11:Value) (v12:Value) (v14:Value) (v17:Value):M R2:=
 cb.bj R2 (cb.bv R2 (bn .eql 22 (.tmp 26) (.const (.int .i64 (.ofNat 2))) v13 (.int .i64 (.ofNat 2))) fun v22=>
 K3 v22 (
 M.pure (.normal, [v22,(d9 xs0 30),(d9 xs0 31),v22])) (
 d6n cb N call v13 v22 xs0)) fun x20 vs21=>
 M5 x20 (K3 (d9 vs21 3) (
 d2P cb N call xs0 a0 v11 v12 v13 v14 v17 vs21) (
 d1N cb N call a0 xs0 v11 v12 v13 v14 v17 vs21)) (fun _=>M.fail) (M.fail) N7
noncomputable def d8M (cb:Cb) (N:Nat) (call:j5) (v13:Value) (xs0:List Value) (a0:Value) (v11:Value) (v12:Value) (v14:Value):M R2:=
 cb.bv R2 (bn .eql 22 (.tmp 26) (.const (.int .i64 (.ofNat 11))) v13 (.int .i64 (.ofNat 11))) fun v17=>
 K3 v17 (
 d6y cb N call xs0 a0 v11 v12 v13 v14 v17) (
 d8g cb N call v13 xs0 a0 v11 v12 v14 v17)
noncomputable def d2v (cb:Cb) (N:Nat) (call:j5) (xs29:List Value) (vs10:List Value) (v32:Value):M R2:=
 cb.bv R2 (bn .add 9 (.const (.string ⟨⟨[32, 32]⟩⟩)) (.tmp 54) (.string ⟨⟨[32, 32]⟩⟩) (d9 xs29 5)) fun v33=>
 cb.bv R2 (bn .add 3 (.tmp 52) (.const (.int .i64 (.ofNat 1))) (d9 xs29 8) (.int .i64 (.ofNat 1))) fun v34=>
 M.pure (.normal, [(d9 xs29 8),(d9 vs10 15),v32,(d9 xs29 5),v33,v33,(d9 xs29 8),v34,v34])
noncomputable def d7D (cb:Cb) (N:Nat) (call:j5) (vs10:List Value) (xs29:List Value):M R2:=
 cb.bv R2 (bn .lss 3 (.tmp 49) (.tmp 50) (d9 xs29 8) (d9 vs10 15)) fun v32=>
 K3 v32 (
 d2v cb N call xs29 vs10 v32) (
 M.pure (.exit 3, [(d9 xs29 8),(d9 vs10 15),v32,(d9 xs29 3),(d9 xs29 4),(d9 xs29 5),(d9 xs29 6),(d9 xs29 7),(d9 xs29 8)]))
noncomputable def c8J (cb:Cb) (N:Nat) (call:j5) (xs0:List Value) (a0:Value) (v3:Value) (v4:Value) (v5:Value) (v6:Value) (v7:Value) (v8:Value) (vs10:List Value) (v26:Value) (v27:Value) (v28:Value) (vs31:List Value) (v36:Value) (v37:Value) (v38:Value):M R2:=
 M.pure (.normal, [(d9 xs0 57),a0,v3,v4,a0,(d9 xs0 57),v5,v6,v7,v8,(d9 xs0 10),(d9 xs0 35),(d9 vs10 0),(d9 vs10 1),(d9 vs10 2),(d9 vs10 3),(d9 vs10 4),(d9 vs10 5),(d9 vs10 6),(d9 vs10 7),(d9 vs10 8),(d9 vs10 9),(d9 vs10 10),(d9 vs10 11),(d9 vs10 12),(d9 vs10 13),(d9 vs10 14),(d9 vs10 15),(d9 vs10 16),(d9 vs10 17),(d9 vs10 18),(d9 vs10 19),(d9 vs10 20),(d9 vs10 21),(d9 vs10 22),(d9 vs10 23),a0,(d9 xs0 57),v26,v27,v28,(d9 vs31 0),(d9 vs31 1),(d9 vs31 2),(d9 vs31 3),(d9 vs31 4),(d9 vs31 5),(d9 vs31 6),(d9 vs31 7),(d9 vs31 8),(d9 xs0 54),(d9 vs31 5),v36,v37,v37,(d9 xs0 57),v38,v38])
noncomputable def c7H (cb:Cb) (N:Nat) (call:j5) (vs10:List Value) (xs0:List Value) (v28:Value) (a0:Value) (v3:Value) (v4:Value) (v5:Value) (v6:Value) (v7:Value) (v8:Value) (v26:Value) (v27:Value):M R2:=
 cb.bj R2 (cb.lp (d7D cb N call vs10) N [(d9 xs0 41),(d9 xs0 42),(d9 xs0 43),(d9 xs0 44),(d9 xs0 45),v28,(d9 xs0 47),(d9 xs0 48),(.int .i64 (.ofNat 0))]) fun x30 vs31=>
 M5 x30 (M.fail) (fun i35=>bcase (Nat.beq i35 3) (cb.bv R2 (a2p 1 1 [(0, 1)] [(d9 vs31 5)] [(.string ⟨⟨[]⟩⟩)]) fun v36=>
 cb.bv R2 (a4g ti9 (d9 xs0 54) v36) fun v37=>
 cb.bv R2 (bn .add 3 (.tmp 13) (.const (.int .i64 (.ofNat 1))) (d9 xs0 57) (.int .i64 (.ofNat 1))) fun v38=>
 c8J cb N call xs0 a0 v3 v4 v5 v6 v7 v8 vs10 v26 v27 v28 vs31 v36 v37 v38) (M.fail)) (M.fail) N7
noncomputable def c7R (cb:Cb) (N:Nat) (call:j5) (a0:Value) (xs0:List Value) (v3:Value) (v4:Value) (v5:Value) (v6:Value) (v7:Value) (v8:Value):M R2:=
 cb.bj R2 (cb.bv R2 (a5I 9 a0 (d9 xs0 57)) fun v11=>
 cb.bv R2 (xFA 0 v11) fun v12=>
 cb.bv R2 (K5 v12) fun v13=>
 cb.bv R2 (bn .eql 22 (.tmp 26) (.const (.int .i64 (.ofNat 5))) v13 (.int .i64 (.ofNat 5))) fun v14=>
 K3 v14 (
 d7W cb N call xs0 a0 v11 v12 v13 v14) (
 d8M cb N call v13 xs0 a0 v11 v12 v14)) fun x9 vs10=>
 M5 x9 (cb.bv R2 (a5I 9 a0 (d9 xs0 57)) fun v26=>
 cb.bv R2 (a3p 9 v26) fun v27=>
 cb.bc R2 (call 13 [v27]) (fun v28=>
 c7H cb N call vs10 xs0 v28 a0 v3 v4 v5 v6 v7 v8 v26 v27) N7) (fun _=>M.fail) (M.fail) N7
noncomputable def c9D (cb:Cb) (N:Nat) (call:j5) (a0:Value) (xs0:List Value) (v3:Value) (v4:Value):M R2:=
 cb.bv R2 (a5I 9 a0 (d9 xs0 57)) fun v5=>
 cb.bv R2 (a3p 9 v5) fun v6=>
 cb.bc R2 (call 19 [v6]) (fun v7=>
 cb.bv R2 (un .not v7) fun v8=>
 K3 v8 (
 d1m cb N call xs0 a0 v3 v4 v5 v6 v7 v8) (
 c7R cb N call a0 xs0 v3 v4 v5 v6 v7 v8)) N7
noncomputable def d1e (cb:Cb) (N:Nat) (call:j5) (xs0:List Value) (a0:Value) (v3:Value) (v4:Value):M R2:=
 M.pure (.exit 0, [(d9 xs0 57),a0,v3,v4,(d9 xs0 4),(d9 xs0 5),(d9 xs0 6),(d9 xs0 7),(d9 xs0 8),(d9 xs0 9),(d9 xs0 10),(d9 xs0 11),(d9 xs0 12),(d9 xs0 13),(d9 xs0 14),(d9 xs0 15),(d9 xs0 16),(d9 xs0 17),(d9 xs0 18),(d9 xs0 19),(d9 xs0 20),(d9 xs0 21),(d9 xs0 22),(d9 xs0 23),(d9 xs0 24),(d9 xs0 25),(d9 xs0 26),(d9 xs0 27),(d9 xs0 28),(d9 xs0 29),(d9 xs0 30),(d9 xs0 31),(d9 xs0 32),(d9 xs0 33),(d9 xs0 34),(d9 xs0 35),(d9 xs0 36),(d9 xs0 37),(d9 xs0 38),(d9 xs0 39),(d9 xs0 40),(d9 xs0 41),(d9 xs0 42),(d9 xs0 43),(d9 xs0 44),(d9 xs0 45),(d9 xs0 46),(d9 xs0 47),(d9 xs0 48),(d9 xs0 49),(d9 xs0 50),(d9 xs0 51),(d9 xs0 52),(d9 xs0 53),(d9 xs0 54),(d9 xs0 55),(d9 xs0 56),(d9 xs0 57)])
noncomputable def c7C (cb:Cb) (N:Nat) (call:j5) (a0:Value) (xs0:List Value):M R2:=
 cb.bv R2 (a4q a0) fun v3=>
 cb.bv R2 (bn .lss 3 (.tmp 9) (.tmp 11) (d9 xs0 57) v3) fun v4=>
 K3 v4 (
 c9D cb N call a0 xs0 v3 v4) (
 d1e cb N call xs0 a0 v3 v4)
noncomputable def c9y (cb:Cb) (N:Nat) (call:j5) (a0:Value):M CR:=
 cb.bj CR (cb.lp (c7C cb N call a0) N [undef,undef,undef,undef,undef,undef,undef,undef,undef,undef,(.slice none 0 0),undef,undef,undef,undef,undef,undef,undef,undef,undef,undef,undef,undef,undef,undef,undef,undef,undef,undef,undef,undef,undef,undef,undef,undef,(.int .i64 (.ofNat 0)),undef,undef,undef,undef,undef,undef,undef,undef,undef,undef,undef,undef,undef,undef,undef,undef,undef,undef,(.slice none 0 0),undef,undef,(.int .i64 (.ofNat 0))]) fun x1 vs2=>
 M5 x1 (M.fail) (fun i39=>bcase (Nat.beq i39 0) (M.pure (.ret (d9 vs2 54))) (bcase (Nat.beq i39 3) (M.fail) (M.fail))) (M.pure (.ret (d9 vs2 10))) N7
theorem c5S (cb:Cb) (N:Nat) (call:j5) (a0:Value):a0i Tryz.prog Q6 cb false N call Tryz.f18 c18 e2y [a0]=c9y cb N call a0:=by kernel_rfl
end Go.Proofs.YtmomonnlmbljoaaGreatDoor
end
