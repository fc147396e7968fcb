import Derived.Test.YtmomonnlmbljoaaGreatDoorPar
section
namespace Go.Proofs.YtmomonnlmbljoaaGreatDoor
open Go.V Go.Proofs
set_option maxRecDepth 100000
set_option linter.unusedVariables false
noncomputable def c3:Code:=a0g Tryz.f3
noncomputable def pl3:Pl:=.d
noncomputable def b4K:List Oper:=a6e c3 3
noncomputable def c1V (call:o8) (u0:Value) (u1:Value) (u2:Value) (u3:Value) (u4:Value) (u5:Value) (u6:Value) (u7:Value) (u8:Value) (u9:Value) (u10:Value) (u11:Value) (u12:Value) (u13:Value) (u14:Value) (u15:Value) (u16:Value):M R2:=
 M.bind (M.foot (a2U 9 u1)) fun y0=>
 M.bind (M.foot (a1M call 12 [y0.1])) fun y1=>
 M.bind (M.foot (a2U 9 u1)) fun y2=>
 M.bind (M.foot (a1M call 13 [y2.1])) fun y3=>
 M.bind (M.foot (bn .eql 9 (.tmp 11) (.tmp 13) y1.1 y3.1)) fun y4=>
 M.bind (M.foot (M.pure y4.1)) fun y5=>
 M.bind (bcase (Q5 true y5.1) (M.foot (a2U 3 u7)) (M.pure (undef,([], [])))) fun y6=>
 M.bind (bcase (Q5 true y5.1) (M.foot (a1M call 14 [y6.1])) (M.pure (undef,([], [])))) fun y7=>
 M.bind (bcase (Q5 true y5.1) (M.foot (a2U 3 u7)) (M.pure (undef,([], [])))) fun y8=>
 M.bind (bcase (Q5 true y5.1) (M.foot (a1M call 15 [y8.1])) (M.pure (undef,([], [])))) fun y9=>
 M.bind (bcase (Q5 true y5.1) (M.foot (bn .eql 9 (.tmp 17) (.tmp 19) y7.1 y9.1)) (M.pure (undef,([], [])))) fun y10=>
 M.bind (M.foot (W9 y5.1 y10.1 (.bool false))) fun y11=>
 M.bind (M.foot (M.pure y11.1)) fun y12=>
 M.bind (bcase (Q5 true y12.1) (M.foot (a1M call 11 [])) (M.pure (undef,([], [])))) fun y13=>
 M.bind (M.foot (W9 y12.1 y13.1 (.bool false))) fun y14=>
 M.bind (M.foot (M.pure y14.1)) fun y15=>
 M.guard (a0A b4K (a1Y b4K [y0.2,y1.2,y2.2,y3.2,y4.2,y5.2,y6.2,y7.2,y8.2,y9.2,y10.2,y11.2,y12.2,y13.2,y14.2,y15.2]) [] [] 0) (M.pure (.normal, [y0.1,y1.1,y2.1,y3.1,y4.1,y5.1,y6.1,y7.1,y8.1,y9.1,y10.1,y11.1,y12.1,y13.1,y14.1,y15.1]))
theorem b4L (call:o8) (u0:Value) (u1:Value) (u2:Value) (u3:Value) (u4:Value) (u5:Value) (u6:Value) (u7:Value) (u8:Value) (u9:Value) (u10:Value) (u11:Value) (u12:Value) (u13:Value) (u14:Value) (u15:Value) (u16:Value):dr call b4K 25 [10, 2, 12, 11, 13, 14, 16, 3, 18, 17, 19, 15, 20, 21, 22, 23, 24] [u0,u1,u2,u3,u4,u5,u6,u7,u8,u9,u10,u11,u12,u13,u14,u15,u16] [10, 11, 12, 13, 14, 15, 16, 17, 18, 19, 20, 21, 22, 23, 24, 4]=c1V call u0 u1 u2 u3 u4 u5 u6 u7 u8 u9 u10 u11 u12 u13 u14 u15 u16:=(a4l _ _ _ _ _ _ _ _).trans (by kernel_rfl)
theorem c9D {F:List a2X} (hl:L9 F=16) (h:a3R [(0, 2),(1, 2),(6, 8),(7, 8)] F=true):a0A b4K (a1Y b4K F) [] [] 0=true:=a4S (L:=[(0, 2),(1, 2),(6, 8),(7, 8)]) (by kernel_rfl) (by kernel_rfl) hl h
noncomputable def c2x (cb:Cb) (N:Nat) (call:o8) (v0:Value) (v1:Value):M CR:=
 cb.bj CR (dr call b4K 25 [10, 2, 12, 11, 13, 14, 16, 3, 18, 17, 19, 15, 20, 21, 22, 23, 24] [undef,v0,undef,undef,undef,undef,undef,v1,undef,undef,undef,undef,undef,undef,undef,undef,undef] [10, 11, 12, 13, 14, 15, 16, 17, 18, 19, 20, 21, 22, 23, 24, 4]) fun _ vs7=>
 M.pure (.ret (j4 vs7 15))
noncomputable def sh3 (cb:Cb) (N:Nat) (call:o8) (a0:Value) (a1:Value):M CR:=
 cb.bv CR (a6Y a0) fun v0=>
 cb.bv CR (a6Y a1) fun v1=>
 cb.bv CR (a2U 9 v0) fun v2=>
 cb.bv CR (a1W 9 1 [(0, 9)] [v2] [(.int .i64 (.ofNat 0)),(.int .i64 (.ofNat 0)),(.int .i64 (.ofNat 0)),(.int .u64 (.ofNat 0)),(.int .i64 (.ofNat 0)),(.int .i64 (.ofNat 0)),(.int .i64 (.ofNat 0)),(.slice none 0 0),(.slice none 0 0)]) fun v3=>
 cb.bc CR (call 10 [v3]) (fun v4=>
 cb.bv CR (un .not v4) fun v5=>
 K5 v5 (
 cb.bc CR (call 11 []) (fun v6=>
 M.pure (.ret v6)) O8) (
 c2x cb N call v0 v1)) O8
theorem d2v (cb:Cb) (N:Nat) (call:o8) (a0:Value) (a1:Value):Y9 Tryz.prog R4 cb false N call Tryz.f3 c3 pl3 [a0,a1]=sh3 cb N call a0 a1:=by kernel_rfl
noncomputable def c4:Code:=a0g Tryz.f4
noncomputable def pl4:Pl:=.d
noncomputable def d0T (cb:Cb) (N:Nat) (call:o8) (v1:Value) (a0:Value):M CR:=
 cb.bj CR (bcase (Q5 false v1) (cb.bc R2 (call 17 [a0]) (fun v4=>
 cb.bc R2 (call 18 [a0]) (fun v5=>
 cb.bc R2 (call 16 [v4,v5]) (fun v6=>
 M.pure (.normal, [a0,v4,a0,v5,v6])) O8) O8) O8) (M.pure (.normal, [undef,undef,undef,undef,undef]))) fun x2 vs3=>O4 x2 (cb.bv CR (W9 v1 (.bool true) (j4 vs3 4)) fun v7=>
 cb.bj CR (bcase (Q5 true v7) (cb.bc R2 (call 11 []) (fun v10=>
 M.pure (.normal, [v10])) O8) (M.pure (.normal, [undef]))) fun x8 vs9=>O4 x8 (cb.bv CR (W9 v7 (j4 vs9 0) (.bool false)) fun v11=>
 M.pure (.ret v11)) (fun _=>M.fail) M.fail O8) (fun _=>M.fail) M.fail O8
noncomputable def sh4 (cb:Cb) (N:Nat) (call:o8) (a0:Value):M CR:=
 cb.bc CR (call 10 [a0]) (fun v0=>
 cb.bv CR (un .not v0) fun v1=>
 d0T cb N call v1 a0) O8
theorem d0j (cb:Cb) (N:Nat) (call:o8) (a0:Value):Y9 Tryz.prog R4 cb false N call Tryz.f4 c4 pl4 [a0]=sh4 cb N call a0:=by kernel_rfl
noncomputable def c10:Code:=a0g Tryz.f10
noncomputable def e3y:Pl:=(.s none .d (.s none .d (.s none (.s none .d (.s none (.l [7, 8, 9, 10, 13, 14, 15, 16, 17, 18, 19, 20, 21, 22, 23, 24, 25, 26, 27, 28, 2, 11, 12, 3] .d) .d)) .d)))
noncomputable def a9x (cb:Cb) (N:Nat) (call:o8) (xs2:List Value) (a0:Value) (v5:Value) (v6:Value) (v7:Value) (v8:Value) (v9:Value) (v10:Value) (v11:Value) (vs13:List Value) (v19:Value):M R2:=
 M.pure (.ret, [(j4 xs2 23),a0,v5,v6,a0,(j4 xs2 23),v7,v8,v9,v10,v11,v11,(j4 vs13 0),(j4 vs13 1),(j4 vs13 2),(j4 vs13 3),(j4 vs13 4),(j4 vs13 5),(j4 vs13 6),v19,(.bool false),(j4 xs2 21),(j4 xs2 22),(j4 xs2 23)])
noncomputable def a9A (cb:Cb) (N:Nat) (call:o8) (xs2:List Value) (a0:Value) (v5:Value) (v6:Value) (v7:Value) (v8:Value) (v9:Value) (v10:Value) (v11:Value) (vs13:List Value) (v19:Value):M R2:=
 cb.bv R2 (bn .add 3 (.tmp 11) (.const (.int .i64 (.ofNat 1))) (j4 xs2 23) (.int .i64 (.ofNat 1))) fun v20=>
 M.pure (.normal, [(j4 xs2 23),a0,v5,v6,a0,(j4 xs2 23),v7,v8,v9,v10,v11,v11,(j4 vs13 0),(j4 vs13 1),(j4 vs13 2),(j4 vs13 3),(j4 vs13 4),(j4 vs13 5),(j4 vs13 6),v19,(j4 xs2 20),(j4 xs2 23),v20,v20])
noncomputable def a9C (cb:Cb) (N:Nat) (call:o8) (v11:Value) (a0:Value) (xs2:List Value) (v5:Value) (v6:Value) (v7:Value) (v8:Value) (v9:Value) (v10:Value):M R2:=
 cb.bj R2 (bcase (Q5 false v11) (cb.bv R2 (a4X 9 a0 (j4 xs2 23)) fun v14=>
 cb.bv R2 (X6 7 v14) fun v15=>
 cb.bv R2 (K7 v15) fun v16=>
 cb.bv R2 (a3U v16) fun v17=>
 cb.bv R2 (bn .gtr 3 (.tmp 26) (.const (.int .i64 (.ofNat 20))) v17 (.int .i64 (.ofNat 20))) fun v18=>
 M.pure (.normal, [a0,(j4 xs2 23),v14,v15,v16,v17,v18])) (M.pure (.normal, [undef,undef,undef,undef,undef,undef,undef]))) fun x12 vs13=>O4 x12 (cb.bv R2 (W9 v11 (.bool true) (j4 vs13 6)) fun v19=>
 K5 v19 (
 a9x cb N call xs2 a0 v5 v6 v7 v8 v9 v10 v11 vs13 v19) (
 a9A cb N call xs2 a0 v5 v6 v7 v8 v9 v10 v11 vs13 v19)) (fun _=>M.fail) M.fail O8
noncomputable def a9E (cb:Cb) (N:Nat) (call:o8) (a0:Value) (xs2:List Value) (v5:Value) (v6:Value):M R2:=
 cb.bv R2 (a4X 9 a0 (j4 xs2 23)) fun v7=>
 cb.bv R2 (X6 8 v7) fun v8=>
 cb.bv R2 (K7 v8) fun v9=>
 cb.bv R2 (a3U v9) fun v10=>
 cb.bv R2 (bn .gtr 3 (.tmp 18) (.const (.int .i64 (.ofNat 20))) v10 (.int .i64 (.ofNat 20))) fun v11=>
 a9C cb N call v11 a0 xs2 v5 v6 v7 v8 v9 v10
noncomputable def a9H (cb:Cb) (N:Nat) (call:o8) (xs2:List Value) (a0:Value) (v5:Value) (v6:Value):M R2:=
 M.pure (.exit 0, [(j4 xs2 23),a0,v5,v6,(j4 xs2 4),(j4 xs2 5),(j4 xs2 6),(j4 xs2 7),(j4 xs2 8),(j4 xs2 9),(j4 xs2 10),(j4 xs2 11),(j4 xs2 12),(j4 xs2 13),(j4 xs2 14),(j4 xs2 15),(j4 xs2 16),(j4 xs2 17),(j4 xs2 18),(j4 xs2 19),(j4 xs2 20),(j4 xs2 21),(j4 xs2 22),(j4 xs2 23)])
noncomputable def a8G (cb:Cb) (N:Nat) (call:o8) (a0:Value) (xs2:List Value):M R2:=
 cb.bv R2 (a3U a0) fun v5=>
 cb.bv R2 (bn .lss 3 (.tmp 7) (.tmp 9) (j4 xs2 23) v5) fun v6=>
 K5 v6 (
 a9E cb N call a0 xs2 v5 v6) (
 a9H cb N call xs2 a0 v5 v6)
noncomputable def b2k (cb:Cb) (N:Nat) (call:o8) (a0:Value):M CR:=
 cb.bj CR (cb.lp (a8G cb N call a0) N [undef,undef,undef,undef,undef,undef,undef,undef,undef,undef,undef,undef,undef,undef,undef,undef,undef,undef,undef,undef,(.bool false),undef,undef,(.int .i64 (.ofNat 0))]) fun x3 vs4=>
 O4 x3 (M.fail) (fun i21=>bcase (Nat.beq i21 0) (M.pure (.ret (.bool true))) (M.fail)) (M.pure (.ret (j4 vs4 20))) O8
noncomputable def a9b (cb:Cb) (N:Nat) (call:o8) (a0:Value):M CR:=
 cb.bv CR (a3U a0) fun v0=>
 cb.bv CR (bn .gtr 3 (.tmp 5) (.const (.int .i64 (.ofNat 60))) v0 (.int .i64 (.ofNat 60))) fun v1=>
 K5 v1 (
 M.pure (.ret (.bool false))) (
 b2k cb N call a0)
theorem c9d (cb:Cb) (N:Nat) (call:o8) (a0:Value):Y9 Tryz.prog R4 cb false N call Tryz.f10 c10 e3y [a0]=a9b cb N call a0:=by kernel_rfl
noncomputable def c12:Code:=a0g Tryz.f12
noncomputable def e4j:Pl:=(.s none .d (.s none .d (.s none .d (.s none .d (.s none .d (.s (some [18, 19, 20, 22, 21, 23, 24, 25, 6, 26, 27, 28, 29, 30, 31, 33, 34, 35, 36, 37, 38, 32, 39, 40, 41, 42, 44, 43, 45, 46, 47, 49, 50, 51, 8, 52, 53, 54, 55, 48, 56, 57, 58, 59, 61, 60, 62, 63, 64, 65, 66, 67, 68, 69, 70, 71, 72, 73, 75, 74, 76, 77, 78, 79, 80, 81, 82, 83, 84, 85, 87, 86, 88, 89, 90, 91, 93, 94, 92, 95, 96, 97, 98, 99, 100, 101, 102, 103, 104, 105, 106, 107, 108, 109, 110, 112, 113, 111, 114, 115, 116, 117, 118, 119, 120, 121, 123, 122, 124, 125, 126, 127, 129, 128, 130, 131, 132, 133, 134, 135, 136, 137, 139, 138, 140, 141, 142, 143, 144, 145, 147, 146, 148, 149, 150, 151, 152, 153, 155, 154, 156, 157, 158, 159, 160, 161]) (.s none .d (.s none (.s none .d (.s none .d (.s (some [33, 34, 35, 36, 37, 38, 32]) .d (.s none .d (.s none .d (.s none (.s none (.s none .d (.s none (.l [49, 50, 51, 8, 52, 53, 54, 55, 48] .d) .d)) .d) (.s none .d (.s none .d (.s none .d (.s none .d (.s none .d (.s none .d (.s (some [93, 94, 92]) .d (.s none .d (.s (some [112, 113, 111]) .d .d))))))))))))))) .d)) .d))))))
noncomputable def a9T:List Oper:=a6e c12 27
noncomputable def a9Q:List Oper:=a6e c12 29
noncomputable def a9Y:List Oper:=a6e c12 45
noncomputable def a9W:List Oper:=a6e c12 47
noncomputable def b0x:List Oper:=a6e c12 49
noncomputable def b0u:List Oper:=a6e c12 51
noncomputable def a0R (call:o8) (u0:Value) (u1:Value) (u2:Value) (u3:Value) (u4:Value) (u5:Value) (u6:Value) (u7:Value) (u8:Value) (u9:Value):M R2:=
 M.bind (M.foot (K7 u8)) fun y0=>
 M.bind (M.foot (X6 1 u0)) fun y1=>
 M.bind (M.foot (K7 y1.1)) fun y2=>
 M.bind (M.foot (a1M call 37 [y2.1])) fun y3=>
 M.bind (M.foot (bn .add 9 (.const (.string ⟨⟨[40, 116, 121, 112, 101, 32]⟩⟩)) (.tmp 69) (.string ⟨⟨[40, 116, 121, 112, 101, 32]⟩⟩) y3.1)) fun y4=>
 M.bind (M.foot (bn .add 9 (.tmp 70) (.const (.string ⟨⟨[41]⟩⟩)) y4.1 (.string ⟨⟨[41]⟩⟩))) fun y5=>
 M.bind (M.foot (a1W 1 1 [(0, 1)] [y5.1] [(.string ⟨⟨[]⟩⟩)])) fun y6=>
 M.bind (M.foot (a3S ti9 y0.1 y6.1)) fun y7=>
 M.bind (M.foot (a4B 1 u8 y7.1)) fun y8=>
 M.guard (a0A a9T (a1Y a9T [y0.2,y1.2,y2.2,y3.2,y4.2,y5.2,y6.2,y7.2,y8.2]) [] [] 0) (M.pure (.normal, [y0.1,y1.1,y2.1,y3.1,y4.1,y5.1,y6.1,y7.1]))
theorem Z9 (call:o8) (u0:Value) (u1:Value) (u2:Value) (u3:Value) (u4:Value) (u5:Value) (u6:Value) (u7:Value) (u8:Value) (u9:Value):dr call a9T 164 [1, 67, 68, 69, 70, 71, 66, 72, 3, 73] [u0,u1,u2,u3,u4,u5,u6,u7,u8,u9] [66, 67, 68, 69, 70, 71, 72, 73]=a0R call u0 u1 u2 u3 u4 u5 u6 u7 u8 u9:=(a4l _ _ _ _ _ _ _ _).trans (by kernel_rfl)
theorem b4Z {F:List a2X} (hl:L9 F=9) (h:a3R [(0, 1),(0, 2),(0, 3),(0, 4),(0, 5),(0, 6)] F=true):a0A a9T (a1Y a9T F) [] [] 0=true:=a4S (L:=[(0, 1),(0, 2),(0, 3),(0, 4),(0, 5),(0, 6)]) (by kernel_rfl) (by kernel_rfl) hl h
noncomputable def a1u (call:o8) (u0:Value) (u1:Value) (u2:Value) (u3:Value) (u4:Value) (u5:Value) (u6:Value) (u7:Value) (u8:Value) (u9:Value) (u10:Value) (u11:Value):M R2:=
 M.bind (M.foot (K7 u10)) fun y0=>
 M.bind (M.foot (X6 7 u0)) fun y1=>
 M.bind (M.foot (K7 y1.1)) fun y2=>
 M.bind (M.foot (a4X 1 y2.1 (.int .i64 (.ofNat 0)))) fun y3=>
 M.bind (M.foot (K7 y3.1)) fun y4=>
 M.bind (M.foot (a1M call 40 [y4.1])) fun y5=>
 M.bind (M.foot (bn .add 9 (.const (.string ⟨⟨[40, 114, 101, 115, 117, 108, 116, 32]⟩⟩)) (.tmp 81) (.string ⟨⟨[40, 114, 101, 115, 117, 108, 116, 32]⟩⟩) y5.1)) fun y6=>
 M.bind (M.foot (bn .add 9 (.tmp 82) (.const (.string ⟨⟨[41]⟩⟩)) y6.1 (.string ⟨⟨[41]⟩⟩))) fun y7=>
 M.bind (M.foot (a1W 1 1 [(0, 1)] [y7.1] [(.string ⟨⟨[]⟩⟩)])) fun y8=>
 M.bind (M.foot (a3S ti9 y0.1 y8.1)) fun y9=>
 M.bind (M.foot (a4B 1 u10 y9.1)) fun y10=>
 M.guard (a0A a9Q (a1Y a9Q [y0.2,y1.2,y2.2,y3.2,y4.2,y5.2,y6.2,y7.2,y8.2,y9.2,y10.2]) [] [] 0) (M.pure (.normal, [y0.1,y1.1,y2.1,y3.1,y4.1,y5.1,y6.1,y7.1,y8.1,y9.1]))
theorem a0a (call:o8) (u0:Value) (u1:Value) (u2:Value) (u3:Value) (u4:Value) (u5:Value) (u6:Value) (u7:Value) (u8:Value) (u9:Value) (u10:Value) (u11:Value):dr call a9Q 164 [1, 77, 78, 79, 80, 81, 82, 83, 76, 84, 3, 85] [u0,u1,u2,u3,u4,u5,u6,u7,u8,u9,u10,u11] [76, 77, 78, 79, 80, 81, 82, 83, 84, 85]=a1u call u0 u1 u2 u3 u4 u5 u6 u7 u8 u9 u10 u11:=(a4l _ _ _ _ _ _ _ _).trans (by kernel_rfl)
theorem c4y {F:List a2X} (hl:L9 F=11) (h:a3R [(0, 1),(0, 2),(0, 3),(0, 4),(0, 5),(0, 6),(0, 7),(0, 8)] F=true):a0A a9Q (a1Y a9Q F) [] [] 0=true:=a4S (L:=[(0, 1),(0, 2),(0, 3),(0, 4),(0, 5),(0, 6),(0, 7),(0, 8)]) (by kernel_rfl) (by kernel_rfl) hl h
noncomputable def a0Q (call:o8) (u0:Value) (u1:Value) (u2:Value) (u3:Value) (u4:Value) (u5:Value):M R2:=
 M.bind (M.foot (K7 u4)) fun y0=>
 M.bind (M.foot (a2U 9 u0)) fun y1=>
 M.bind (M.foot (a1M call 41 [y1.1])) fun y2=>
 M.bind (M.foot (a3S ti9 y0.1 y2.1)) fun y3=>
 M.bind (M.foot (a4B 1 u4 y3.1)) fun y4=>
 M.guard (a0A a9Y (a1Y a9Y [y0.2,y1.2,y2.2,y3.2,y4.2]) [] [] 0) (M.pure (.normal, [y0.1,y1.1,y2.1,y3.1]))
theorem Z8 (call:o8) (u0:Value) (u1:Value) (u2:Value) (u3:Value) (u4:Value) (u5:Value):dr call a9Y 164 [1, 135, 134, 136, 3, 137] [u0,u1,u2,u3,u4,u5] [134, 135, 136, 137]=a0Q call u0 u1 u2 u3 u4 u5:=(a4l _ _ _ _ _ _ _ _).trans (by kernel_rfl)
theorem a7x {F:List a2X} (hl:L9 F=5) (h:a3R [(0, 1),(0, 2)] F=true):a0A a9Y (a1Y a9Y F) [] [] 0=true:=a4S (L:=[(0, 1),(0, 2)]) (by kernel_rfl) (by kernel_rfl) hl h
noncomputable def a0P (call:o8) (u0:Value) (u1:Value) (u2:Value) (u3:Value) (u4:Value) (u5:Value) (u6:Value) (u7:Value):M R2:=
 M.bind (M.foot (K7 u6)) fun y0=>
 M.bind (M.foot (X6 3 u0)) fun y1=>
 M.bind (M.foot (K7 y1.1)) fun y2=>
 M.bind (M.foot (a1M call 42 [y2.1,(.int .i64 (.ofNat 32))])) fun y3=>
 M.bind (M.foot (a1W 1 1 [(0, 1)] [y3.1] [(.string ⟨⟨[]⟩⟩)])) fun y4=>
 M.bind (M.foot (a3S ti9 y0.1 y4.1)) fun y5=>
 M.bind (M.foot (a4B 1 u6 y5.1)) fun y6=>
 M.guard (a0A a9W (a1Y a9W [y0.2,y1.2,y2.2,y3.2,y4.2,y5.2,y6.2]) [] [] 0) (M.pure (.normal, [y0.1,y1.1,y2.1,y3.1,y4.1,y5.1]))
theorem Z7 (call:o8) (u0:Value) (u1:Value) (u2:Value) (u3:Value) (u4:Value) (u5:Value) (u6:Value) (u7:Value):dr call a9W 164 [1, 141, 142, 143, 140, 144, 3, 145] [u0,u1,u2,u3,u4,u5,u6,u7] [140, 141, 142, 143, 144, 145]=a0P call u0 u1 u2 u3 u4 u5 u6 u7:=(a4l _ _ _ _ _ _ _ _).trans (by kernel_rfl)
theorem c4g {F:List a2X} (hl:L9 F=7) (h:a3R [(0, 1),(0, 2),(0, 3),(0, 4)] F=true):a0A a9W (a1Y a9W F) [] [] 0=true:=a4S (L:=[(0, 1),(0, 2),(0, 3),(0, 4)]) (by kernel_rfl) (by kernel_rfl) hl h
noncomputable def a1E (call:o8) (u0:Value) (u1:Value) (u2:Value) (u3:Value) (u4:Value) (u5:Value) (u6:Value) (u7:Value):M R2:=
 M.bind (M.foot (K7 u6)) fun y0=>
 M.bind (M.foot (X6 3 u0)) fun y1=>
 M.bind (M.foot (K7 y1.1)) fun y2=>
 M.bind (M.foot (a1M call 42 [y2.1,(.int .i64 (.ofNat 64))])) fun y3=>
 M.bind (M.foot (a1W 1 1 [(0, 1)] [y3.1] [(.string ⟨⟨[]⟩⟩)])) fun y4=>
 M.bind (M.foot (a3S ti9 y0.1 y4.1)) fun y5=>
 M.bind (M.foot (a4B 1 u6 y5.1)) fun y6=>
 M.guard (a0A b0x (a1Y b0x [y0.2,y1.2,y2.2,y3.2,y4.2,y5.2,y6.2]) [] [] 0) (M.pure (.normal, [y0.1,y1.1,y2.1,y3.1,y4.1,y5.1]))
theorem Z6 (call:o8) (u0:Value) (u1:Value) (u2:Value) (u3:Value) (u4:Value) (u5:Value) (u6:Value) (u7:Value):dr call b0x 164 [1, 149, 150, 151, 148, 152, 3, 153] [u0,u1,u2,u3,u4,u5,u6,u7] [148, 149, 150, 151, 152, 153]=a1E call u0 u1 u2 u3 u4 u5 u6 u7:=(a4l _ _ _ _ _ _ _ _).trans (by kernel_rfl)
theorem c3q {F:List a2X} (hl:L9 F=7) (h:a3R [(0, 1),(0, 2),(0, 3),(0, 4)] F=true):a0A b0x (a1Y b0x F) [] [] 0=true:=a4S (L:=[(0, 1),(0, 2),(0, 3),(0, 4)]) (by kernel_rfl) (by kernel_rfl) hl h
noncomputable def a1r (call:o8) (u0:Value) (u1:Value) (u2:Value) (u3:Value) (u4:Value) (u5:Value) (u6:Value) (u7:Value):M R2:=
 M.bind (M.foot (K7 u6)) fun y0=>
 M.bind (M.foot (X6 1 u0)) fun y1=>
 M.bind (M.foot (K7 y1.1)) fun y2=>
 M.bind (M.foot (a1M call 43 [y2.1])) fun y3=>
 M.bind (M.foot (a1W 1 1 [(0, 1)] [y3.1] [(.string ⟨⟨[]⟩⟩)])) fun y4=>
 M.bind (M.foot (a3S ti9 y0.1 y4.1)) fun y5=>
 M.bind (M.foot (a4B 1 u6 y5.1)) fun y6=>
 M.guard (a0A b0u (a1Y b0u [y0.2,y1.2,y2.2,y3.2,y4.2,y5.2,y6.2]) [] [] 0) (M.pure (.normal, [y0.1,y1.1,y2.1,y3.1,y4.1,y5.1]))
theorem a0b (call:o8) (u0:Value) (u1:Value) (u2:Value) (u3:Value) (u4:Value) (u5:Value) (u6:Value) (u7:Value):dr call b0u 164 [1, 157, 158, 159, 156, 160, 3, 161] [u0,u1,u2,u3,u4,u5,u6,u7] [156, 157, 158, 159, 160, 161]=a1r call u0 u1 u2 u3 u4 u5 u6 u7:=(a4l _ _ _ _ _ _ _ _).trans (by kernel_rfl)
theorem b5w {F:List a2X} (hl:L9 F=7) (h:a3R [(0, 1),(0, 2),(0, 3),(0, 4)] F=true):a0A b0u (a1Y b0u F) [] [] 0=true:=a4S (L:=[(0, 1),(0, 2),(0, 3),(0, 4)]) (by kernel_rfl) (by kernel_rfl) hl h
noncomputable def a2j (cb:Cb) (N:Nat) (call:o8) (v16:Value) (v17:Value) (v18:Value) (v19:Value) (v20:Value) (v21:Value) (v22:Value) (v23:Value) (v24:Value) (v25:Value) (v26:Value):M R2:=
 M.pure (.normal, [v16,v17,v18,v19,v19,v20,v21,v22,v22,v22,v23,v24,v22,v25,v26,undef,undef,undef,undef,undef,undef,undef,undef,undef,undef,undef,undef,undef,undef,undef,undef,undef,undef,undef,undef,undef,undef,undef,undef,undef,undef,undef,undef,undef,undef,undef,undef,undef,undef,undef,undef,undef,undef,undef,undef,undef,undef,undef,undef,undef,undef,undef,undef,undef,undef,undef,undef,undef,undef,undef,undef,undef,undef,undef,undef,undef,undef,undef,undef,undef,undef,undef,undef,undef,undef,undef,undef,undef,undef,undef,undef,undef,undef,undef,undef,undef,undef,undef,undef,undef,undef,undef,undef,undef,undef,undef,undef,undef,undef,undef,undef,undef,undef,undef,undef,undef,undef,undef,undef,undef,undef,undef,undef,undef,undef,undef,undef,undef,undef,undef,undef,undef,undef,undef,undef,undef,undef,undef,undef,undef,undef,undef,undef,undef,undef,undef])
noncomputable def a2g (cb:Cb) (N:Nat) (call:o8) (v8:Value) (v22:Value) (v16:Value) (v17:Value) (v18:Value) (v19:Value) (v20:Value) (v21:Value) (v23:Value):M R2:=
 cb.bv R2 (K7 v8) fun v24=>
 cb.bv R2 (a1W 1 1 [(0, 1)] [v22] [(.string ⟨⟨[]⟩⟩)]) fun v25=>
 cb.bv R2 (a3S ti9 v24 v25) fun v26=>
 cb.bv R2 (a4B 1 v8 v26) fun v27=>
 a2j cb N call v16 v17 v18 v19 v20 v21 v22 v23 v24 v25 v26
noncomputable def a1Z (cb:Cb) (N:Nat) (call:o8) (v16:Value) (v17:Value) (v18:Value) (v19:Value) (v20:Value) (v21:Value) (v22:Value) (v23:Value):M R2:=
 M.pure (.normal, [v16,v17,v18,v19,v19,v20,v21,v22,v22,v22,v23,undef,undef,undef,undef,undef,undef,undef,undef,undef,undef,undef,undef,undef,undef,undef,undef,undef,undef,undef,undef,undef,undef,undef,undef,undef,undef,undef,undef,undef,undef,undef,undef,undef,undef,undef,undef,undef,undef,undef,undef,undef,undef,undef,undef,undef,undef,undef,undef,undef,undef,undef,undef,undef,undef,undef,undef,undef,undef,undef,undef,undef,undef,undef,undef,undef,undef,undef,undef,undef,undef,undef,undef,undef,undef,undef,undef,undef,undef,undef,undef,undef,undef,undef,undef,undef,undef,undef,undef,undef,undef,undef,undef,undef,undef,undef,undef,undef,undef,undef,undef,undef,undef,undef,undef,undef,undef,undef,undef,undef,undef,undef,undef,undef,undef,undef,undef,undef,undef,undef,undef,undef,undef,undef,undef,undef,undef,undef,undef,undef,undef,undef,undef,undef,undef,undef])
noncomputable def a2e (cb:Cb) (N:Nat) (call:o8) (v0:Value) (v8:Value) (v16:Value) (v17:Value) (v18:Value) (v19:Value):M R2:=
 cb.bv R2 (X6 4 v0) fun v20=>
 cb.bv R2 (a2U 3 v20) fun v21=>
 cb.bc R2 (call 14 [v21]) (fun v22=>
 cb.bv R2 (bn .neq 9 (.tmp 26) (.const (.string ⟨⟨[]⟩⟩)) v22 (.string ⟨⟨[]⟩⟩)) fun v23=>
 K5 v23 (
 a2g cb N call v8 v22 v16 v17 v18 v19 v20 v21 v23) (
 a1Z cb N call v16 v17 v18 v19 v20 v21 v22 v23)) O8
noncomputable def a2i (cb:Cb) (N:Nat) (call:o8) (v18:Value) (v30:Value) (v31:Value) (v32:Value) (v33:Value) (v34:Value):M R2:=
 cb.bv R2 (bn .eql 76 (.tmp 20) (.const (.int .i64 (.ofNat 16))) v18 (.int .i64 (.ofNat 16))) fun v35=>
 M.pure (.normal, [v30,v31,v32,v33,v34,v35,v35])
noncomputable def a2a (cb:Cb) (N:Nat) (call:o8) (v18:Value) (v30:Value) (v31:Value) (v32:Value) (v33:Value):M R2:=
 cb.bv R2 (bn .eql 76 (.tmp 20) (.const (.int .i64 (.ofNat 12))) v18 (.int .i64 (.ofNat 12))) fun v34=>
 K5 v34 (
 M.pure (.normal, [v30,v31,v32,v33,v34,undef,v34])) (
 a2i cb N call v18 v30 v31 v32 v33 v34)
noncomputable def a2d (cb:Cb) (N:Nat) (call:o8) (v18:Value) (v30:Value) (v31:Value) (v32:Value):M R2:=
 cb.bv R2 (bn .eql 76 (.tmp 20) (.const (.int .i64 (.ofNat 8))) v18 (.int .i64 (.ofNat 8))) fun v33=>
 K5 v33 (
 M.pure (.normal, [v30,v31,v32,v33,undef,undef,v33])) (
 a2a cb N call v18 v30 v31 v32 v33)
noncomputable def a2c (cb:Cb) (N:Nat) (call:o8) (v18:Value) (v30:Value) (v31:Value):M R2:=
 cb.bv R2 (bn .eql 76 (.tmp 20) (.const (.int .i64 (.ofNat 7))) v18 (.int .i64 (.ofNat 7))) fun v32=>
 K5 v32 (
 M.pure (.normal, [v30,v31,v32,undef,undef,undef,v32])) (
 a2d cb N call v18 v30 v31 v32)
noncomputable def a2b (cb:Cb) (N:Nat) (call:o8) (v18:Value) (v30:Value):M R2:=
 cb.bv R2 (bn .eql 76 (.tmp 20) (.const (.int .i64 (.ofNat 4))) v18 (.int .i64 (.ofNat 4))) fun v31=>
 K5 v31 (
 M.pure (.normal, [v30,v31,undef,undef,undef,undef,v31])) (
 a2c cb N call v18 v30 v31)
noncomputable def a2h (cb:Cb) (N:Nat) (call:o8) (v16:Value) (v17:Value) (v18:Value) (v19:Value) (vs29:List Value) (v36:Value) (v37:Value) (v38:Value) (v40:Value):M R2:=
 M.pure (.normal, [v16,v17,v18,v19,v19,undef,undef,undef,undef,undef,undef,undef,undef,undef,undef,(j4 vs29 0),(j4 vs29 1),(j4 vs29 2),(j4 vs29 3),(j4 vs29 4),(j4 vs29 5),(j4 vs29 6),v36,v37,v38,v40,undef,undef,undef,undef,undef,undef,undef,undef,undef,undef,undef,undef,undef,undef,undef,undef,undef,undef,undef,undef,undef,undef,undef,undef,undef,undef,undef,undef,undef,undef,undef,undef,undef,undef,undef,undef,undef,undef,undef,undef,undef,undef,undef,undef,undef,undef,undef,undef,undef,undef,undef,undef,undef,undef,undef,undef,undef,undef,undef,undef,undef,undef,undef,undef,undef,undef,undef,undef,undef,undef,undef,undef,undef,undef,undef,undef,undef,undef,undef,undef,undef,undef,undef,undef,undef,undef,undef,undef,undef,undef,undef,undef,undef,undef,undef,undef,undef,undef,undef,undef,undef,undef,undef,undef,undef,undef,undef,undef,undef,undef,undef,undef,undef,undef,undef,undef,undef,undef,undef,undef])
noncomputable def a0O (cb:Cb) (N:Nat) (call:o8) (v11:Value) (v0:Value) (v16:Value) (v17:Value) (v18:Value) (v19:Value) (vs29:List Value):M R2:=
 cb.bv R2 (K7 v11) fun v36=>
 cb.bv R2 (X6 1 v0) fun v37=>
 cb.bv R2 (K7 v37) fun v38=>
 M.obind (a4Q v36 [v38]) fun g39=>cb.bc R2 (call g39.1 g39.2) (fun v40=>
 a2h cb N call v16 v17 v18 v19 vs29 v36 v37 v38 v40) O8
noncomputable def b6U (cb:Cb) (N:Nat) (call:o8) (v43:Value) (xs45:List Value) (v11:Value) (v48:Value):M R2:=
 cb.bv R2 (a4X 1 v43 (j4 xs45 8)) fun v49=>
 cb.bv R2 (K7 v49) fun v50=>
 cb.bv R2 (K7 v11) fun v51=>
 M.obind (a4Q v51 [v50]) fun g52=>cb.bc R2 (call g52.1 g52.2) (fun v53=>
 cb.bv R2 (bn .add 3 (.tmp 48) (.const (.int .i64 (.ofNat 1))) (j4 xs45 8) (.int .i64 (.ofNat 1))) fun v54=>
 M.pure (.normal, [v48,v49,v50,v50,v51,v50,v53,v54,v54])) O8
noncomputable def b4b (cb:Cb) (N:Nat) (call:o8) (v44:Value) (v43:Value) (v11:Value) (xs45:List Value):M R2:=
 cb.bv R2 (bn .lss 3 (.tmp 48) (.tmp 47) (j4 xs45 8) v44) fun v48=>
 K5 v48 (
 b6U cb N call v43 xs45 v11 v48) (
 M.pure (.exit 1, [v48,(j4 xs45 1),(j4 xs45 2),(j4 xs45 3),(j4 xs45 4),(j4 xs45 5),(j4 xs45 6),(j4 xs45 7),(j4 xs45 8)]))
noncomputable def a0X (cb:Cb) (N:Nat) (call:o8) (v16:Value) (v17:Value) (v18:Value) (v19:Value) (vs29:List Value) (v41:Value) (v42:Value) (v43:Value) (v44:Value) (vs47:List Value) (v56:Value) (v57:Value) (v58:Value) (v60:Value):M R2:=
 M.pure (.normal, [v16,v17,v18,v19,v19,undef,undef,undef,undef,undef,undef,undef,undef,undef,undef,(j4 vs29 0),(j4 vs29 1),(j4 vs29 2),(j4 vs29 3),(j4 vs29 4),(j4 vs29 5),(j4 vs29 6),undef,undef,undef,undef,v41,v41,v42,v43,v44,(j4 vs47 0),(j4 vs47 1),(j4 vs47 2),(j4 vs47 3),(j4 vs47 4),(j4 vs47 5),(j4 vs47 6),(j4 vs47 7),(j4 vs47 8),v56,v57,v58,v60,undef,undef,undef,undef,undef,undef,undef,undef,undef,undef,undef,undef,undef,undef,undef,undef,undef,undef,undef,undef,undef,undef,undef,undef,undef,undef,undef,undef,undef,undef,undef,undef,undef,undef,undef,undef,undef,undef,undef,undef,undef,undef,undef,undef,undef,undef,undef,undef,undef,undef,undef,undef,undef,undef,undef,undef,undef,undef,undef,undef,undef,undef,undef,undef,undef,undef,undef,undef,undef,undef,undef,undef,undef,undef,undef,undef,undef,undef,undef,undef,undef,undef,undef,undef,undef,undef,undef,undef,undef,undef,undef,undef,undef,undef,undef,undef,undef,undef,undef,undef,undef,undef])
noncomputable def a1t (cb:Cb) (N:Nat) (call:o8) (v43:Value) (v11:Value) (v0:Value) (v16:Value) (v17:Value) (v18:Value) (v19:Value) (vs29:List Value) (v41:Value) (v42:Value):M R2:=
 cb.bv R2 (a3U v43) fun v44=>
 cb.bj R2 (cb.lp (b4b cb N call v44 v43 v11) N [undef,undef,undef,undef,undef,undef,undef,undef,(.int .i64 (.ofNat 0))]) fun x46 vs47=>
 O4 x46 (M.fail) (fun i55=>bcase (Nat.beq i55 1) (cb.bv R2 (K7 v11) fun v56=>
 cb.bv R2 (X6 1 v0) fun v57=>
 cb.bv R2 (K7 v57) fun v58=>
 M.obind (a4Q v56 [v58]) fun g59=>cb.bc R2 (call g59.1 g59.2) (fun v60=>
 a0X cb N call v16 v17 v18 v19 vs29 v41 v42 v43 v44 vs47 v56 v57 v58 v60) O8) (M.fail)) (M.fail) O8
noncomputable def a0N (cb:Cb) (N:Nat) (call:o8) (v16:Value) (v17:Value) (v18:Value) (v19:Value) (vs29:List Value) (v41:Value) (v61:Value) (v13:Value) (v62:Value) (v63:Value) (v65:Value) (vs66:List Value):M R2:=
 M.pure (.normal, [v16,v17,v18,v19,v19,undef,undef,undef,undef,undef,undef,undef,undef,undef,undef,(j4 vs29 0),(j4 vs29 1),(j4 vs29 2),(j4 vs29 3),(j4 vs29 4),(j4 vs29 5),(j4 vs29 6),undef,undef,undef,undef,v41,v41,undef,undef,undef,undef,undef,undef,undef,undef,undef,undef,undef,undef,undef,undef,undef,undef,v61,v61,v13,v62,v63,v65,(j4 vs66 0),(j4 vs66 1),(j4 vs66 2),(j4 vs66 3),(j4 vs66 4),(j4 vs66 5),(j4 vs66 6),(j4 vs66 7),undef,undef,undef,undef,undef,undef,undef,undef,undef,undef,undef,undef,undef,undef,undef,undef,undef,undef,undef,undef,undef,undef,undef,undef,undef,undef,undef,undef,undef,undef,undef,undef,undef,undef,undef,undef,undef,undef,undef,undef,undef,undef,undef,undef,undef,undef,undef,undef,undef,undef,undef,undef,undef,undef,undef,undef,undef,undef,undef,undef,undef,undef,undef,undef,undef,undef,undef,undef,undef,undef,undef,undef,undef,undef,undef,undef,undef,undef,undef,undef,undef,undef,undef,undef,undef,undef,undef,undef])
noncomputable def a0Y (cb:Cb) (N:Nat) (call:o8) (v0:Value) (v13:Value) (v8:Value) (v16:Value) (v17:Value) (v18:Value) (v19:Value) (vs29:List Value) (v41:Value) (v61:Value):M R2:=
 cb.bv R2 (X6 2 v0) fun v62=>
 cb.bv R2 (K7 v62) fun v63=>
 M.obind (a4Q v13 [v63]) fun g64=>cb.bc R2 (call g64.1 g64.2) (fun v65=>
 cb.bj R2 (dr call a9T 164 [1, 67, 68, 69, 70, 71, 66, 72, 3, 73] [v0,undef,undef,undef,undef,undef,undef,undef,v8,undef] [66, 67, 68, 69, 70, 71, 72, 73]) fun _ vs66=>
 a0N cb N call v16 v17 v18 v19 vs29 v41 v61 v13 v62 v63 v65 vs66) O8
noncomputable def a1m (cb:Cb) (N:Nat) (call:o8) (v16:Value) (v17:Value) (v18:Value) (v19:Value) (vs29:List Value) (v41:Value) (v61:Value) (v67:Value) (vs68:List Value):M R2:=
 M.pure (.normal, [v16,v17,v18,v19,v19,undef,undef,undef,undef,undef,undef,undef,undef,undef,undef,(j4 vs29 0),(j4 vs29 1),(j4 vs29 2),(j4 vs29 3),(j4 vs29 4),(j4 vs29 5),(j4 vs29 6),undef,undef,undef,undef,v41,v41,undef,undef,undef,undef,undef,undef,undef,undef,undef,undef,undef,undef,undef,undef,undef,undef,v61,v61,undef,undef,undef,undef,undef,undef,undef,undef,undef,undef,undef,undef,v67,v67,(j4 vs68 0),(j4 vs68 1),(j4 vs68 2),(j4 vs68 3),(j4 vs68 4),(j4 vs68 5),(j4 vs68 6),(j4 vs68 7),(j4 vs68 8),(j4 vs68 9),undef,undef,undef,undef,undef,undef,undef,undef,undef,undef,undef,undef,undef,undef,undef,undef,undef,undef,undef,undef,undef,undef,undef,undef,undef,undef,undef,undef,undef,undef,undef,undef,undef,undef,undef,undef,undef,undef,undef,undef,undef,undef,undef,undef,undef,undef,undef,undef,undef,undef,undef,undef,undef,undef,undef,undef,undef,undef,undef,undef,undef,undef,undef,undef,undef,undef,undef,undef,undef,undef,undef,undef,undef,undef,undef,undef])
noncomputable def a1b (cb:Cb) (N:Nat) (call:o8) (v0:Value) (v8:Value) (v16:Value) (v17:Value) (v18:Value) (v19:Value) (vs29:List Value) (v41:Value) (v61:Value) (v67:Value):M R2:=
 cb.bj R2 (dr call a9Q 164 [1, 77, 78, 79, 80, 81, 82, 83, 76, 84, 3, 85] [v0,undef,undef,undef,undef,undef,undef,undef,undef,undef,v8,undef] [76, 77, 78, 79, 80, 81, 82, 83, 84, 85]) fun _ vs68=>
 a1m cb N call v16 v17 v18 v19 vs29 v41 v61 v67 vs68
noncomputable def a0V (cb:Cb) (N:Nat) (call:o8) (v16:Value) (v17:Value) (v18:Value) (v19:Value) (vs29:List Value) (v41:Value) (v61:Value) (v67:Value) (v69:Value) (v13:Value) (v70:Value) (v71:Value) (v73:Value):M R2:=
 M.pure (.normal, [v16,v17,v18,v19,v19,undef,undef,undef,undef,undef,undef,undef,undef,undef,undef,(j4 vs29 0),(j4 vs29 1),(j4 vs29 2),(j4 vs29 3),(j4 vs29 4),(j4 vs29 5),(j4 vs29 6),undef,undef,undef,undef,v41,v41,undef,undef,undef,undef,undef,undef,undef,undef,undef,undef,undef,undef,undef,undef,undef,undef,v61,v61,undef,undef,undef,undef,undef,undef,undef,undef,undef,undef,undef,undef,v67,v67,undef,undef,undef,undef,undef,undef,undef,undef,undef,undef,v69,v69,v13,v70,v71,v73,undef,undef,undef,undef,undef,undef,undef,undef,undef,undef,undef,undef,undef,undef,undef,undef,undef,undef,undef,undef,undef,undef,undef,undef,undef,undef,undef,undef,undef,undef,undef,undef,undef,undef,undef,undef,undef,undef,undef,undef,undef,undef,undef,undef,undef,undef,undef,undef,undef,undef,undef,undef,undef,undef,undef,undef,undef,undef,undef,undef,undef,undef,undef,undef,undef,undef,undef,undef,undef,undef])
noncomputable def a1C (cb:Cb) (N:Nat) (call:o8) (v0:Value) (v13:Value) (v16:Value) (v17:Value) (v18:Value) (v19:Value) (vs29:List Value) (v41:Value) (v61:Value) (v67:Value) (v69:Value):M R2:=
 cb.bv R2 (X6 1 v0) fun v70=>
 cb.bv R2 (K7 v70) fun v71=>
 M.obind (a4Q v13 [v71]) fun g72=>cb.bc R2 (call g72.1 g72.2) (fun v73=>
 a0V cb N call v16 v17 v18 v19 vs29 v41 v61 v67 v69 v13 v70 v71 v73) O8
noncomputable def a1l (cb:Cb) (N:Nat) (call:o8) (v16:Value) (v17:Value) (v18:Value) (v19:Value) (vs29:List Value) (v41:Value) (v61:Value) (v67:Value) (v69:Value) (vs75:List Value) (v78:Value) (v79:Value) (v80:Value) (vs82:List Value) (v86:Value) (v87:Value) (v88:Value) (v89:Value) (v91:Value) (v92:Value) (v93:Value) (v94:Value) (v96:Value):M R2:=
 M.pure (.normal, [v16,v17,v18,v19,v19,undef,undef,undef,undef,undef,undef,undef,undef,undef,undef,(j4 vs29 0),(j4 vs29 1),(j4 vs29 2),(j4 vs29 3),(j4 vs29 4),(j4 vs29 5),(j4 vs29 6),undef,undef,undef,undef,v41,v41,undef,undef,undef,undef,undef,undef,undef,undef,undef,undef,undef,undef,undef,undef,undef,undef,v61,v61,undef,undef,undef,undef,undef,undef,undef,undef,undef,undef,undef,undef,v67,v67,undef,undef,undef,undef,undef,undef,undef,undef,undef,undef,v69,v69,undef,undef,undef,undef,(j4 vs75 0),(j4 vs75 1),(j4 vs75 2),v78,v79,v80,v80,(j4 vs82 0),(j4 vs82 1),(j4 vs82 2),v86,v87,v88,v89,v91,v92,v93,v94,v96,undef,undef,undef,undef,undef,undef,undef,undef,undef,undef,undef,undef,undef,undef,undef,undef,undef,undef,undef,undef,undef,undef,undef,undef,undef,undef,undef,undef,undef,undef,undef,undef,undef,undef,undef,undef,undef,undef,undef,undef,undef,undef,undef,undef,undef,undef,undef,undef,undef,undef,undef])
noncomputable def a1s (cb:Cb) (N:Nat) (call:o8) (v11:Value) (v0:Value) (v16:Value) (v17:Value) (v18:Value) (v19:Value) (vs29:List Value) (v41:Value) (v61:Value) (v67:Value) (v69:Value) (vs75:List Value) (v78:Value) (v79:Value) (v80:Value) (vs82:List Value) (v86:Value):M R2:=
 cb.bv R2 (K7 v11) fun v87=>
 cb.bv R2 (X6 1 v0) fun v88=>
 cb.bv R2 (K7 v88) fun v89=>
 M.obind (a4Q v87 [v89]) fun g90=>cb.bc R2 (call g90.1 g90.2) (fun v91=>
 cb.bv R2 (K7 v11) fun v92=>
 cb.bv R2 (X6 2 v0) fun v93=>
 cb.bv R2 (K7 v93) fun v94=>
 M.obind (a4Q v92 [v94]) fun g95=>cb.bc R2 (call g95.1 g95.2) (fun v96=>
 a1l cb N call v16 v17 v18 v19 vs29 v41 v61 v67 v69 vs75 v78 v79 v80 vs82 v86 v87 v88 v89 v91 v92 v93 v94 v96) O8) O8
noncomputable def a1g (cb:Cb) (N:Nat) (call:o8) (v16:Value) (v17:Value) (v18:Value) (v19:Value) (vs29:List Value) (v41:Value) (v61:Value) (v67:Value) (v69:Value) (vs75:List Value) (v78:Value) (v79:Value) (v80:Value) (vs82:List Value) (v86:Value):M R2:=
 M.pure (.normal, [v16,v17,v18,v19,v19,undef,undef,undef,undef,undef,undef,undef,undef,undef,undef,(j4 vs29 0),(j4 vs29 1),(j4 vs29 2),(j4 vs29 3),(j4 vs29 4),(j4 vs29 5),(j4 vs29 6),undef,undef,undef,undef,v41,v41,undef,undef,undef,undef,undef,undef,undef,undef,undef,undef,undef,undef,undef,undef,undef,undef,v61,v61,undef,undef,undef,undef,undef,undef,undef,undef,undef,undef,undef,undef,v67,v67,undef,undef,undef,undef,undef,undef,undef,undef,undef,undef,v69,v69,undef,undef,undef,undef,(j4 vs75 0),(j4 vs75 1),(j4 vs75 2),v78,v79,v80,v80,(j4 vs82 0),(j4 vs82 1),(j4 vs82 2),v86,undef,undef,undef,undef,undef,undef,undef,undef,undef,undef,undef,undef,undef,undef,undef,undef,undef,undef,undef,undef,undef,undef,undef,undef,undef,undef,undef,undef,undef,undef,undef,undef,undef,undef,undef,undef,undef,undef,undef,undef,undef,undef,undef,undef,undef,undef,undef,undef,undef,undef,undef,undef,undef,undef,undef,undef,undef,undef,undef])
noncomputable def a1A (cb:Cb) (N:Nat) (call:o8) (v80:Value) (v0:Value) (v11:Value) (v16:Value) (v17:Value) (v18:Value) (v19:Value) (vs29:List Value) (v41:Value) (v61:Value) (v67:Value) (v69:Value) (vs75:List Value) (v78:Value) (v79:Value):M R2:=
 cb.bj R2 (bcase (Q5 false v80) (cb.bv R2 (X6 2 v0) fun v83=>
 cb.bv R2 (K7 v83) fun v84=>
 cb.bv R2 (bn .neq 3 (.tmp 100) (.const (.int .i64 (.ofNat 0))) v84 (.int .i64 (.ofNat 0))) fun v85=>
 M.pure (.normal, [v83,v84,v85])) (M.pure (.normal, [undef,undef,undef]))) fun x81 vs82=>O4 x81 (cb.bv R2 (W9 v80 (.bool true) (j4 vs82 2)) fun v86=>
 K5 v86 (
 a1s cb N call v11 v0 v16 v17 v18 v19 vs29 v41 v61 v67 v69 vs75 v78 v79 v80 vs82 v86) (
 a1g cb N call v16 v17 v18 v19 vs29 v41 v61 v67 v69 vs75 v78 v79 v80 vs82 v86)) (fun _=>M.fail) M.fail O8
noncomputable def a1i (cb:Cb) (N:Nat) (call:o8) (v0:Value) (v11:Value) (v16:Value) (v17:Value) (v18:Value) (v19:Value) (vs29:List Value) (v41:Value) (v61:Value) (v67:Value) (v69:Value) (vs75:List Value):M R2:=
 cb.bv R2 (X6 1 v0) fun v78=>
 cb.bv R2 (K7 v78) fun v79=>
 cb.bv R2 (bn .neq 3 (.tmp 96) (.const (.int .i64 (.ofNat 0))) v79 (.int .i64 (.ofNat 0))) fun v80=>
 a1A cb N call v80 v0 v11 v16 v17 v18 v19 vs29 v41 v61 v67 v69 vs75 v78 v79
noncomputable def a1q (cb:Cb) (N:Nat) (call:o8) (v16:Value) (v17:Value) (v18:Value) (v19:Value) (vs29:List Value) (v41:Value) (v61:Value) (v67:Value) (v69:Value) (vs75:List Value) (vs98:List Value) (v13:Value) (v101:Value) (v102:Value) (v104:Value) (v105:Value) (v106:Value) (v107:Value) (v109:Value):M R2:=
 M.pure (.normal, [v16,v17,v18,v19,v19,undef,undef,undef,undef,undef,undef,undef,undef,undef,undef,(j4 vs29 0),(j4 vs29 1),(j4 vs29 2),(j4 vs29 3),(j4 vs29 4),(j4 vs29 5),(j4 vs29 6),undef,undef,undef,undef,v41,v41,undef,undef,undef,undef,undef,undef,undef,undef,undef,undef,undef,undef,undef,undef,undef,undef,v61,v61,undef,undef,undef,undef,undef,undef,undef,undef,undef,undef,undef,undef,v67,v67,undef,undef,undef,undef,undef,undef,undef,undef,undef,undef,v69,v69,undef,undef,undef,undef,(j4 vs75 0),(j4 vs75 1),(j4 vs75 2),undef,undef,undef,undef,undef,undef,undef,undef,undef,undef,undef,undef,undef,undef,undef,undef,(j4 vs98 0),(j4 vs98 1),(j4 vs98 2),v13,v101,v102,v104,v105,v106,v107,v109,undef,undef,undef,undef,undef,undef,undef,undef,undef,undef,undef,undef,undef,undef,undef,undef,undef,undef,undef,undef,undef,undef,undef,undef,undef,undef,undef,undef,undef,undef,undef,undef,undef,undef,undef,undef,undef,undef,undef,undef])
noncomputable def a1h (cb:Cb) (N:Nat) (call:o8) (v0:Value) (v13:Value) (v11:Value) (v16:Value) (v17:Value) (v18:Value) (v19:Value) (vs29:List Value) (v41:Value) (v61:Value) (v67:Value) (v69:Value) (vs75:List Value) (vs98:List Value):M R2:=
 cb.bv R2 (X6 2 v0) fun v101=>
 cb.bv R2 (K7 v101) fun v102=>
 M.obind (a4Q v13 [v102]) fun g103=>cb.bc R2 (call g103.1 g103.2) (fun v104=>
 cb.bv R2 (K7 v11) fun v105=>
 cb.bv R2 (X6 1 v0) fun v106=>
 cb.bv R2 (K7 v106) fun v107=>
 M.obind (a4Q v105 [v107]) fun g108=>cb.bc R2 (call g108.1 g108.2) (fun v109=>
 a1q cb N call v16 v17 v18 v19 vs29 v41 v61 v67 v69 vs75 vs98 v13 v101 v102 v104 v105 v106 v107 v109) O8) O8
noncomputable def a1j (cb:Cb) (N:Nat) (call:o8) (v16:Value) (v17:Value) (v18:Value) (v19:Value) (vs29:List Value) (v41:Value) (v61:Value) (v67:Value) (v69:Value) (vs75:List Value) (vs98:List Value) (v110:Value) (v13:Value) (v111:Value) (v112:Value) (v114:Value):M R2:=
 M.pure (.normal, [v16,v17,v18,v19,v19,undef,undef,undef,undef,undef,undef,undef,undef,undef,undef,(j4 vs29 0),(j4 vs29 1),(j4 vs29 2),(j4 vs29 3),(j4 vs29 4),(j4 vs29 5),(j4 vs29 6),undef,undef,undef,undef,v41,v41,undef,undef,undef,undef,undef,undef,undef,undef,undef,undef,undef,undef,undef,undef,undef,undef,v61,v61,undef,undef,undef,undef,undef,undef,undef,undef,undef,undef,undef,undef,v67,v67,undef,undef,undef,undef,undef,undef,undef,undef,undef,undef,v69,v69,undef,undef,undef,undef,(j4 vs75 0),(j4 vs75 1),(j4 vs75 2),undef,undef,undef,undef,undef,undef,undef,undef,undef,undef,undef,undef,undef,undef,undef,undef,(j4 vs98 0),(j4 vs98 1),(j4 vs98 2),undef,undef,undef,undef,undef,undef,undef,undef,v110,v110,v13,v111,v112,v114,undef,undef,undef,undef,undef,undef,undef,undef,undef,undef,undef,undef,undef,undef,undef,undef,undef,undef,undef,undef,undef,undef,undef,undef,undef,undef,undef,undef,undef,undef,undef,undef,undef,undef])
noncomputable def a0U (cb:Cb) (N:Nat) (call:o8) (v0:Value) (v13:Value) (v16:Value) (v17:Value) (v18:Value) (v19:Value) (vs29:List Value) (v41:Value) (v61:Value) (v67:Value) (v69:Value) (vs75:List Value) (vs98:List Value) (v110:Value):M R2:=
 cb.bv R2 (X6 2 v0) fun v111=>
 cb.bv R2 (K7 v111) fun v112=>
 M.obind (a4Q v13 [v112]) fun g113=>cb.bc R2 (call g113.1 g113.2) (fun v114=>
 a1j cb N call v16 v17 v18 v19 vs29 v41 v61 v67 v69 vs75 vs98 v110 v13 v111 v112 v114) O8
noncomputable def a1z (cb:Cb) (N:Nat) (call:o8) (v16:Value) (v17:Value) (v18:Value) (v19:Value) (vs29:List Value) (v41:Value) (v61:Value) (v67:Value) (v69:Value) (vs75:List Value) (vs98:List Value) (v110:Value) (v115:Value) (v13:Value) (v116:Value) (v117:Value) (v119:Value) (vs120:List Value):M R2:=
 M.pure (.normal, [v16,v17,v18,v19,v19,undef,undef,undef,undef,undef,undef,undef,undef,undef,undef,(j4 vs29 0),(j4 vs29 1),(j4 vs29 2),(j4 vs29 3),(j4 vs29 4),(j4 vs29 5),(j4 vs29 6),undef,undef,undef,undef,v41,v41,undef,undef,undef,undef,undef,undef,undef,undef,undef,undef,undef,undef,undef,undef,undef,undef,v61,v61,undef,undef,undef,undef,undef,undef,undef,undef,undef,undef,undef,undef,v67,v67,undef,undef,undef,undef,undef,undef,undef,undef,undef,undef,v69,v69,undef,undef,undef,undef,(j4 vs75 0),(j4 vs75 1),(j4 vs75 2),undef,undef,undef,undef,undef,undef,undef,undef,undef,undef,undef,undef,undef,undef,undef,undef,(j4 vs98 0),(j4 vs98 1),(j4 vs98 2),undef,undef,undef,undef,undef,undef,undef,undef,v110,v110,undef,undef,undef,undef,v115,v115,v13,v116,v117,v119,(j4 vs120 0),(j4 vs120 1),(j4 vs120 2),(j4 vs120 3),undef,undef,undef,undef,undef,undef,undef,undef,undef,undef,undef,undef,undef,undef,undef,undef,undef,undef,undef,undef,undef,undef,undef,undef])
noncomputable def a1F (cb:Cb) (N:Nat) (call:o8) (v0:Value) (v13:Value) (v8:Value) (v16:Value) (v17:Value) (v18:Value) (v19:Value) (vs29:List Value) (v41:Value) (v61:Value) (v67:Value) (v69:Value) (vs75:List Value) (vs98:List Value) (v110:Value) (v115:Value):M R2:=
 cb.bv R2 (X6 2 v0) fun v116=>
 cb.bv R2 (K7 v116) fun v117=>
 M.obind (a4Q v13 [v117]) fun g118=>cb.bc R2 (call g118.1 g118.2) (fun v119=>
 cb.bj R2 (dr call a9Y 164 [1, 135, 134, 136, 3, 137] [v0,undef,undef,undef,v8,undef] [134, 135, 136, 137]) fun _ vs120=>
 a1z cb N call v16 v17 v18 v19 vs29 v41 v61 v67 v69 vs75 vs98 v110 v115 v13 v116 v117 v119 vs120) O8
noncomputable def a0K (cb:Cb) (N:Nat) (call:o8) (v16:Value) (v17:Value) (v18:Value) (v19:Value) (vs29:List Value) (v41:Value) (v61:Value) (v67:Value) (v69:Value) (vs75:List Value) (vs98:List Value) (v110:Value) (v115:Value) (v121:Value) (vs122:List Value):M R2:=
 M.pure (.normal, [v16,v17,v18,v19,v19,undef,undef,undef,undef,undef,undef,undef,undef,undef,undef,(j4 vs29 0),(j4 vs29 1),(j4 vs29 2),(j4 vs29 3),(j4 vs29 4),(j4 vs29 5),(j4 vs29 6),undef,undef,undef,undef,v41,v41,undef,undef,undef,undef,undef,undef,undef,undef,undef,undef,undef,undef,undef,undef,undef,undef,v61,v61,undef,undef,undef,undef,undef,undef,undef,undef,undef,undef,undef,undef,v67,v67,undef,undef,undef,undef,undef,undef,undef,undef,undef,undef,v69,v69,undef,undef,undef,undef,(j4 vs75 0),(j4 vs75 1),(j4 vs75 2),undef,undef,undef,undef,undef,undef,undef,undef,undef,undef,undef,undef,undef,undef,undef,undef,(j4 vs98 0),(j4 vs98 1),(j4 vs98 2),undef,undef,undef,undef,undef,undef,undef,undef,v110,v110,undef,undef,undef,undef,v115,v115,undef,undef,undef,undef,undef,undef,undef,undef,v121,v121,(j4 vs122 0),(j4 vs122 1),(j4 vs122 2),(j4 vs122 3),(j4 vs122 4),(j4 vs122 5),undef,undef,undef,undef,undef,undef,undef,undef,undef,undef,undef,undef,undef,undef,undef,undef])
noncomputable def a1w (cb:Cb) (N:Nat) (call:o8) (v0:Value) (v8:Value) (v16:Value) (v17:Value) (v18:Value) (v19:Value) (vs29:List Value) (v41:Value) (v61:Value) (v67:Value) (v69:Value) (vs75:List Value) (vs98:List Value) (v110:Value) (v115:Value) (v121:Value):M R2:=
 cb.bj R2 (dr call a9W 164 [1, 141, 142, 143, 140, 144, 3, 145] [v0,undef,undef,undef,undef,undef,v8,undef] [140, 141, 142, 143, 144, 145]) fun _ vs122=>
 a0K cb N call v16 v17 v18 v19 vs29 v41 v61 v67 v69 vs75 vs98 v110 v115 v121 vs122
noncomputable def a1p (cb:Cb) (N:Nat) (call:o8) (v16:Value) (v17:Value) (v18:Value) (v19:Value) (vs29:List Value) (v41:Value) (v61:Value) (v67:Value) (v69:Value) (vs75:List Value) (vs98:List Value) (v110:Value) (v115:Value) (v121:Value) (v123:Value) (vs124:List Value):M R2:=
 M.pure (.normal, [v16,v17,v18,v19,v19,undef,undef,undef,undef,undef,undef,undef,undef,undef,undef,(j4 vs29 0),(j4 vs29 1),(j4 vs29 2),(j4 vs29 3),(j4 vs29 4),(j4 vs29 5),(j4 vs29 6),undef,undef,undef,undef,v41,v41,undef,undef,undef,undef,undef,undef,undef,undef,undef,undef,undef,undef,undef,undef,undef,undef,v61,v61,undef,undef,undef,undef,undef,undef,undef,undef,undef,undef,undef,undef,v67,v67,undef,undef,undef,undef,undef,undef,undef,undef,undef,undef,v69,v69,undef,undef,undef,undef,(j4 vs75 0),(j4 vs75 1),(j4 vs75 2),undef,undef,undef,undef,undef,undef,undef,undef,undef,undef,undef,undef,undef,undef,undef,undef,(j4 vs98 0),(j4 vs98 1),(j4 vs98 2),undef,undef,undef,undef,undef,undef,undef,undef,v110,v110,undef,undef,undef,undef,v115,v115,undef,undef,undef,undef,undef,undef,undef,undef,v121,v121,undef,undef,undef,undef,undef,undef,v123,v123,(j4 vs124 0),(j4 vs124 1),(j4 vs124 2),(j4 vs124 3),(j4 vs124 4),(j4 vs124 5),undef,undef,undef,undef,undef,undef,undef,undef])
noncomputable def a1D (cb:Cb) (N:Nat) (call:o8) (v0:Value) (v8:Value) (v16:Value) (v17:Value) (v18:Value) (v19:Value) (vs29:List Value) (v41:Value) (v61:Value) (v67:Value) (v69:Value) (vs75:List Value) (vs98:List Value) (v110:Value) (v115:Value) (v121:Value) (v123:Value):M R2:=
 cb.bj R2 (dr call b0x 164 [1, 149, 150, 151, 148, 152, 3, 153] [v0,undef,undef,undef,undef,undef,v8,undef] [148, 149, 150, 151, 152, 153]) fun _ vs124=>
 a1p cb N call v16 v17 v18 v19 vs29 v41 v61 v67 v69 vs75 vs98 v110 v115 v121 v123 vs124
noncomputable def a0J (cb:Cb) (N:Nat) (call:o8) (v16:Value) (v17:Value) (v18:Value) (v19:Value) (vs29:List Value) (v41:Value) (v61:Value) (v67:Value) (v69:Value) (vs75:List Value) (vs98:List Value) (v110:Value) (v115:Value) (v121:Value) (v123:Value) (v125:Value) (vs126:List Value):M R2:=
 M.pure (.normal, [v16,v17,v18,v19,v19,undef,undef,undef,undef,undef,undef,undef,undef,undef,undef,(j4 vs29 0),(j4 vs29 1),(j4 vs29 2),(j4 vs29 3),(j4 vs29 4),(j4 vs29 5),(j4 vs29 6),undef,undef,undef,undef,v41,v41,undef,undef,undef,undef,undef,undef,undef,undef,undef,undef,undef,undef,undef,undef,undef,undef,v61,v61,undef,undef,undef,undef,undef,undef,undef,undef,undef,undef,undef,undef,v67,v67,undef,undef,undef,undef,undef,undef,undef,undef,undef,undef,v69,v69,undef,undef,undef,undef,(j4 vs75 0),(j4 vs75 1),(j4 vs75 2),undef,undef,undef,undef,undef,undef,undef,undef,undef,undef,undef,undef,undef,undef,undef,undef,(j4 vs98 0),(j4 vs98 1),(j4 vs98 2),undef,undef,undef,undef,undef,undef,undef,undef,v110,v110,undef,undef,undef,undef,v115,v115,undef,undef,undef,undef,undef,undef,undef,undef,v121,v121,undef,undef,undef,undef,undef,undef,v123,v123,undef,undef,undef,undef,undef,undef,v125,v125,(j4 vs126 0),(j4 vs126 1),(j4 vs126 2),(j4 vs126 3),(j4 vs126 4),(j4 vs126 5)])
noncomputable def a1c (cb:Cb) (N:Nat) (call:o8) (v0:Value) (v8:Value) (v16:Value) (v17:Value) (v18:Value) (v19:Value) (vs29:List Value) (v41:Value) (v61:Value) (v67:Value) (v69:Value) (vs75:List Value) (vs98:List Value) (v110:Value) (v115:Value) (v121:Value) (v123:Value) (v125:Value):M R2:=
 cb.bj R2 (dr call b0u 164 [1, 157, 158, 159, 156, 160, 3, 161] [v0,undef,undef,undef,undef,undef,v8,undef] [156, 157, 158, 159, 160, 161]) fun _ vs126=>
 a0J cb N call v16 v17 v18 v19 vs29 v41 v61 v67 v69 vs75 vs98 v110 v115 v121 v123 v125 vs126
noncomputable def a1k (cb:Cb) (N:Nat) (call:o8) (v16:Value) (v17:Value) (v18:Value) (v19:Value) (vs29:List Value) (v41:Value) (v61:Value) (v67:Value) (v69:Value) (vs75:List Value) (vs98:List Value) (v110:Value) (v115:Value) (v121:Value) (v123:Value) (v125:Value):M R2:=
 M.pure (.normal, [v16,v17,v18,v19,v19,undef,undef,undef,undef,undef,undef,undef,undef,undef,undef,(j4 vs29 0),(j4 vs29 1),(j4 vs29 2),(j4 vs29 3),(j4 vs29 4),(j4 vs29 5),(j4 vs29 6),undef,undef,undef,undef,v41,v41,undef,undef,undef,undef,undef,undef,undef,undef,undef,undef,undef,undef,undef,undef,undef,undef,v61,v61,undef,undef,undef,undef,undef,undef,undef,undef,undef,undef,undef,undef,v67,v67,undef,undef,undef,undef,undef,undef,undef,undef,undef,undef,v69,v69,undef,undef,undef,undef,(j4 vs75 0),(j4 vs75 1),(j4 vs75 2),undef,undef,undef,undef,undef,undef,undef,undef,undef,undef,undef,undef,undef,undef,undef,undef,(j4 vs98 0),(j4 vs98 1),(j4 vs98 2),undef,undef,undef,undef,undef,undef,undef,undef,v110,v110,undef,undef,undef,undef,v115,v115,undef,undef,undef,undef,undef,undef,undef,undef,v121,v121,undef,undef,undef,undef,undef,undef,v123,v123,undef,undef,undef,undef,undef,undef,v125,v125,undef,undef,undef,undef,undef,undef])
noncomputable def a1y (cb:Cb) (N:Nat) (call:o8) (v18:Value) (v0:Value) (v8:Value) (v16:Value) (v17:Value) (v19:Value) (vs29:List Value) (v41:Value) (v61:Value) (v67:Value) (v69:Value) (vs75:List Value) (vs98:List Value) (v110:Value) (v115:Value) (v121:Value) (v123:Value):M R2:=
 cb.bv R2 (bn .eql 76 (.tmp 20) (.const (.int .i64 (.ofNat 20))) v18 (.int .i64 (.ofNat 20))) fun v125=>
 K5 v125 (
 a1c cb N call v0 v8 v16 v17 v18 v19 vs29 v41 v61 v67 v69 vs75 vs98 v110 v115 v121 v123 v125) (
 a1k cb N call v16 v17 v18 v19 vs29 v41 v61 v67 v69 vs75 vs98 v110 v115 v121 v123 v125)
noncomputable def a1f (cb:Cb) (N:Nat) (call:o8) (v18:Value) (v0:Value) (v8:Value) (v16:Value) (v17:Value) (v19:Value) (vs29:List Value) (v41:Value) (v61:Value) (v67:Value) (v69:Value) (vs75:List Value) (vs98:List Value) (v110:Value) (v115:Value) (v121:Value):M R2:=
 cb.bv R2 (bn .eql 76 (.tmp 20) (.const (.int .i64 (.ofNat 19))) v18 (.int .i64 (.ofNat 19))) fun v123=>
 K5 v123 (
 a1D cb N call v0 v8 v16 v17 v18 v19 vs29 v41 v61 v67 v69 vs75 vs98 v110 v115 v121 v123) (
 a1y cb N call v18 v0 v8 v16 v17 v19 vs29 v41 v61 v67 v69 vs75 vs98 v110 v115 v121 v123)
noncomputable def a0L (cb:Cb) (N:Nat) (call:o8) (v18:Value) (v0:Value) (v8:Value) (v16:Value) (v17:Value) (v19:Value) (vs29:List Value) (v41:Value) (v61:Value) (v67:Value) (v69:Value) (vs75:List Value) (vs98:List Value) (v110:Value) (v115:Value):M R2:=
 cb.bv R2 (bn .eql 76 (.tmp 20) (.const (.int .i64 (.ofNat 18))) v18 (.int .i64 (.ofNat 18))) fun v121=>
 K5 v121 (
 a1w cb N call v0 v8 v16 v17 v18 v19 vs29 v41 v61 v67 v69 vs75 vs98 v110 v115 v121) (
 a1f cb N call v18 v0 v8 v16 v17 v19 vs29 v41 v61 v67 v69 vs75 vs98 v110 v115 v121)
noncomputable def a0S (cb:Cb) (N:Nat) (call:o8) (v18:Value) (v0:Value) (v13:Value) (v8:Value) (v16:Value) (v17:Value) (v19:Value) (vs29:List Value) (v41:Value) (v61:Value) (v67:Value) (v69:Value) (vs75:List Value) (vs98:List Value) (v110:Value):M R2:=
 cb.bv R2 (bn .eql 76 (.tmp 20) (.const (.int .i64 (.ofNat 17))) v18 (.int .i64 (.ofNat 17))) fun v115=>
 K5 v115 (
 a1F cb N call v0 v13 v8 v16 v17 v18 v19 vs29 v41 v61 v67 v69 vs75 vs98 v110 v115) (
 a0L cb N call v18 v0 v8 v16 v17 v19 vs29 v41 v61 v67 v69 vs75 vs98 v110 v115)
noncomputable def a0M (cb:Cb) (N:Nat) (call:o8) (v18:Value) (v0:Value) (v13:Value) (v16:Value) (v17:Value) (v19:Value) (vs29:List Value) (v41:Value) (v61:Value) (v67:Value) (v69:Value) (vs75:List Value) (vs98:List Value) (v8:Value):M R2:=
 cb.bv R2 (bn .eql 76 (.tmp 20) (.const (.int .i64 (.ofNat 13))) v18 (.int .i64 (.ofNat 13))) fun v110=>
 K5 v110 (
 a0U cb N call v0 v13 v16 v17 v18 v19 vs29 v41 v61 v67 v69 vs75 vs98 v110) (
 a0S cb N call v18 v0 v13 v8 v16 v17 v19 vs29 v41 v61 v67 v69 vs75 vs98 v110)
noncomputable def a0T (cb:Cb) (N:Nat) (call:o8) (v18:Value) (v0:Value) (v13:Value) (v11:Value) (v16:Value) (v17:Value) (v19:Value) (vs29:List Value) (v41:Value) (v61:Value) (v67:Value) (v69:Value) (vs75:List Value) (v8:Value):M R2:=
 cb.bj R2 (cb.bv R2 (bn .eql 76 (.tmp 20) (.const (.int .i64 (.ofNat 11))) v18 (.int .i64 (.ofNat 11))) fun v99=>
 K5 v99 (
 M.pure (.normal, [v99,undef,v99])) (
 cb.bv R2 (bn .eql 76 (.tmp 20) (.const (.int .i64 (.ofNat 15))) v18 (.int .i64 (.ofNat 15))) fun v100=>
 M.pure (.normal, [v99,v100,v100]))) fun x97 vs98=>
 O4 x97 (K5 (j4 vs98 2) (
 a1h cb N call v0 v13 v11 v16 v17 v18 v19 vs29 v41 v61 v67 v69 vs75 vs98) (
 a0M cb N call v18 v0 v13 v16 v17 v19 vs29 v41 v61 v67 v69 vs75 vs98 v8)) (fun _=>M.fail) (M.fail) O8
noncomputable def a1x (cb:Cb) (N:Nat) (call:o8) (v18:Value) (v0:Value) (v11:Value) (v16:Value) (v17:Value) (v19:Value) (vs29:List Value) (v41:Value) (v61:Value) (v67:Value) (v69:Value) (v13:Value) (v8:Value):M R2:=
 cb.bj R2 (cb.bv R2 (bn .eql 76 (.tmp 20) (.const (.int .i64 (.ofNat 10))) v18 (.int .i64 (.ofNat 10))) fun v76=>
 K5 v76 (
 M.pure (.normal, [v76,undef,v76])) (
 cb.bv R2 (bn .eql 76 (.tmp 20) (.const (.int .i64 (.ofNat 14))) v18 (.int .i64 (.ofNat 14))) fun v77=>
 M.pure (.normal, [v76,v77,v77]))) fun x74 vs75=>
 O4 x74 (K5 (j4 vs75 2) (
 a1i cb N call v0 v11 v16 v17 v18 v19 vs29 v41 v61 v67 v69 vs75) (
 a0T cb N call v18 v0 v13 v11 v16 v17 v19 vs29 v41 v61 v67 v69 vs75 v8)) (fun _=>M.fail) (M.fail) O8
noncomputable def a0Z (cb:Cb) (N:Nat) (call:o8) (v18:Value) (v0:Value) (v13:Value) (v16:Value) (v17:Value) (v19:Value) (vs29:List Value) (v41:Value) (v61:Value) (v67:Value) (v11:Value) (v8:Value):M R2:=
 cb.bv R2 (bn .eql 76 (.tmp 20) (.const (.int .i64 (.ofNat 9))) v18 (.int .i64 (.ofNat 9))) fun v69=>
 K5 v69 (
 a1C cb N call v0 v13 v16 v17 v18 v19 vs29 v41 v61 v67 v69) (
 a1x cb N call v18 v0 v11 v16 v17 v19 vs29 v41 v61 v67 v69 v13 v8)
noncomputable def a1B (cb:Cb) (N:Nat) (call:o8) (v18:Value) (v0:Value) (v8:Value) (v16:Value) (v17:Value) (v19:Value) (vs29:List Value) (v41:Value) (v61:Value) (v13:Value) (v11:Value):M R2:=
 cb.bv R2 (bn .eql 76 (.tmp 20) (.const (.int .i64 (.ofNat 6))) v18 (.int .i64 (.ofNat 6))) fun v67=>
 K5 v67 (
 a1b cb N call v0 v8 v16 v17 v18 v19 vs29 v41 v61 v67) (
 a0Z cb N call v18 v0 v13 v16 v17 v19 vs29 v41 v61 v67 v11 v8)
noncomputable def a0W (cb:Cb) (N:Nat) (call:o8) (v18:Value) (v0:Value) (v13:Value) (v8:Value) (v16:Value) (v17:Value) (v19:Value) (vs29:List Value) (v41:Value) (v11:Value):M R2:=
 cb.bv R2 (bn .eql 76 (.tmp 20) (.const (.int .i64 (.ofNat 5))) v18 (.int .i64 (.ofNat 5))) fun v61=>
 K5 v61 (
 a0Y cb N call v0 v13 v8 v16 v17 v18 v19 vs29 v41 v61) (
 a1B cb N call v18 v0 v8 v16 v17 v19 vs29 v41 v61 v13 v11)
noncomputable def a1o (cb:Cb) (N:Nat) (call:o8) (v18:Value) (v0:Value) (v11:Value) (v16:Value) (v17:Value) (v19:Value) (vs29:List Value) (v13:Value) (v8:Value):M R2:=
 cb.bv R2 (bn .eql 76 (.tmp 20) (.const (.int .i64 (.ofNat 3))) v18 (.int .i64 (.ofNat 3))) fun v41=>
 K5 v41 (
 cb.bv R2 (X6 8 v0) fun v42=>
 cb.bv R2 (K7 v42) fun v43=>
 a1t cb N call v43 v11 v0 v16 v17 v18 v19 vs29 v41 v42) (
 a0W cb N call v18 v0 v13 v8 v16 v17 v19 vs29 v41 v11)
noncomputable def a1e (cb:Cb) (N:Nat) (call:o8) (v18:Value) (v11:Value) (v0:Value) (v16:Value) (v17:Value) (v19:Value) (v13:Value) (v8:Value):M R2:=
 cb.bj R2 (cb.bv R2 (bn .eql 76 (.tmp 20) (.const (.int .i64 (.ofNat 2))) v18 (.int .i64 (.ofNat 2))) fun v30=>
 K5 v30 (
 M.pure (.normal, [v30,undef,undef,undef,undef,undef,v30])) (
 a2b cb N call v18 v30)) fun x28 vs29=>
 O4 x28 (K5 (j4 vs29 6) (
 a0O cb N call v11 v0 v16 v17 v18 v19 vs29) (
 a1o cb N call v18 v0 v11 v16 v17 v19 vs29 v13 v8)) (fun _=>M.fail) (M.fail) O8
noncomputable def a1n (cb:Cb) (N:Nat) (call:o8) (v0:Value) (v8:Value) (v11:Value) (v13:Value):M CR:=
 cb.bj CR (cb.bv R2 (X6 0 v0) fun v16=>
 cb.bv R2 (K7 v16) fun v17=>
 cb.bc R2 (call 39 [v17]) (fun v18=>
 cb.bv R2 (bn .eql 76 (.tmp 20) (.const (.int .i64 (.ofNat 1))) v18 (.int .i64 (.ofNat 1))) fun v19=>
 K5 v19 (
 a2e cb N call v0 v8 v16 v17 v18 v19) (
 a1e cb N call v18 v11 v0 v16 v17 v19 v13 v8)) O8) fun x14 vs15=>
 O4 x14 (cb.bv CR (K7 v8) fun v127=>
 cb.bc CR (call 44 [v127]) (fun v128=>
 M.pure (.ret v128)) O8) (fun i129=>bcase (Nat.beq i129 1) (M.fail) (M.fail)) (M.fail) O8
noncomputable def a1v (cb:Cb) (N:Nat) (call:o8) (v0:Value):M CR:=
 cb.bv CR (X6 0 v0) fun v4=>
 cb.bv CR (K7 v4) fun v5=>
 cb.bc CR (call 35 [v5]) (fun v6=>
 cb.bv CR (a1W 1 1 [(0, 1)] [v6] [(.string ⟨⟨[]⟩⟩)]) fun v7=>
 cb.bv CR (b0P [(.slice none 0 0)]) fun v8=>
 cb.bv CR (a4B 1 v8 v7) fun v9=>
 cb.bv CR (c2Z (.func 36) [] [v8]) fun v10=>
 cb.bv CR (b0P [.nilFunc]) fun v11=>
 cb.bv CR (a4B 1 v11 v10) fun v12=>
 cb.bv CR (c2Z (.func 38) [] [v11]) fun v13=>
 a1n cb N call v0 v8 v11 v13) O8
noncomputable def a0c (cb:Cb) (N:Nat) (call:o8) (a0:Value):M CR:=
 cb.bv CR (a6Y a0) fun v0=>
 cb.bv CR (a2U 9 v0) fun v1=>
 cb.bc CR (call 34 [v1]) (fun v2=>
 cb.bv CR (un .not v2) fun v3=>
 K5 v3 (
 M.pure (.ret (.string ⟨⟨[]⟩⟩))) (
 a1v cb N call v0)) O8
theorem c8y (cb:Cb) (N:Nat) (call:o8) (a0:Value):Y9 Tryz.prog R4 cb false N call Tryz.f12 c12 e4j [a0]=a0c cb N call a0:=by kernel_rfl
noncomputable def c13:Code:=a0g Tryz.f13
noncomputable def e2C:Pl:=(.s none .d (.s none .d (.s none .d (.s none (.s none .d (.s none (.s none .d (.s none .d (.s (some [26, 27, 28, 29, 30, 31, 25]) .d (.s none .d (.s none .d (.s none .d (.s none .d (.s none .d (.s none .d (.s none .d (.s none .d (.s none .d (.s (some [75, 76, 74]) .d (.s none .d (.s (some [85, 86, 84]) .d .d))))))))))))))) .d)) .d))))
noncomputable def b0h:List Oper:=a6e c13 18
noncomputable def b0l:List Oper:=a6e c13 28
noncomputable def a3A (call:o8) (u0:Value) (u1:Value) (u2:Value) (u3:Value) (u4:Value) (u5:Value) (u6:Value) (u7:Value) (u8:Value) (u9:Value) (u10:Value) (u11:Value) (u12:Value):M R2:=
 M.bind (M.foot (M.pure u0)) fun y0=>
 M.bind (M.foot (X6 2 u6)) fun y1=>
 M.bind (M.foot (K7 y1.1)) fun y2=>
 M.bind (M.foot (a1M call 49 [y2.1])) fun y3=>
 M.bind (M.foot (bn .add 9 (.tmp 45) (.tmp 48) y0.1 y3.1)) fun y4=>
 M.bind (M.foot (bn .add 9 (.tmp 49) (.const (.string ⟨⟨[32, 40, 116, 121, 112, 101]⟩⟩)) y4.1 (.string ⟨⟨[32, 40, 116, 121, 112, 101]⟩⟩))) fun y5=>
 M.bind (M.foot (X6 1 u6)) fun y6=>
 M.bind (M.foot (K7 y6.1)) fun y7=>
 M.bind (M.foot (a1M call 47 [y7.1])) fun y8=>
 M.bind (M.foot (bn .add 9 (.tmp 50) (.tmp 53) y5.1 y8.1)) fun y9=>
 M.bind (M.foot (bn .add 9 (.tmp 54) (.const (.string ⟨⟨[41]⟩⟩)) y9.1 (.string ⟨⟨[41]⟩⟩))) fun y10=>
 M.bind (M.foot (M.pure y10.1)) fun y11=>
 M.guard (a0A b0h (a1Y b0h [y0.2,y1.2,y2.2,y3.2,y4.2,y5.2,y6.2,y7.2,y8.2,y9.2,y10.2,y11.2]) [] [] 0) (M.pure (.normal, [y0.1,y1.1,y2.1,y3.1,y4.1,y5.1,y6.1,y7.1,y8.1,y9.1,y10.1,y11.1]))
theorem a2l (call:o8) (u0:Value) (u1:Value) (u2:Value) (u3:Value) (u4:Value) (u5:Value) (u6:Value) (u7:Value) (u8:Value) (u9:Value) (u10:Value) (u11:Value) (u12:Value):dr call b0h 135 [3, 46, 47, 45, 48, 49, 1, 51, 52, 50, 53, 54, 55] [u0,u1,u2,u3,u4,u5,u6,u7,u8,u9,u10,u11,u12] [45, 46, 47, 48, 49, 50, 51, 52, 53, 54, 55, 3]=a3A call u0 u1 u2 u3 u4 u5 u6 u7 u8 u9 u10 u11 u12:=(a4l _ _ _ _ _ _ _ _).trans (by kernel_rfl)
theorem c3i {F:List a2X} (hl:L9 F=12) (h:a3R [(0, 1),(0, 2),(0, 3),(0, 6),(1, 6),(2, 6),(3, 6),(4, 6),(5, 6),(0, 7),(1, 7),(2, 7),(3, 7),(4, 7),(5, 7),(0, 8),(4, 8),(5, 8)] F=true):a0A b0h (a1Y b0h F) [] [] 0=true:=a4S (L:=[(0, 1),(0, 2),(0, 3),(0, 6),(1, 6),(2, 6),(3, 6),(4, 6),(5, 6),(0, 7),(1, 7),(2, 7),(3, 7),(4, 7),(5, 7),(0, 8),(4, 8),(5, 8)]) (by kernel_rfl) (by kernel_rfl) hl h
noncomputable def a3i (call:o8) (u0:Value) (u1:Value) (u2:Value) (u3:Value) (u4:Value) (u5:Value) (u6:Value) (u7:Value) (u8:Value) (u9:Value) (u10:Value):M R2:=
 M.bind (M.foot (M.pure u0)) fun y0=>
 M.bind (M.foot (X6 2 u5)) fun y1=>
 M.bind (M.foot (K7 y1.1)) fun y2=>
 M.bind (M.foot (a1M call 49 [y2.1])) fun y3=>
 M.bind (M.foot (bn .add 9 (.tmp 87) (.tmp 90) y0.1 y3.1)) fun y4=>
 M.bind (M.foot (X6 1 u5)) fun y5=>
 M.bind (M.foot (K7 y5.1)) fun y6=>
 M.bind (M.foot (a1M call 47 [y6.1])) fun y7=>
 M.bind (M.foot (bn .add 9 (.tmp 91) (.tmp 94) y4.1 y7.1)) fun y8=>
 M.bind (M.foot (M.pure y8.1)) fun y9=>
 M.guard (a0A b0l (a1Y b0l [y0.2,y1.2,y2.2,y3.2,y4.2,y5.2,y6.2,y7.2,y8.2,y9.2]) [] [] 0) (M.pure (.normal, [y0.1,y1.1,y2.1,y3.1,y4.1,y5.1,y6.1,y7.1,y8.1,y9.1]))
theorem a2k (call:o8) (u0:Value) (u1:Value) (u2:Value) (u3:Value) (u4:Value) (u5:Value) (u6:Value) (u7:Value) (u8:Value) (u9:Value) (u10:Value):dr call b0l 135 [3, 88, 89, 87, 90, 1, 92, 93, 91, 94, 95] [u0,u1,u2,u3,u4,u5,u6,u7,u8,u9,u10] [87, 88, 89, 90, 91, 92, 93, 94, 95, 3]=a3i call u0 u1 u2 u3 u4 u5 u6 u7 u8 u9 u10:=(a4l _ _ _ _ _ _ _ _).trans (by kernel_rfl)
theorem b5i {F:List a2X} (hl:L9 F=10) (h:a3R [(0, 1),(0, 2),(0, 3),(0, 5),(1, 5),(2, 5),(3, 5),(4, 5),(0, 6),(1, 6),(2, 6),(3, 6),(4, 6),(0, 7),(4, 7)] F=true):a0A b0l (a1Y b0l F) [] [] 0=true:=a4S (L:=[(0, 1),(0, 2),(0, 3),(0, 5),(1, 5),(2, 5),(3, 5),(4, 5),(0, 6),(1, 6),(2, 6),(3, 6),(4, 6),(0, 7),(4, 7)]) (by kernel_rfl) (by kernel_rfl) hl h
noncomputable def a4p (cb:Cb) (N:Nat) (call:o8) (v6:Value) (v0:Value):M CR:=
 cb.bv CR (bn .add 9 (.tmp 19) (.const (.string ⟨⟨[32]⟩⟩)) v6 (.string ⟨⟨[32]⟩⟩)) fun v15=>
 cb.bv CR (X6 4 v0) fun v16=>
 cb.bv CR (a2U 3 v16) fun v17=>
 cb.bc CR (call 15 [v17]) (fun v18=>
 cb.bv CR (bn .add 9 (.tmp 20) (.tmp 23) v15 v18) fun v19=>
 M.pure (.ret v19)) O8
noncomputable def a4j (cb:Cb) (N:Nat) (call:o8) (v0:Value) (v6:Value):M CR:=
 cb.bv CR (X6 4 v0) fun v11=>
 cb.bv CR (X6 0 v11) fun v12=>
 cb.bv CR (K7 v12) fun v13=>
 cb.bv CR (bn .neq 3 (.tmp 17) (.const (.int .i64 (.ofNat 0))) v13 (.int .i64 (.ofNat 0))) fun v14=>
 K5 v14 (
 a4p cb N call v6 v0) (
 M.pure (.ret v6))
noncomputable def a4g (cb:Cb) (N:Nat) (call:o8) (v9:Value) (v22:Value) (v23:Value) (v24:Value) (v25:Value) (v26:Value):M R2:=
 cb.bv R2 (bn .eql 3 (.tmp 12) (.const (.int .i64 (.ofNat 16))) v9 (.int .i64 (.ofNat 16))) fun v27=>
 M.pure (.normal, [v22,v23,v24,v25,v26,v27,v27])
noncomputable def a4d (cb:Cb) (N:Nat) (call:o8) (v9:Value) (v22:Value) (v23:Value) (v24:Value) (v25:Value):M R2:=
 cb.bv R2 (bn .eql 3 (.tmp 12) (.const (.int .i64 (.ofNat 12))) v9 (.int .i64 (.ofNat 12))) fun v26=>
 K5 v26 (
 M.pure (.normal, [v22,v23,v24,v25,v26,undef,v26])) (
 a4g cb N call v9 v22 v23 v24 v25 v26)
noncomputable def a4r (cb:Cb) (N:Nat) (call:o8) (v9:Value) (v22:Value) (v23:Value) (v24:Value):M R2:=
 cb.bv R2 (bn .eql 3 (.tmp 12) (.const (.int .i64 (.ofNat 8))) v9 (.int .i64 (.ofNat 8))) fun v25=>
 K5 v25 (
 M.pure (.normal, [v22,v23,v24,v25,undef,undef,v25])) (
 a4d cb N call v9 v22 v23 v24 v25)
noncomputable def a4f (cb:Cb) (N:Nat) (call:o8) (v9:Value) (v22:Value) (v23:Value):M R2:=
 cb.bv R2 (bn .eql 3 (.tmp 12) (.const (.int .i64 (.ofNat 7))) v9 (.int .i64 (.ofNat 7))) fun v24=>
 K5 v24 (
 M.pure (.normal, [v22,v23,v24,undef,undef,undef,v24])) (
 a4r cb N call v9 v22 v23 v24)
noncomputable def a4n (cb:Cb) (N:Nat) (call:o8) (v9:Value) (v22:Value):M R2:=
 cb.bv R2 (bn .eql 3 (.tmp 12) (.const (.int .i64 (.ofNat 4))) v9 (.int .i64 (.ofNat 4))) fun v23=>
 K5 v23 (
 M.pure (.normal, [v22,v23,undef,undef,undef,undef,v23])) (
 a4f cb N call v9 v22 v23)
noncomputable def a4u (cb:Cb) (N:Nat) (call:o8) (v0:Value) (v6:Value):M CR:=
 cb.bv CR (X6 1 v0) fun v28=>
 cb.bv CR (K7 v28) fun v29=>
 cb.bc CR (call 47 [v29]) (fun v30=>
 cb.bv CR (bn .add 9 (.tmp 32) (.tmp 35) v6 v30) fun v31=>
 M.pure (.ret v31)) O8
noncomputable def a4s (cb:Cb) (N:Nat) (call:o8) (v0:Value) (v6:Value):M CR:=
 cb.bv CR (a2U 9 v0) fun v33=>
 cb.bc CR (call 48 [v33]) (fun v34=>
 cb.bv CR (bn .add 9 (.tmp 39) (.tmp 41) v6 v34) fun v35=>
 M.pure (.ret v35)) O8
noncomputable def a4k (cb:Cb) (N:Nat) (call:o8) (v6:Value) (v0:Value):M CR:=
 cb.bj CR (dr call b0h 135 [3, 46, 47, 45, 48, 49, 1, 51, 52, 50, 53, 54, 55] [v6,undef,undef,undef,undef,undef,v0,undef,undef,undef,undef,undef,undef] [45, 46, 47, 48, 49, 50, 51, 52, 53, 54, 55, 3]) fun _ vs37=>
 M.pure (.ret (j4 vs37 11))
noncomputable def a3f (cb:Cb) (N:Nat) (call:o8) (v6:Value) (v0:Value):M CR:=
 cb.bv CR (bn .add 9 (.tmp 58) (.const (.string ⟨⟨[32, 40, 114, 101, 115, 117, 108, 116, 32]⟩⟩)) v6 (.string ⟨⟨[32, 40, 114, 101, 115, 117, 108, 116, 32]⟩⟩)) fun v39=>
 cb.bv CR (X6 7 v0) fun v40=>
 cb.bv CR (K7 v40) fun v41=>
 cb.bv CR (a4X 1 v41 (.int .i64 (.ofNat 0))) fun v42=>
 cb.bv CR (K7 v42) fun v43=>
 cb.bc CR (call 50 [v43]) (fun v44=>
 cb.bv CR (bn .add 9 (.tmp 59) (.tmp 64) v39 v44) fun v45=>
 cb.bv CR (bn .add 9 (.tmp 65) (.const (.string ⟨⟨[41]⟩⟩)) v45 (.string ⟨⟨[41]⟩⟩)) fun v46=>
 M.pure (.ret v46)) O8
noncomputable def a3y (cb:Cb) (N:Nat) (call:o8) (v0:Value) (v6:Value):M CR:=
 cb.bv CR (X6 1 v0) fun v48=>
 cb.bv CR (K7 v48) fun v49=>
 cb.bc CR (call 49 [v49]) (fun v50=>
 cb.bv CR (bn .add 9 (.tmp 69) (.tmp 72) v6 v50) fun v51=>
 M.pure (.ret v51)) O8
noncomputable def a3H (cb:Cb) (N:Nat) (call:o8) (v0:Value) (v6:Value):M CR:=
 cb.bv CR (X6 1 v0) fun v56=>
 cb.bv CR (K7 v56) fun v57=>
 cb.bv CR (X6 2 v0) fun v58=>
 cb.bv CR (K7 v58) fun v59=>
 cb.bc CR (call 51 [v57,v59]) (fun v60=>
 cb.bv CR (bn .add 9 (.tmp 77) (.tmp 82) v6 v60) fun v61=>
 M.pure (.ret v61)) O8
noncomputable def a3z (cb:Cb) (N:Nat) (call:o8) (v6:Value) (v0:Value):M CR:=
 cb.bj CR (dr call b0l 135 [3, 88, 89, 87, 90, 1, 92, 93, 91, 94, 95] [v6,undef,undef,undef,undef,v0,undef,undef,undef,undef,undef] [87, 88, 89, 90, 91, 92, 93, 94, 95, 3]) fun _ vs66=>
 M.pure (.ret (j4 vs66 9))
noncomputable def a3o (cb:Cb) (N:Nat) (call:o8) (v0:Value) (v6:Value):M CR:=
 cb.bv CR (X6 2 v0) fun v68=>
 cb.bv CR (K7 v68) fun v69=>
 cb.bc CR (call 49 [v69]) (fun v70=>
 cb.bv CR (bn .add 9 (.tmp 98) (.tmp 101) v6 v70) fun v71=>
 M.pure (.ret v71)) O8
noncomputable def a3e (cb:Cb) (N:Nat) (call:o8) (v0:Value) (v6:Value):M CR:=
 cb.bv CR (a2U 9 v0) fun v73=>
 cb.bc CR (call 52 [v73]) (fun v74=>
 cb.bv CR (bn .add 9 (.tmp 105) (.tmp 107) v6 v74) fun v75=>
 M.pure (.ret v75)) O8
noncomputable def a3g (cb:Cb) (N:Nat) (call:o8) (v6:Value) (v0:Value):M CR:=
 cb.bv CR (bn .add 9 (.tmp 111) (.const (.string ⟨⟨[32]⟩⟩)) v6 (.string ⟨⟨[32]⟩⟩)) fun v77=>
 cb.bv CR (X6 3 v0) fun v78=>
 cb.bv CR (K7 v78) fun v79=>
 cb.bc CR (call 53 [v79,(.int .i64 (.ofNat 32))]) (fun v80=>
 cb.bv CR (bn .add 9 (.tmp 112) (.tmp 115) v77 v80) fun v81=>
 M.pure (.ret v81)) O8
noncomputable def a3x (cb:Cb) (N:Nat) (call:o8) (v6:Value) (v0:Value):M CR:=
 cb.bv CR (bn .add 9 (.tmp 119) (.const (.string ⟨⟨[32]⟩⟩)) v6 (.string ⟨⟨[32]⟩⟩)) fun v83=>
 cb.bv CR (X6 3 v0) fun v84=>
 cb.bv CR (K7 v84) fun v85=>
 cb.bc CR (call 53 [v85,(.int .i64 (.ofNat 64))]) (fun v86=>
 cb.bv CR (bn .add 9 (.tmp 120) (.tmp 123) v83 v86) fun v87=>
 M.pure (.ret v87)) O8
noncomputable def a3n (cb:Cb) (N:Nat) (call:o8) (v6:Value):M CR:=
 cb.bv CR (bn .add 9 (.tmp 132) (.const (.string ⟨⟨[32, 101, 120, 116, 101, 114, 110]⟩⟩)) v6 (.string ⟨⟨[32, 101, 120, 116, 101, 114, 110]⟩⟩)) fun v93=>
 M.pure (.ret v93)
noncomputable def a3h (cb:Cb) (N:Nat) (call:o8) (v0:Value) (v6:Value):M CR:=
 cb.bv CR (X6 1 v0) fun v89=>
 cb.bv CR (K7 v89) fun v90=>
 cb.bv CR (bn .eql 3 (.tmp 128) (.const (.int .i64 (.ofNat 3))) v90 (.int .i64 (.ofNat 3))) fun v91=>
 K5 v91 (
 cb.bv CR (bn .add 9 (.tmp 130) (.const (.string ⟨⟨[32, 102, 117, 110, 99]⟩⟩)) v6 (.string ⟨⟨[32, 102, 117, 110, 99]⟩⟩)) fun v92=>
 M.pure (.ret v92)) (
 a3n cb N call v6)
noncomputable def a3E (cb:Cb) (N:Nat) (call:o8) (v9:Value) (v0:Value) (v6:Value):M CR:=
 cb.bv CR (bn .eql 3 (.tmp 12) (.const (.int .i64 (.ofNat 20))) v9 (.int .i64 (.ofNat 20))) fun v88=>
 K5 v88 (
 a3h cb N call v0 v6) (
 M.pure (.ret v6))
noncomputable def a3q (cb:Cb) (N:Nat) (call:o8) (v9:Value) (v6:Value) (v0:Value):M CR:=
 cb.bv CR (bn .eql 3 (.tmp 12) (.const (.int .i64 (.ofNat 19))) v9 (.int .i64 (.ofNat 19))) fun v82=>
 K5 v82 (
 a3x cb N call v6 v0) (
 a3E cb N call v9 v0 v6)
noncomputable def a3t (cb:Cb) (N:Nat) (call:o8) (v9:Value) (v6:Value) (v0:Value):M CR:=
 cb.bv CR (bn .eql 3 (.tmp 12) (.const (.int .i64 (.ofNat 18))) v9 (.int .i64 (.ofNat 18))) fun v76=>
 K5 v76 (
 a3g cb N call v6 v0) (
 a3q cb N call v9 v6 v0)
noncomputable def a3l (cb:Cb) (N:Nat) (call:o8) (v9:Value) (v0:Value) (v6:Value):M CR:=
 cb.bv CR (bn .eql 3 (.tmp 12) (.const (.int .i64 (.ofNat 17))) v9 (.int .i64 (.ofNat 17))) fun v72=>
 K5 v72 (
 a3e cb N call v0 v6) (
 a3t cb N call v9 v6 v0)
noncomputable def a3j (cb:Cb) (N:Nat) (call:o8) (v9:Value) (v0:Value) (v6:Value):M CR:=
 cb.bv CR (bn .eql 3 (.tmp 12) (.const (.int .i64 (.ofNat 13))) v9 (.int .i64 (.ofNat 13))) fun v67=>
 K5 v67 (
 a3o cb N call v0 v6) (
 a3l cb N call v9 v0 v6)
noncomputable def a3B (cb:Cb) (N:Nat) (call:o8) (v9:Value) (v6:Value) (v0:Value):M CR:=
 cb.bj CR (cb.bv R2 (bn .eql 3 (.tmp 12) (.const (.int .i64 (.ofNat 11))) v9 (.int .i64 (.ofNat 11))) fun v64=>
 K5 v64 (
 M.pure (.normal, [v64,undef,v64])) (
 cb.bv R2 (bn .eql 3 (.tmp 12) (.const (.int .i64 (.ofNat 15))) v9 (.int .i64 (.ofNat 15))) fun v65=>
 M.pure (.normal, [v64,v65,v65]))) fun x62 vs63=>
 O4 x62 (K5 (j4 vs63 2) (
 a3z cb N call v6 v0) (
 a3j cb N call v9 v0 v6)) (fun _=>M.fail) (M.fail) O8
noncomputable def a3k (cb:Cb) (N:Nat) (call:o8) (v9:Value) (v0:Value) (v6:Value):M CR:=
 cb.bj CR (cb.bv R2 (bn .eql 3 (.tmp 12) (.const (.int .i64 (.ofNat 10))) v9 (.int .i64 (.ofNat 10))) fun v54=>
 K5 v54 (
 M.pure (.normal, [v54,undef,v54])) (
 cb.bv R2 (bn .eql 3 (.tmp 12) (.const (.int .i64 (.ofNat 14))) v9 (.int .i64 (.ofNat 14))) fun v55=>
 M.pure (.normal, [v54,v55,v55]))) fun x52 vs53=>
 O4 x52 (K5 (j4 vs53 2) (
 a3H cb N call v0 v6) (
 a3B cb N call v9 v6 v0)) (fun _=>M.fail) (M.fail) O8
noncomputable def a3C (cb:Cb) (N:Nat) (call:o8) (v9:Value) (v0:Value) (v6:Value):M CR:=
 cb.bv CR (bn .eql 3 (.tmp 12) (.const (.int .i64 (.ofNat 9))) v9 (.int .i64 (.ofNat 9))) fun v47=>
 K5 v47 (
 a3y cb N call v0 v6) (
 a3k cb N call v9 v0 v6)
noncomputable def a3F (cb:Cb) (N:Nat) (call:o8) (v9:Value) (v6:Value) (v0:Value):M CR:=
 cb.bv CR (bn .eql 3 (.tmp 12) (.const (.int .i64 (.ofNat 6))) v9 (.int .i64 (.ofNat 6))) fun v38=>
 K5 v38 (
 a3f cb N call v6 v0) (
 a3C cb N call v9 v0 v6)
noncomputable def a3u (cb:Cb) (N:Nat) (call:o8) (v9:Value) (v6:Value) (v0:Value):M CR:=
 cb.bv CR (bn .eql 3 (.tmp 12) (.const (.int .i64 (.ofNat 5))) v9 (.int .i64 (.ofNat 5))) fun v36=>
 K5 v36 (
 a4k cb N call v6 v0) (
 a3F cb N call v9 v6 v0)
noncomputable def a3p (cb:Cb) (N:Nat) (call:o8) (v9:Value) (v0:Value) (v6:Value):M CR:=
 cb.bv CR (bn .eql 3 (.tmp 12) (.const (.int .i64 (.ofNat 3))) v9 (.int .i64 (.ofNat 3))) fun v32=>
 K5 v32 (
 a4s cb N call v0 v6) (
 a3u cb N call v9 v6 v0)
noncomputable def a3G (cb:Cb) (N:Nat) (call:o8) (v9:Value) (v0:Value) (v6:Value):M CR:=
 cb.bj CR (cb.bv R2 (bn .eql 3 (.tmp 12) (.const (.int .i64 (.ofNat 2))) v9 (.int .i64 (.ofNat 2))) fun v22=>
 K5 v22 (
 M.pure (.normal, [v22,undef,undef,undef,undef,undef,v22])) (
 a4n cb N call v9 v22)) fun x20 vs21=>
 O4 x20 (K5 (j4 vs21 6) (
 a4u cb N call v0 v6) (
 a3p cb N call v9 v0 v6)) (fun _=>M.fail) (M.fail) O8
noncomputable def a3D (cb:Cb) (N:Nat) (call:o8) (v0:Value):M CR:=
 cb.bv CR (X6 0 v0) fun v4=>
 cb.bv CR (K7 v4) fun v5=>
 cb.bc CR (call 45 [v5]) (fun v6=>
 cb.bv CR (X6 0 v0) fun v7=>
 cb.bv CR (K7 v7) fun v8=>
 cb.bc CR (call 46 [v8]) (fun v9=>
 cb.bv CR (bn .eql 3 (.tmp 12) (.const (.int .i64 (.ofNat 1))) v9 (.int .i64 (.ofNat 1))) fun v10=>
 K5 v10 (
 a4j cb N call v0 v6) (
 a3G cb N call v9 v0 v6)) O8) O8
noncomputable def a0F (cb:Cb) (N:Nat) (call:o8) (a0:Value):M CR:=
 cb.bv CR (a6Y a0) fun v0=>
 cb.bv CR (a2U 9 v0) fun v1=>
 cb.bc CR (call 19 [v1]) (fun v2=>
 cb.bv CR (un .not v2) fun v3=>
 K5 v3 (
 M.pure (.ret (.string ⟨⟨[]⟩⟩))) (
 a3D cb N call v0)) O8
theorem c8P (cb:Cb) (N:Nat) (call:o8) (a0:Value):Y9 Tryz.prog R4 cb false N call Tryz.f13 c13 e2C [a0]=a0F cb N call a0:=by kernel_rfl
noncomputable def c14:Code:=a0g Tryz.f14
noncomputable def e1w:Pl:=.d
noncomputable def c7G (cb:Cb) (N:Nat) (call:o8) (v6:Value):M CR:=
 cb.bv CR (bn .add 9 (.const (.string ⟨⟨[40, 114, 101, 115, 117, 108, 116, 32]⟩⟩)) (.tmp 13) (.string ⟨⟨[40, 114, 101, 115, 117, 108, 116, 32]⟩⟩) v6) fun v8=>
 cb.bv CR (bn .add 9 (.tmp 14) (.const (.string ⟨⟨[41]⟩⟩)) v8 (.string ⟨⟨[41]⟩⟩)) fun v9=>
 M.pure (.ret v9)
noncomputable def c7c (cb:Cb) (N:Nat) (call:o8) (v0:Value):M CR:=
 cb.bv CR (X6 1 v0) fun v4=>
 cb.bv CR (K7 v4) fun v5=>
 cb.bc CR (call 40 [v5]) (fun v6=>
 cb.bv CR (bn .neq 9 (.tmp 11) (.const (.string ⟨⟨[]⟩⟩)) v6 (.string ⟨⟨[]⟩⟩)) fun v7=>
 K5 v7 (
 c7G cb N call v6) (
 M.pure (.ret (.string ⟨⟨[]⟩⟩)))) O8
noncomputable def c7k (cb:Cb) (N:Nat) (call:o8) (v0:Value):M CR:=
 cb.bv CR (X6 2 v0) fun v11=>
 cb.bv CR (K7 v11) fun v12=>
 cb.bc CR (call 37 [v12]) (fun v13=>
 cb.bv CR (bn .add 9 (.const (.string ⟨⟨[40, 116, 121, 112, 101, 32]⟩⟩)) (.tmp 20) (.string ⟨⟨[40, 116, 121, 112, 101, 32]⟩⟩) v13) fun v14=>
 cb.bv CR (bn .add 9 (.tmp 21) (.const (.string ⟨⟨[41]⟩⟩)) v14 (.string ⟨⟨[41]⟩⟩)) fun v15=>
 M.pure (.ret v15)) O8
noncomputable def c7q (cb:Cb) (N:Nat) (call:o8) (v2:Value) (v0:Value):M CR:=
 cb.bv CR (bn .eql 3 (.tmp 5) (.const (.int .i64 (.ofNat 2))) v2 (.int .i64 (.ofNat 2))) fun v10=>
 K5 v10 (
 c7k cb N call v0) (
 M.pure (.ret (.string ⟨⟨[]⟩⟩)))
noncomputable def b7d (cb:Cb) (N:Nat) (call:o8) (a0:Value):M CR:=
 cb.bv CR (a6Y a0) fun v0=>
 cb.bv CR (X6 0 v0) fun v1=>
 cb.bv CR (K7 v1) fun v2=>
 cb.bv CR (bn .eql 3 (.tmp 5) (.const (.int .i64 (.ofNat 1))) v2 (.int .i64 (.ofNat 1))) fun v3=>
 K5 v3 (
 c7c cb N call v0) (
 c7q cb N call v2 v0)
theorem c9z (cb:Cb) (N:Nat) (call:o8) (a0:Value):Y9 Tryz.prog R4 cb false N call Tryz.f14 c14 e1w [a0]=b7d cb N call a0:=by kernel_rfl
noncomputable def c15:Code:=a0g Tryz.f15
noncomputable def e3V:Pl:=.d
noncomputable def c7x (cb:Cb) (N:Nat) (call:o8) (v0:Value):M CR:=
 cb.bv CR (X6 1 v0) fun v8=>
 cb.bv CR (K7 v8) fun v9=>
 cb.bc CR (call 50 [v9]) (fun v10=>
 cb.bv CR (bn .add 9 (.const (.string ⟨⟨[40, 114, 101, 115, 117, 108, 116, 32]⟩⟩)) (.tmp 13) (.string ⟨⟨[40, 114, 101, 115, 117, 108, 116, 32]⟩⟩) v10) fun v11=>
 cb.bv CR (bn .add 9 (.tmp 14) (.const (.string ⟨⟨[41]⟩⟩)) v11 (.string ⟨⟨[41]⟩⟩)) fun v12=>
 M.pure (.ret v12)) O8
noncomputable def c6E (cb:Cb) (N:Nat) (call:o8) (v0:Value):M CR:=
 cb.bv CR (X6 1 v0) fun v4=>
 cb.bv CR (K7 v4) fun v5=>
 cb.bc CR (call 54 [v5]) (fun v6=>
 cb.bv CR (un .not v6) fun v7=>
 K5 v7 (
 M.pure (.ret (.string ⟨⟨[]⟩⟩))) (
 c7x cb N call v0)) O8
noncomputable def c7w (cb:Cb) (N:Nat) (call:o8) (v0:Value):M CR:=
 cb.bv CR (X6 2 v0) fun v14=>
 cb.bv CR (K7 v14) fun v15=>
 cb.bc CR (call 55 [v15]) (fun v16=>
 cb.bv CR (bn .add 9 (.const (.string ⟨⟨[40, 116, 121, 112, 101, 32]⟩⟩)) (.tmp 20) (.string ⟨⟨[40, 116, 121, 112, 101, 32]⟩⟩) v16) fun v17=>
 cb.bv CR (bn .add 9 (.tmp 21) (.const (.string ⟨⟨[41]⟩⟩)) v17 (.string ⟨⟨[41]⟩⟩)) fun v18=>
 M.pure (.ret v18)) O8
noncomputable def c6U (cb:Cb) (N:Nat) (call:o8) (v2:Value) (v0:Value):M CR:=
 cb.bv CR (bn .eql 3 (.tmp 4) (.const (.int .i64 (.ofNat 2))) v2 (.int .i64 (.ofNat 2))) fun v13=>
 K5 v13 (
 c7w cb N call v0) (
 M.pure (.ret (.string ⟨⟨[]⟩⟩)))
noncomputable def b7P (cb:Cb) (N:Nat) (call:o8) (a0:Value):M CR:=
 cb.bv CR (a6Y a0) fun v0=>
 cb.bv CR (X6 0 v0) fun v1=>
 cb.bv CR (K7 v1) fun v2=>
 cb.bv CR (bn .eql 3 (.tmp 4) (.const (.int .i64 (.ofNat 1))) v2 (.int .i64 (.ofNat 1))) fun v3=>
 K5 v3 (
 c6E cb N call v0) (
 c6U cb N call v2 v0)
theorem c7Z (cb:Cb) (N:Nat) (call:o8) (a0:Value):Y9 Tryz.prog R4 cb false N call Tryz.f15 c15 e3V [a0]=b7P cb N call a0:=by kernel_rfl
noncomputable def c16:Code:=a0g Tryz.f16
noncomputable def e2D:Pl:=(.s none .d (.s none .d (.s none (.s none .d (.s none (.l [11, 12, 13, 14, 17, 18, 19, 20, 21, 22, 23, 24, 25, 4, 15, 16, 5] .d) .d)) .d)))
noncomputable def a9B:List Oper:=a6e c16 6
noncomputable def c2c (call:o8) (u0:Value) (u1:Value) (u2:Value) (u3:Value) (u4:Value) (u5:Value) (u6:Value) (u7:Value) (u8:Value) (u9:Value) (u10:Value):M R2:=
 M.bind (M.foot (M.pure u0)) fun y0=>
 M.bind (M.foot (M.pure u5)) fun y1=>
 M.bind (M.foot (a4X 1 y0.1 y1.1)) fun y2=>
 M.bind (M.foot (K7 y2.1)) fun y3=>
 M.bind (M.foot (M.pure u4)) fun y4=>
 M.bind (M.foot (M.pure u5)) fun y5=>
 M.bind (M.foot (a4X 1 y4.1 y5.1)) fun y6=>
 M.bind (M.foot (K7 y6.1)) fun y7=>
 M.bind (M.foot (bn .neq 9 (.tmp 20) (.tmp 24) y3.1 y7.1)) fun y8=>
 M.guard (a0A a9B (a1Y a9B [y0.2,y1.2,y2.2,y3.2,y4.2,y5.2,y6.2,y7.2,y8.2]) [] [] 0) (M.pure (.normal, [y0.1,y1.1,y2.1,y3.1,y4.1,y5.1,y6.1,y7.1,y8.1]))
theorem b9n (call:o8) (u0:Value) (u1:Value) (u2:Value) (u3:Value) (u4:Value) (u5:Value) (u6:Value) (u7:Value) (u8:Value) (u9:Value) (u10:Value):dr call a9B 26 [0, 17, 18, 19, 1, 5, 21, 22, 23, 20, 24] [u0,u1,u2,u3,u4,u5,u6,u7,u8,u9,u10] [17, 18, 19, 20, 21, 22, 23, 24, 25]=c2c call u0 u1 u2 u3 u4 u5 u6 u7 u8 u9 u10:=(a4l _ _ _ _ _ _ _ _).trans (by kernel_rfl)
theorem b9m {F:List a2X} (hl:L9 F=9) (h:a3R [(0, 1),(0, 4),(1, 4),(2, 4),(3, 4),(0, 5),(1, 5),(2, 5),(3, 5),(4, 5),(0, 6),(1, 6),(2, 6),(3, 6),(0, 7),(1, 7),(2, 7),(3, 7)] F=true):a0A a9B (a1Y a9B F) [] [] 0=true:=a4S (L:=[(0, 1),(0, 4),(1, 4),(2, 4),(3, 4),(0, 5),(1, 5),(2, 5),(3, 5),(4, 5),(0, 6),(1, 6),(2, 6),(3, 6),(0, 7),(1, 7),(2, 7),(3, 7)]) (by kernel_rfl) (by kernel_rfl) hl h
noncomputable def c3h (cb:Cb) (N:Nat) (call:o8) (xs3:List Value) (a0:Value) (v6:Value) (v7:Value) (vs8:List Value):M R2:=
 M.pure (.ret, [(j4 xs3 16),a0,v6,v7,(j4 vs8 0),(j4 vs8 1),(j4 vs8 2),(j4 vs8 3),(j4 vs8 4),(j4 vs8 5),(j4 vs8 6),(j4 vs8 7),(j4 vs8 8),(.bool false),(j4 xs3 14),(j4 xs3 15),(j4 xs3 16)])
noncomputable def c1D (cb:Cb) (N:Nat) (call:o8) (xs3:List Value) (a0:Value) (v6:Value) (v7:Value) (vs8:List Value):M R2:=
 cb.bv R2 (bn .add 3 (.tmp 15) (.const (.int .i64 (.ofNat 1))) (j4 xs3 16) (.int .i64 (.ofNat 1))) fun v9=>
 M.pure (.normal, [(j4 xs3 16),a0,v6,v7,(j4 vs8 0),(j4 vs8 1),(j4 vs8 2),(j4 vs8 3),(j4 vs8 4),(j4 vs8 5),(j4 vs8 6),(j4 vs8 7),(j4 vs8 8),(j4 xs3 13),(j4 xs3 16),v9,v9])
noncomputable def c1s (cb:Cb) (N:Nat) (call:o8) (a0:Value) (xs3:List Value) (a1:Value) (v6:Value) (v7:Value):M R2:=
 cb.bj R2 (dr call a9B 26 [0, 17, 18, 19, 1, 5, 21, 22, 23, 20, 24] [a0,(j4 xs3 4),(j4 xs3 5),(j4 xs3 6),a1,(j4 xs3 16),(j4 xs3 8),(j4 xs3 9),(j4 xs3 10),(j4 xs3 7),(j4 xs3 11)] [17, 18, 19, 20, 21, 22, 23, 24, 25]) fun _ vs8=>
 K5 (j4 vs8 8) (
 c3h cb N call xs3 a0 v6 v7 vs8) (
 c1D cb N call xs3 a0 v6 v7 vs8)
noncomputable def c2Y (cb:Cb) (N:Nat) (call:o8) (xs3:List Value) (a0:Value) (v6:Value) (v7:Value):M R2:=
 M.pure (.exit 0, [(j4 xs3 16),a0,v6,v7,(j4 xs3 4),(j4 xs3 5),(j4 xs3 6),(j4 xs3 7),(j4 xs3 8),(j4 xs3 9),(j4 xs3 10),(j4 xs3 11),(j4 xs3 12),(j4 xs3 13),(j4 xs3 14),(j4 xs3 15),(j4 xs3 16)])
noncomputable def b6f (cb:Cb) (N:Nat) (call:o8) (a0:Value) (a1:Value) (xs3:List Value):M R2:=
 cb.bv R2 (a3U a0) fun v6=>
 cb.bv R2 (bn .lss 3 (.tmp 11) (.tmp 13) (j4 xs3 16) v6) fun v7=>
 K5 v7 (
 c1s cb N call a0 xs3 a1 v6 v7) (
 c2Y cb N call xs3 a0 v6 v7)
noncomputable def c6Q (cb:Cb) (N:Nat) (call:o8) (a0:Value) (a1:Value):M CR:=
 cb.bj CR (cb.lp (b6f cb N call a0 a1) N [undef,undef,undef,undef,undef,undef,undef,undef,undef,undef,undef,undef,undef,(.bool false),undef,undef,(.int .i64 (.ofNat 0))]) fun x4 vs5=>
 O4 x4 (M.fail) (fun i10=>bcase (Nat.beq i10 0) (M.pure (.ret (.bool true))) (M.fail)) (M.pure (.ret (j4 vs5 13))) O8
noncomputable def b4z (cb:Cb) (N:Nat) (call:o8) (a0:Value) (a1:Value):M CR:=
 cb.bv CR (a3U a0) fun v0=>
 cb.bv CR (a3U a1) fun v1=>
 cb.bv CR (bn .neq 3 (.tmp 7) (.tmp 9) v0 v1) fun v2=>
 K5 v2 (
 M.pure (.ret (.bool false))) (
 c6Q cb N call a0 a1)
theorem c9o (cb:Cb) (N:Nat) (call:o8) (a0:Value) (a1:Value):Y9 Tryz.prog R4 cb false N call Tryz.f16 c16 e2D [a0,a1]=b4z cb N call a0 a1:=by kernel_rfl
noncomputable def c17:Code:=a0g Tryz.f17
noncomputable def e3M:Pl:=(.s none .d (.s none .d (.s none .d (.s none (.s none .d (.s none (.l [12, 13, 14, 6, 15, 16, 7, 17, 18, 2, 19, 20, 21, 23, 24, 25, 22, 26, 27, 29, 28, 30, 31, 32, 34, 33, 35, 36, 37, 8, 38, 4, 39, 40, 41, 42, 43, 44, 45, 3, 46, 11] (.s none .d (.s none .d (.s none (.s none (.s none .d (.s none .d (.s none .d (.s none .d (.s (some [20, 21, 23, 24, 25, 22, 26, 27, 29, 28, 30, 31, 32, 34, 33, 35, 36, 37, 8, 38, 4]) (.s none .d (.s none (.s (some [23, 24, 25, 22]) .d .d) .d)) .d))))) .d) .d)))) .d)) .d))))
noncomputable def c2J (cb:Cb) (N:Nat) (call:o8) (v4:Value) (v5:Value) (v6:Value) (v7:Value) (v9:Value) (v10:Value) (v11:Value) (xs1:List Value):M R2:=
 M.pure (.ret, [v4,v5,v6,v7,v9,v10,v10,v10,v11,(.slice none 0 0),(j4 xs1 10),(j4 xs1 11),(j4 xs1 12),(j4 xs1 13),(j4 xs1 14),(j4 xs1 15),(j4 xs1 16),(j4 xs1 17),(j4 xs1 18),(j4 xs1 19),(j4 xs1 20),(j4 xs1 21),(j4 xs1 22),(j4 xs1 23),(j4 xs1 24),(j4 xs1 25),(j4 xs1 26),(j4 xs1 27),(j4 xs1 28),(j4 xs1 29),(j4 xs1 30),(j4 xs1 31),(j4 xs1 32),(j4 xs1 33),(j4 xs1 34),(j4 xs1 35),(j4 xs1 36),(j4 xs1 37),(j4 xs1 38),(j4 xs1 39),(j4 xs1 40),(j4 xs1 41)])
noncomputable def c1f (cb:Cb) (N:Nat) (call:o8) (v15:Value) (v18:Value) (xs1:List Value):M R2:=
 cb.bv R2 (bn .eql 22 (.tmp 21) (.const (.int .i64 (.ofNat 3))) v15 (.int .i64 (.ofNat 3))) fun v19=>
 K5 v19 (
 M.pure (.normal, [v18,v19,(j4 xs1 15),v19])) (
 cb.bv R2 (bn .eql 22 (.tmp 21) (.const (.int .i64 (.ofNat 4))) v15 (.int .i64 (.ofNat 4))) fun v20=>
 M.pure (.normal, [v18,v19,v20,v20]))
noncomputable def c1G (cb:Cb) (N:Nat) (call:o8) (xs1:List Value) (v14:Value) (v15:Value) (vs17:List Value):M R2:=
 cb.bv R2 (bn .add 3 (.tmp 26) (.const (.int .i64 (.ofNat 1))) (j4 xs1 31) (.int .i64 (.ofNat 1))) fun v21=>
 M.pure (.normal, [v14,v15,(j4 vs17 0),(j4 vs17 1),(j4 vs17 2),(j4 vs17 3),(j4 xs1 31),v21,(j4 xs1 19),(j4 xs1 20),(j4 xs1 21),(j4 xs1 22),(j4 xs1 23),(j4 xs1 24),(j4 xs1 25),(j4 xs1 26),(j4 xs1 27),(j4 xs1 28),(j4 xs1 31),(j4 xs1 30),v21])
noncomputable def c2E (cb:Cb) (N:Nat) (call:o8) (xs1:List Value) (v14:Value) (v15:Value) (vs17:List Value) (v22:Value):M R2:=
 cb.bv R2 (bn .sub 3 (.tmp 30) (.const (.int .i64 (.ofNat 1))) (j4 xs1 31) (.int .i64 (.ofNat 1))) fun v23=>
 cb.bv R2 (mx #[3, 3] [(.int .i64 (.ofNat 0)),v23]) fun v24=>
 M.pure (.normal, [v14,v15,(j4 vs17 0),(j4 vs17 1),(j4 vs17 2),(j4 vs17 3),(j4 xs1 17),(j4 xs1 18),v22,v22,(j4 xs1 31),v23,v24,(j4 xs1 24),(j4 xs1 25),(j4 xs1 26),(j4 xs1 27),(j4 xs1 28),v24,(j4 xs1 30),(j4 xs1 31)])
noncomputable def c1X (cb:Cb) (N:Nat) (call:o8) (xs1:List Value) (v14:Value) (v15:Value) (vs17:List Value) (v22:Value) (v25:Value):M R2:=
 cb.bv R2 (bn .sub 3 (.tmp 35) (.const (.int .i64 (.ofNat 1))) (j4 xs1 31) (.int .i64 (.ofNat 1))) fun v26=>
 cb.bv R2 (mx #[3, 3] [(.int .i64 (.ofNat 0)),v26]) fun v27=>
 M.pure (.normal, [v14,v15,(j4 vs17 0),(j4 vs17 1),(j4 vs17 2),(j4 vs17 3),(j4 xs1 17),(j4 xs1 18),v22,v22,(j4 xs1 21),(j4 xs1 22),(j4 xs1 23),v25,v25,(j4 xs1 31),v26,v27,v27,v27,v27])
noncomputable def c2F (cb:Cb) (N:Nat) (call:o8) (v14:Value) (v15:Value) (vs17:List Value) (xs1:List Value) (v22:Value) (v25:Value):M R2:=
 M.pure (.normal, [v14,v15,(j4 vs17 0),(j4 vs17 1),(j4 vs17 2),(j4 vs17 3),(j4 xs1 17),(j4 xs1 18),v22,v22,(j4 xs1 21),(j4 xs1 22),(j4 xs1 23),v25,v25,(j4 xs1 26),(j4 xs1 27),(j4 xs1 28),(j4 xs1 31),(j4 xs1 30),(j4 xs1 31)])
noncomputable def c1d (cb:Cb) (N:Nat) (call:o8) (v15:Value) (xs1:List Value) (v14:Value) (vs17:List Value) (v22:Value):M R2:=
 cb.bv R2 (bn .eql 22 (.tmp 21) (.const (.int .i64 (.ofNat 11))) v15 (.int .i64 (.ofNat 11))) fun v25=>
 K5 v25 (
 c1X cb N call xs1 v14 v15 vs17 v22 v25) (
 c2F cb N call v14 v15 vs17 xs1 v22 v25)
noncomputable def c3g (cb:Cb) (N:Nat) (call:o8) (v15:Value) (xs1:List Value) (v14:Value) (vs17:List Value):M R2:=
 cb.bv R2 (bn .eql 22 (.tmp 21) (.const (.int .i64 (.ofNat 5))) v15 (.int .i64 (.ofNat 5))) fun v22=>
 K5 v22 (
 c2E cb N call xs1 v14 v15 vs17 v22) (
 c1d cb N call v15 xs1 v14 vs17 v22)
noncomputable def c1S (cb:Cb) (N:Nat) (call:o8) (xs1:List Value) (v4:Value) (v5:Value) (v6:Value) (v7:Value) (v9:Value) (v10:Value) (v11:Value) (vs13:List Value) (v28:Value) (v29:Value) (v30:Value) (v31:Value):M R2:=
 cb.bv R2 (bn .add 3 (.tmp 11) (.const (.int .i64 (.ofNat 1))) (j4 xs1 41) (.int .i64 (.ofNat 1))) fun v32=>
 M.pure (.normal, [v4,v5,v6,v7,v9,v10,v10,v10,v11,(j4 xs1 9),(j4 xs1 31),(j4 vs13 0),(j4 vs13 1),(j4 vs13 2),(j4 vs13 3),(j4 vs13 4),(j4 vs13 5),(j4 vs13 6),(j4 vs13 7),(j4 vs13 8),(j4 vs13 9),(j4 vs13 10),(j4 vs13 11),(j4 vs13 12),(j4 vs13 13),(j4 vs13 14),(j4 vs13 15),(j4 vs13 16),(j4 vs13 17),(j4 vs13 18),(j4 vs13 19),(j4 vs13 20),(j4 xs1 39),(j4 vs13 18),v28,v10,v29,v30,v31,v31,v32,v32])
noncomputable def c2q (cb:Cb) (N:Nat) (call:o8) (v7:Value) (xs1:List Value) (v10:Value) (v4:Value) (v5:Value) (v6:Value) (v9:Value) (v11:Value):M R2:=
 cb.bj R2 (cb.bv R2 (X6 0 v7) fun v14=>
 cb.bv R2 (K7 v14) fun v15=>
 cb.bj R2 (cb.bv R2 (bn .eql 22 (.tmp 21) (.const (.int .i64 (.ofNat 2))) v15 (.int .i64 (.ofNat 2))) fun v18=>
 K5 v18 (
 M.pure (.normal, [v18,(j4 xs1 14),(j4 xs1 15),v18])) (
 c1f cb N call v15 v18 xs1)) fun x16 vs17=>
 O4 x16 (K5 (j4 vs17 3) (
 c1G cb N call xs1 v14 v15 vs17) (
 c3g cb N call v15 xs1 v14 vs17)) (fun _=>M.fail) (M.fail) O8) fun x12 vs13=>
 O4 x12 (cb.bc R2 (call 56 [(.string ⟨⟨[32, 32]⟩⟩),(j4 vs13 18)]) (fun v28=>
 cb.bv R2 (bn .add 9 (.tmp 41) (.tmp 42) v28 v10) fun v29=>
 cb.bv R2 (a1W 1 1 [(0, 1)] [v29] [(.string ⟨⟨[]⟩⟩)]) fun v30=>
 cb.bv R2 (a3S ti9 (j4 xs1 39) v30) fun v31=>
 c1S cb N call xs1 v4 v5 v6 v7 v9 v10 v11 vs13 v28 v29 v30 v31) O8) (fun _=>M.fail) (M.fail) O8
noncomputable def b7T (cb:Cb) (N:Nat) (call:o8) (v6:Value) (v4:Value) (v5:Value) (xs1:List Value):M R2:=
 cb.bv R2 (b0P [(.int .i64 (.ofNat 0)),(.int .i64 (.ofNat 0)),(.int .i64 (.ofNat 0)),(.int .u64 (.ofNat 0)),(.int .i64 (.ofNat 0)),(.int .i64 (.ofNat 0)),(.int .i64 (.ofNat 0)),(.slice none 0 0),(.slice none 0 0)]) fun v7=>
 cb.bv R2 (a4B 9 v7 v6) fun v8=>
 cb.bv R2 (a2U 9 v7) fun v9=>
 cb.bc R2 (call 12 [v9]) (fun v10=>
 cb.bv R2 (bn .eql 9 (.tmp 17) (.const (.string ⟨⟨[]⟩⟩)) v10 (.string ⟨⟨[]⟩⟩)) fun v11=>
 K5 v11 (
 c2J cb N call v4 v5 v6 v7 v9 v10 v11 xs1) (
 c2q cb N call v7 xs1 v10 v4 v5 v6 v9 v11)) O8
noncomputable def b8J (cb:Cb) (N:Nat) (call:o8) (v4:Value) (xs1:List Value):M R2:=
 M.pure (.exit 0, [v4,(j4 xs1 1),(j4 xs1 2),(j4 xs1 3),(j4 xs1 4),(j4 xs1 5),(j4 xs1 6),(j4 xs1 7),(j4 xs1 8),(j4 xs1 9),(j4 xs1 10),(j4 xs1 11),(j4 xs1 12),(j4 xs1 13),(j4 xs1 14),(j4 xs1 15),(j4 xs1 16),(j4 xs1 17),(j4 xs1 18),(j4 xs1 19),(j4 xs1 20),(j4 xs1 21),(j4 xs1 22),(j4 xs1 23),(j4 xs1 24),(j4 xs1 25),(j4 xs1 26),(j4 xs1 27),(j4 xs1 28),(j4 xs1 29),(j4 xs1 30),(j4 xs1 31),(j4 xs1 32),(j4 xs1 33),(j4 xs1 34),(j4 xs1 35),(j4 xs1 36),(j4 xs1 37),(j4 xs1 38),(j4 xs1 39),(j4 xs1 40),(j4 xs1 41)])
noncomputable def b4s (cb:Cb) (N:Nat) (call:o8) (v0:Value) (a0:Value) (xs1:List Value):M R2:=
 cb.bv R2 (bn .lss 3 (.tmp 11) (.tmp 10) (j4 xs1 41) v0) fun v4=>
 K5 v4 (
 cb.bv R2 (a4X 9 a0 (j4 xs1 41)) fun v5=>
 cb.bv R2 (a2U 9 v5) fun v6=>
 b7T cb N call v6 v4 v5 xs1) (
 b8J cb N call v4 xs1)
noncomputable def c3X (cb:Cb) (N:Nat) (call:o8) (v0:Value) (a0:Value):M CR:=
 cb.bj CR (cb.lp (b4s cb N call v0 a0) N [undef,undef,undef,undef,undef,undef,undef,undef,undef,(.slice none 0 0),undef,undef,undef,undef,undef,undef,undef,undef,undef,undef,undef,undef,undef,undef,undef,undef,undef,undef,undef,undef,undef,(.int .i64 (.ofNat 0)),undef,undef,undef,undef,undef,undef,undef,(.slice none 0 0),undef,(.int .i64 (.ofNat 0))]) fun x2 vs3=>
 O4 x2 (M.fail) (fun i33=>bcase (Nat.beq i33 0) (M.pure (.ret (j4 vs3 39))) (M.fail)) (M.pure (.ret (j4 vs3 9))) O8
noncomputable def b4S (cb:Cb) (N:Nat) (call:o8) (a0:Value):M CR:=
 cb.bv CR (a3U a0) fun v0=>
 c3X cb N call v0 a0
theorem c8r (cb:Cb) (N:Nat) (call:o8) (a0:Value):Y9 Tryz.prog R4 cb false N call Tryz.f17 c17 e3M [a0]=b4S cb N call a0:=by kernel_rfl
noncomputable def c18:Code:=a0g Tryz.f18
noncomputable def e3h:Pl:=(.s none .d (.s none .d (.s none .d (.s none (.s none .d (.s none (.l [9, 10, 11, 12, 15, 16, 17, 18, 19, 20, 2, 21, 22, 23, 24, 25, 26, 28, 27, 29, 30, 31, 33, 32, 34, 35, 36, 6, 37, 39, 40, 41, 38, 42, 43, 4, 44, 45, 46, 47, 48, 49, 50, 51, 54, 55, 7, 52, 53, 8, 56, 57, 58, 59, 3, 13, 14, 5] (.s none .d (.s none (.s none (.s none .d (.s none .d (.s (some [22, 23, 24, 25, 26, 28, 27, 29, 30, 31, 33, 32, 34, 35, 36, 6, 37, 39, 40, 41, 38, 42, 43, 4]) (.s none .d (.s none (.s none .d (.s none .d (.s none .d (.s none .d (.s (some [39, 40, 41, 38]) .d .d))))) .d)) (.s none .d (.s none (.s none .d (.s none (.l [49, 50, 51, 54, 55, 7, 52, 53, 8] .d) .d)) .d))))) .d) .d))) .d)) .d))))
noncomputable def c2m (cb:Cb) (N:Nat) (call:o8) (xs0:List Value) (a0:Value) (v3:Value) (v4:Value) (v5:Value) (v6:Value) (v7:Value) (v8:Value):M R2:=
 M.pure (.ret, [(j4 xs0 57),a0,v3,v4,a0,(j4 xs0 57),v5,v6,v7,v8,(.slice none 0 0),(j4 xs0 11),(j4 xs0 12),(j4 xs0 13),(j4 xs0 14),(j4 xs0 15),(j4 xs0 16),(j4 xs0 17),(j4 xs0 18),(j4 xs0 19),(j4 xs0 20),(j4 xs0 21),(j4 xs0 22),(j4 xs0 23),(j4 xs0 24),(j4 xs0 25),(j4 xs0 26),(j4 xs0 27),(j4 xs0 28),(j4 xs0 29),(j4 xs0 30),(j4 xs0 31),(j4 xs0 32),(j4 xs0 33),(j4 xs0 34),(j4 xs0 35),(j4 xs0 36),(j4 xs0 37),(j4 xs0 38),(j4 xs0 39),(j4 xs0 40),(j4 xs0 41),(j4 xs0 42),(j4 xs0 43),(j4 xs0 44),(j4 xs0 45),(j4 xs0 46),(j4 xs0 47),(j4 xs0 48),(j4 xs0 49),(j4 xs0 50),(j4 xs0 51),(j4 xs0 52),(j4 xs0 53),(j4 xs0 54),(j4 xs0 55),(j4 xs0 56),(j4 xs0 57)])
noncomputable def c1Y (cb:Cb) (N:Nat) (call:o8) (xs0:List Value) (a0:Value) (v11:Value) (v12:Value) (v13:Value) (v14:Value):M R2:=
 cb.bv R2 (bn .sub 3 (.tmp 29) (.const (.int .i64 (.ofNat 1))) (j4 xs0 35) (.int .i64 (.ofNat 1))) fun v15=>
 cb.bv R2 (mx #[3, 3] [v15,(.int .i64 (.ofNat 0))]) fun v16=>
 M.pure (.normal, [a0,(j4 xs0 57),v11,v12,v13,v14,v14,(j4 xs0 35),v15,v16,(j4 xs0 22),(j4 xs0 23),(j4 xs0 24),(j4 xs0 25),(j4 xs0 26),v16,(j4 xs0 28),(j4 xs0 29),(j4 xs0 30),(j4 xs0 31),(j4 xs0 32),(j4 xs0 33),(j4 xs0 34),(j4 xs0 35)])
noncomputable def c1o (cb:Cb) (N:Nat) (call:o8) (xs0:List Value) (a0:Value) (v11:Value) (v12:Value) (v13:Value) (v14:Value) (v17:Value):M R2:=
 cb.bv R2 (bn .sub 3 (.tmp 34) (.const (.int .i64 (.ofNat 1))) (j4 xs0 35) (.int .i64 (.ofNat 1))) fun v18=>
 cb.bv R2 (mx #[3, 3] [v18,(.int .i64 (.ofNat 0))]) fun v19=>
 M.pure (.normal, [a0,(j4 xs0 57),v11,v12,v13,v14,v14,(j4 xs0 19),(j4 xs0 20),(j4 xs0 21),v17,v17,(j4 xs0 35),v18,v19,v19,v19,(j4 xs0 29),(j4 xs0 30),(j4 xs0 31),(j4 xs0 32),(j4 xs0 33),(j4 xs0 34),v19])
noncomputable def c2V (cb:Cb) (N:Nat) (call:o8) (v13:Value) (v22:Value) (xs0:List Value):M R2:=
 cb.bv R2 (bn .eql 22 (.tmp 26) (.const (.int .i64 (.ofNat 3))) v13 (.int .i64 (.ofNat 3))) fun v23=>
 K5 v23 (
 M.pure (.normal, [v22,v23,(j4 xs0 31),v23])) (
 cb.bv R2 (bn .eql 22 (.tmp 26) (.const (.int .i64 (.ofNat 4))) v13 (.int .i64 (.ofNat 4))) fun v24=>
 M.pure (.normal, [v22,v23,v24,v24]))
noncomputable def c2D (cb:Cb) (N:Nat) (call:o8) (xs0:List Value) (a0:Value) (v11:Value) (v12:Value) (v13:Value) (v14:Value) (v17:Value) (vs21:List Value):M R2:=
 cb.bv R2 (bn .add 3 (.tmp 42) (.const (.int .i64 (.ofNat 1))) (j4 xs0 35) (.int .i64 (.ofNat 1))) fun v25=>
 M.pure (.normal, [a0,(j4 xs0 57),v11,v12,v13,v14,v14,(j4 xs0 19),(j4 xs0 20),(j4 xs0 21),v17,v17,(j4 xs0 24),(j4 xs0 25),(j4 xs0 26),(j4 xs0 35),(j4 xs0 28),(j4 vs21 0),(j4 vs21 1),(j4 vs21 2),(j4 vs21 3),(j4 xs0 35),v25,v25])
noncomputable def c1i (cb:Cb) (N:Nat) (call:o8) (a0:Value) (xs0:List Value) (v11:Value) (v12:Value) (v13:Value) (v14:Value) (v17:Value) (vs21:List Value):M R2:=
 M.pure (.normal, [a0,(j4 xs0 57),v11,v12,v13,v14,v14,(j4 xs0 19),(j4 xs0 20),(j4 xs0 21),v17,v17,(j4 xs0 24),(j4 xs0 25),(j4 xs0 26),(j4 xs0 35),(j4 xs0 28),(j4 vs21 0),(j4 vs21 1),(j4 vs21 2),(j4 vs21 3),(j4 xs0 33),(j4 xs0 34),(j4 xs0 35)])
noncomputable def c2u (cb:Cb) (N:Nat) (call:o8) (v13:Value) (xs0:List Value) (a0:Value) (v11:Value) (v12:Value) (v14:Value) (v17:Value):M R2:=
 cb.bj R2 (cb.bv R2 (bn .eql 22 (.tmp 26) (.const (.int .i64 (.ofNat 2))) v13 (.int .i64 (.ofNat 2))) fun v22=>
 K5 v22 (
 M.pure (.normal, [v22,(j4 xs0 30),(j4 xs0 31),v22])) (
 c2V cb N call v13 v22 xs0)) fun x20 vs21=>
 O4 x20 (K5 (j4 vs21 3) (
 c2D cb N call xs0 a0 v11 v12 v13 v14 v17 vs21) (
 c1i cb N call a0 xs0 v11 v12 v13 v14 v17 vs21)) (fun _=>M.fail) (M.fail) O8
noncomputable def c1e (cb:Cb) (N:Nat) (call:o8) (v13:Value) (xs0:List Value) (a0:Value) (v11:Value) (v12:Value) (v14:Value):M R2:=
 cb.bv R2 (bn .eql 22 (.tmp 26) (.const (.int .i64 (.ofNat 11))) v13 (.int .i64 (.ofNat 11))) fun v17=>
 K5 v17 (
 c1o cb N call xs0 a0 v11 v12 v13 v14 v17) (
 c2u cb N call v13 xs0 a0 v11 v12 v14 v17)
noncomputable def c1x (cb:Cb) (N:Nat) (call:o8) (xs29:List Value) (vs10:List Value) (v32:Value):M R2:=
 cb.bv R2 (bn .add 9 (.const (.string ⟨⟨[32, 32]⟩⟩)) (.tmp 54) (.string ⟨⟨[32, 32]⟩⟩) (j4 xs29 5)) fun v33=>
 cb.bv R2 (bn .add 3 (.tmp 52) (.const (.int .i64 (.ofNat 1))) (j4 xs29 8) (.int .i64 (.ofNat 1))) fun v34=>
 M.pure (.normal, [(j4 xs29 8),(j4 vs10 15),v32,(j4 xs29 5),v33,v33,(j4 xs29 8),v34,v34])
noncomputable def b6e (cb:Cb) (N:Nat) (call:o8) (vs10:List Value) (xs29:List Value):M R2:=
 cb.bv R2 (bn .lss 3 (.tmp 49) (.tmp 50) (j4 xs29 8) (j4 vs10 15)) fun v32=>
 K5 v32 (
 c1x cb N call xs29 vs10 v32) (
 M.pure (.exit 3, [(j4 xs29 8),(j4 vs10 15),v32,(j4 xs29 3),(j4 xs29 4),(j4 xs29 5),(j4 xs29 6),(j4 xs29 7),(j4 xs29 8)]))
noncomputable def b7x (cb:Cb) (N:Nat) (call:o8) (xs0:List Value) (a0:Value) (v3:Value) (v4:Value) (v5:Value) (v6:Value) (v7:Value) (v8:Value) (vs10:List Value) (v26:Value) (v27:Value) (v28:Value) (vs31:List Value) (v36:Value) (v37:Value) (v38:Value):M R2:=
 M.pure (.normal, [(j4 xs0 57),a0,v3,v4,a0,(j4 xs0 57),v5,v6,v7,v8,(j4 xs0 10),(j4 xs0 35),(j4 vs10 0),(j4 vs10 1),(j4 vs10 2),(j4 vs10 3),(j4 vs10 4),(j4 vs10 5),(j4 vs10 6),(j4 vs10 7),(j4 vs10 8),(j4 vs10 9),(j4 vs10 10),(j4 vs10 11),(j4 vs10 12),(j4 vs10 13),(j4 vs10 14),(j4 vs10 15),(j4 vs10 16),(j4 vs10 17),(j4 vs10 18),(j4 vs10 19),(j4 vs10 20),(j4 vs10 21),(j4 vs10 22),(j4 vs10 23),a0,(j4 xs0 57),v26,v27,v28,(j4 vs31 0),(j4 vs31 1),(j4 vs31 2),(j4 vs31 3),(j4 vs31 4),(j4 vs31 5),(j4 vs31 6),(j4 vs31 7),(j4 vs31 8),(j4 xs0 54),(j4 vs31 5),v36,v37,v37,(j4 xs0 57),v38,v38])
noncomputable def b7M (cb:Cb) (N:Nat) (call:o8) (vs10:List Value) (xs0:List Value) (v28:Value) (a0:Value) (v3:Value) (v4:Value) (v5:Value) (v6:Value) (v7:Value) (v8:Value) (v26:Value) (v27:Value):M R2:=
 cb.bj R2 (cb.lp (b6e cb N call vs10) N [(j4 xs0 41),(j4 xs0 42),(j4 xs0 43),(j4 xs0 44),(j4 xs0 45),v28,(j4 xs0 47),(j4 xs0 48),(.int .i64 (.ofNat 0))]) fun x30 vs31=>
 O4 x30 (M.fail) (fun i35=>bcase (Nat.beq i35 3) (cb.bv R2 (a1W 1 1 [(0, 1)] [(j4 vs31 5)] [(.string ⟨⟨[]⟩⟩)]) fun v36=>
 cb.bv R2 (a3S ti9 (j4 xs0 54) v36) fun v37=>
 cb.bv R2 (bn .add 3 (.tmp 13) (.const (.int .i64 (.ofNat 1))) (j4 xs0 57) (.int .i64 (.ofNat 1))) fun v38=>
 b7x cb N call xs0 a0 v3 v4 v5 v6 v7 v8 vs10 v26 v27 v28 vs31 v36 v37 v38) (M.fail)) (M.fail) O8
noncomputable def b6C (cb:Cb) (N:Nat) (call:o8) (a0:Value) (xs0:List Value) (v3:Value) (v4:Value) (v5:Value) (v6:Value) (v7:Value) (v8:Value):M R2:=
 cb.bj R2 (cb.bv R2 (a4X 9 a0 (j4 xs0 57)) fun v11=>
 cb.bv R2 (X6 0 v11) fun v12=>
 cb.bv R2 (K7 v12) fun v13=>
 cb.bv R2 (bn .eql 22 (.tmp 26) (.const (.int .i64 (.ofNat 5))) v13 (.int .i64 (.ofNat 5))) fun v14=>
 K5 v14 (
 c1Y cb N call xs0 a0 v11 v12 v13 v14) (
 c1e cb N call v13 xs0 a0 v11 v12 v14)) fun x9 vs10=>
 O4 x9 (cb.bv R2 (a4X 9 a0 (j4 xs0 57)) fun v26=>
 cb.bv R2 (a2U 9 v26) fun v27=>
 cb.bc R2 (call 13 [v27]) (fun v28=>
 b7M cb N call vs10 xs0 v28 a0 v3 v4 v5 v6 v7 v8 v26 v27) O8) (fun _=>M.fail) (M.fail) O8
noncomputable def b8k (cb:Cb) (N:Nat) (call:o8) (a0:Value) (xs0:List Value) (v3:Value) (v4:Value):M R2:=
 cb.bv R2 (a4X 9 a0 (j4 xs0 57)) fun v5=>
 cb.bv R2 (a2U 9 v5) fun v6=>
 cb.bc R2 (call 19 [v6]) (fun v7=>
 cb.bv R2 (un .not v7) fun v8=>
 K5 v8 (
 c2m cb N call xs0 a0 v3 v4 v5 v6 v7 v8) (
 b6C cb N call a0 xs0 v3 v4 v5 v6 v7 v8)) O8
noncomputable def b6Y (cb:Cb) (N:Nat) (call:o8) (xs0:List Value) (a0:Value) (v3:Value) (v4:Value):M R2:=
 M.pure (.exit 0, [(j4 xs0 57),a0,v3,v4,(j4 xs0 4),(j4 xs0 5),(j4 xs0 6),(j4 xs0 7),(j4 xs0 8),(j4 xs0 9),(j4 xs0 10),(j4 xs0 11),(j4 xs0 12),(j4 xs0 13),(j4 xs0 14),(j4 xs0 15),(j4 xs0 16),(j4 xs0 17),(j4 xs0 18),(j4 xs0 19),(j4 xs0 20),(j4 xs0 21),(j4 xs0 22),(j4 xs0 23),(j4 xs0 24),(j4 xs0 25),(j4 xs0 26),(j4 xs0 27),(j4 xs0 28),(j4 xs0 29),(j4 xs0 30),(j4 xs0 31),(j4 xs0 32),(j4 xs0 33),(j4 xs0 34),(j4 xs0 35),(j4 xs0 36),(j4 xs0 37),(j4 xs0 38),(j4 xs0 39),(j4 xs0 40),(j4 xs0 41),(j4 xs0 42),(j4 xs0 43),(j4 xs0 44),(j4 xs0 45),(j4 xs0 46),(j4 xs0 47),(j4 xs0 48),(j4 xs0 49),(j4 xs0 50),(j4 xs0 51),(j4 xs0 52),(j4 xs0 53),(j4 xs0 54),(j4 xs0 55),(j4 xs0 56),(j4 xs0 57)])
noncomputable def b3g (cb:Cb) (N:Nat) (call:o8) (a0:Value) (xs0:List Value):M R2:=
 cb.bv R2 (a3U a0) fun v3=>
 cb.bv R2 (bn .lss 3 (.tmp 9) (.tmp 11) (j4 xs0 57) v3) fun v4=>
 K5 v4 (
 b8k cb N call a0 xs0 v3 v4) (
 b6Y cb N call xs0 a0 v3 v4)
noncomputable def b4W (cb:Cb) (N:Nat) (call:o8) (a0:Value):M CR:=
 cb.bj CR (cb.lp (b3g cb N call a0) N [undef,undef,undef,undef,undef,undef,undef,undef,undef,undef,(.slice none 0 0),undef,undef,undef,undef,undef,undef,undef,undef,undef,undef,undef,undef,undef,undef,undef,undef,undef,undef,undef,undef,undef,undef,undef,undef,(.int .i64 (.ofNat 0)),undef,undef,undef,undef,undef,undef,undef,undef,undef,undef,undef,undef,undef,undef,undef,undef,undef,undef,(.slice none 0 0),undef,undef,(.int .i64 (.ofNat 0))]) fun x1 vs2=>
 O4 x1 (M.fail) (fun i39=>bcase (Nat.beq i39 0) (M.pure (.ret (j4 vs2 54))) (bcase (Nat.beq i39 3) (M.fail) (M.fail))) (M.pure (.ret (j4 vs2 10))) O8
theorem c8R (cb:Cb) (N:Nat) (call:o8) (a0:Value):Y9 Tryz.prog R4 cb false N call Tryz.f18 c18 e3h [a0]=b4W cb N call a0:=by kernel_rfl
end Go.Proofs.YtmomonnlmbljoaaGreatDoor
end
