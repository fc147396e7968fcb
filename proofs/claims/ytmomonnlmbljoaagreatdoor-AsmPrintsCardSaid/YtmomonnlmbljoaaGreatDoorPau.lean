import Derived.Test.YtmomonnlmbljoaaGreatDoorPar
section
namespace Go.Proofs.YtmomonnlmbljoaaGreatDoor
open Go.V Go.Proofs
set_option maxRecDepth 100000
set_option linter.unusedVariables false
noncomputable def c93:Code:=a0g Tryz.f93
noncomputable def e2h:Pl:=.d
noncomputable def c2t (cb:Cb) (N:Nat) (call:o8) (a0:Value) (a1:Value):M CR:=
 cb.bc CR (call 126 [a0,a1]) (fun v0=>
 M.pure (.ret v0)) O8
theorem c8Y (cb:Cb) (N:Nat) (call:o8) (a0:Value) (a1:Value):Y9 Tryz.prog R4 cb false N call Tryz.f93 c93 e2h [a0,a1]=c2t cb N call a0 a1:=by kernel_rfl
noncomputable def c94:Code:=a0g Tryz.f94
noncomputable def e2n:Pl:=(.s none .d (.s none .d (.s none (.s none .d (.s none (.l [7, 8, 11, 12, 3, 9, 10, 4] .d) .d)) .d)))
noncomputable def d6f (cb:Cb) (N:Nat) (call:o8) (xs1:List Value) (v4:Value):M R2:=
 cb.bv R2 (bn .add 3 (.tmp 11) (.const (.int .i64 (.ofNat 1))) (j4 xs1 4) (.int .i64 (.ofNat 1))) fun v5=>
 cb.bv R2 (bn .quo 3 (.tmp 9) (.const (.int .i64 (.ofNat 2))) (j4 xs1 7) (.int .i64 (.ofNat 2))) fun v6=>
 M.pure (.normal, [(j4 xs1 7),v4,(j4 xs1 4),v5,v5,(j4 xs1 7),v6,v6])
noncomputable def e0l (cb:Cb) (N:Nat) (call:o8) (xs1:List Value):M R2:=
 cb.bv R2 (bn .gtr 3 (.tmp 7) (.const (.int .i64 (.ofNat 1))) (j4 xs1 7) (.int .i64 (.ofNat 1))) fun v4=>
 K5 v4 (
 d6f cb N call xs1 v4) (
 M.pure (.exit 0, [(j4 xs1 7),v4,(j4 xs1 2),(j4 xs1 3),(j4 xs1 4),(j4 xs1 5),(j4 xs1 6),(j4 xs1 7)]))
noncomputable def d1q (cb:Cb) (N:Nat) (call:o8) (a0:Value):M CR:=
 cb.bc CR (call 91 [a0]) (fun v0=>
 cb.bj CR (cb.lp (e0l cb N call) N [undef,undef,undef,undef,(.int .i64 (.ofNat 0)),undef,undef,v0]) fun x2 vs3=>
 O4 x2 (M.fail) (fun i7=>bcase (Nat.beq i7 0) (M.pure (.ret (j4 vs3 4))) (M.fail)) (M.fail) O8) O8
theorem c9i (cb:Cb) (N:Nat) (call:o8) (a0:Value):Y9 Tryz.prog R4 cb false N call Tryz.f94 c94 e2n [a0]=d1q cb N call a0:=by kernel_rfl
noncomputable def c97:Code:=a0g Tryz.f97
noncomputable def e3s:Pl:=(.s none .d (.s none .d (.s none (.s none .d (.s none (.l [7, 8, 9, 10, 13, 14, 15, 16, 17, 18, 19, 20, 21, 22, 23, 3, 11, 12, 5] .d) .d)) .d)))
noncomputable def c2k (cb:Cb) (N:Nat) (call:o8) (v1:Value) (xs2:List Value) (v0:Value) (v5:Value) (v6:Value) (v7:Value) (v8:Value) (v9:Value) (a0:Value) (v10:Value):M R2:=
 cb.bv R2 (a4X 3 v1 (j4 xs2 18)) fun v11=>
 cb.bv R2 (a2U 3 v11) fun v12=>
 cb.bv R2 (a4B 3 v0 v12) fun v13=>
 M.pure (.ret, [(j4 xs2 18),v1,v5,v6,v1,(j4 xs2 18),v7,v8,v9,a0,v10,v1,(j4 xs2 18),v11,v12,(.bool true),(j4 xs2 16),(j4 xs2 17),(j4 xs2 18)])
noncomputable def c1n (cb:Cb) (N:Nat) (call:o8) (xs2:List Value) (v1:Value) (v5:Value) (v6:Value) (v7:Value) (v8:Value) (v9:Value) (a0:Value) (v10:Value):M R2:=
 cb.bv R2 (bn .add 3 (.tmp 11) (.const (.int .i64 (.ofNat 1))) (j4 xs2 18) (.int .i64 (.ofNat 1))) fun v14=>
 M.pure (.normal, [(j4 xs2 18),v1,v5,v6,v1,(j4 xs2 18),v7,v8,v9,a0,v10,(j4 xs2 11),(j4 xs2 12),(j4 xs2 13),(j4 xs2 14),(j4 xs2 15),(j4 xs2 18),v14,v14])
noncomputable def c2a (cb:Cb) (N:Nat) (call:o8) (v1:Value) (xs2:List Value) (a0:Value) (v0:Value) (v5:Value) (v6:Value):M R2:=
 cb.bv R2 (a4X 3 v1 (j4 xs2 18)) fun v7=>
 cb.bv R2 (X6 0 v7) fun v8=>
 cb.bv R2 (K7 v8) fun v9=>
 cb.bv R2 (bn .eql 22 (.tmp 17) (.tmp 18) v9 a0) fun v10=>
 K5 v10 (
 c2k cb N call v1 xs2 v0 v5 v6 v7 v8 v9 a0 v10) (
 c1n cb N call xs2 v1 v5 v6 v7 v8 v9 a0 v10)
noncomputable def c2i (cb:Cb) (N:Nat) (call:o8) (xs2:List Value) (v1:Value) (v5:Value) (v6:Value):M R2:=
 M.pure (.exit 0, [(j4 xs2 18),v1,v5,v6,(j4 xs2 4),(j4 xs2 5),(j4 xs2 6),(j4 xs2 7),(j4 xs2 8),(j4 xs2 9),(j4 xs2 10),(j4 xs2 11),(j4 xs2 12),(j4 xs2 13),(j4 xs2 14),(j4 xs2 15),(j4 xs2 16),(j4 xs2 17),(j4 xs2 18)])
noncomputable def b6s (cb:Cb) (N:Nat) (call:o8) (v1:Value) (a0:Value) (v0:Value) (xs2:List Value):M R2:=
 cb.bv R2 (a3U v1) fun v5=>
 cb.bv R2 (bn .lss 3 (.tmp 7) (.tmp 9) (j4 xs2 18) v5) fun v6=>
 K5 v6 (
 c2a cb N call v1 xs2 a0 v0 v5 v6) (
 c2i cb N call xs2 v1 v5 v6)
noncomputable def c6J (cb:Cb) (N:Nat) (call:o8) (v1:Value) (a0:Value) (v0:Value):M CR:=
 cb.bj CR (cb.lp (b6s cb N call v1 a0 v0) N [undef,undef,undef,undef,undef,undef,undef,undef,undef,undef,undef,undef,undef,undef,undef,(.bool false),undef,undef,(.int .i64 (.ofNat 0))]) fun x3 vs4=>
 O4 x3 (M.fail) (fun i15=>bcase (Nat.beq i15 0) (cb.bv CR (Y1 [] [] [(.int .i64 (.ofNat 0)),(.string ⟨⟨[]⟩⟩),(.int .i64 (.ofNat 0))]) fun v16=>
 cb.bv CR (a4B 3 v0 v16) fun v17=>
 a4T v0 fun ad19=>cb.bv CR (M.bind (loadN ad19 3) fun q=>M.pure (.agg ⟨q⟩)) fun v18=>
 M.pure (.ret (.tuple ⟨[v18,(.bool false)]⟩))) (M.fail)) (a4T v0 fun ad21=>cb.bv CR (M.bind (loadN ad21 3) fun q=>M.pure (.agg ⟨q⟩)) fun v20=>
 M.pure (.ret (.tuple ⟨[v20,(j4 vs4 15)]⟩))) O8
noncomputable def b8u (cb:Cb) (N:Nat) (call:o8) (a0:Value):M CR:=
 cb.bv CR (b0P [(.int .i64 (.ofNat 0)),(.string ⟨⟨[]⟩⟩),(.int .i64 (.ofNat 0))]) fun v0=>
 cb.bc CR (call 127 []) (fun v1=>
 c6J cb N call v1 a0 v0) O8
theorem c7T (cb:Cb) (N:Nat) (call:o8) (a0:Value):Y9 Tryz.prog R4 cb false N call Tryz.f97 c97 e3s [a0]=b8u cb N call a0:=by kernel_rfl
noncomputable def c98:Code:=a0g Tryz.f98
noncomputable def e1Z:Pl:=.d
noncomputable def d9i (cb:Cb) (N:Nat) (call:o8) (v0:Value):M CR:=
 cb.bv CR (bn .eql 3 (.tmp 4) (.const (.int .i64 (.ofNat 8))) v0 (.int .i64 (.ofNat 8))) fun v3=>
 K5 v3 (
 M.pure (.ret (.int .i64 (.ofNat 3)))) (
 M.pure (.ret (.int .i64 (.ofNat 0))))
noncomputable def d4t (cb:Cb) (N:Nat) (call:o8) (v0:Value):M CR:=
 cb.bv CR (bn .eql 3 (.tmp 4) (.const (.int .i64 (.ofNat 4))) v0 (.int .i64 (.ofNat 4))) fun v2=>
 K5 v2 (
 M.pure (.ret (.int .i64 (.ofNat 2)))) (
 d9i cb N call v0)
noncomputable def d1f (cb:Cb) (N:Nat) (call:o8) (a0:Value):M CR:=
 cb.bc CR (call 128 [a0]) (fun v0=>
 cb.bv CR (bn .eql 3 (.tmp 4) (.const (.int .i64 (.ofNat 2))) v0 (.int .i64 (.ofNat 2))) fun v1=>
 K5 v1 (
 M.pure (.ret (.int .i64 (.ofNat 1)))) (
 d4t cb N call v0)) O8
theorem c8n (cb:Cb) (N:Nat) (call:o8) (a0:Value):Y9 Tryz.prog R4 cb false N call Tryz.f98 c98 e1Z [a0]=d1f cb N call a0:=by kernel_rfl
noncomputable def e2X:Code:=a0g Tryz.f124
noncomputable def e0b:Pl:=.d
noncomputable def c4o (cb:Cb) (N:Nat) (call:o8) (v0:Value) (a0:Value):M CR:=
 cb.bj CR (bcase (Q5 true v0) (cb.bv R2 (bn .leq 22 (.tmp 6) (.const (.int .i64 (.ofNat 62))) a0 (.int .i64 (.ofNat 62))) fun v3=>
 M.pure (.normal, [a0,v3])) (M.pure (.normal, [undef,undef]))) fun x1 vs2=>O4 x1 (cb.bv CR (W9 v0 (j4 vs2 1) (.bool false)) fun v4=>
 cb.bj CR (bcase (Q5 true v4) (cb.bc R2 (call 85 [a0]) (fun v7=>
 M.pure (.normal, [a0,v7])) O8) (M.pure (.normal, [undef,undef]))) fun x5 vs6=>O4 x5 (cb.bv CR (W9 v4 (j4 vs6 1) (.bool false)) fun v8=>
 M.pure (.ret v8)) (fun _=>M.fail) M.fail O8) (fun _=>M.fail) M.fail O8
noncomputable def b3O (cb:Cb) (N:Nat) (call:o8) (a0:Value):M CR:=
 cb.bv CR (bn .geq 22 (.tmp 3) (.const (.int .i64 (.ofNat 40))) a0 (.int .i64 (.ofNat 40))) fun v0=>
 c4o cb N call v0 a0
theorem c6r (cb:Cb) (N:Nat) (call:o8) (a0:Value):Y9 Tryz.prog R4 cb false N call Tryz.f124 e2X e0b [a0]=b3O cb N call a0:=by kernel_rfl
noncomputable def e3T:Code:=a0g Tryz.f127
noncomputable def d5R:Pl:=.d
noncomputable def d0V (cb:Cb) (N:Nat) (call:o8) (v22:Value):M CR:=
 cb.bv CR (a1W 1 3 [(0, 1),(1, 1),(2, 1)] [(.string ⟨⟨[101, 120, 116, 101, 110, 100, 56, 95, 115]⟩⟩),(.string ⟨⟨[101, 120, 116, 101, 110, 100, 49, 54, 95, 115]⟩⟩),(.string ⟨⟨[101, 120, 116, 101, 110, 100, 51, 50, 95, 115]⟩⟩)] [(.string ⟨⟨[]⟩⟩),(.string ⟨⟨[]⟩⟩),(.string ⟨⟨[]⟩⟩)]) fun v23=>
 cb.bc CR (call 174 [(.int .i64 (.ofNat 194)),(.string ⟨⟨[105, 54, 52]⟩⟩),v23]) (fun v24=>
 cb.bv CR (a3S a7F v22 v24) fun v25=>
 cb.bc CR (call 177 []) (fun v26=>
 cb.bv CR (a3S a7F v25 v26) fun v27=>
 M.pure (.ret v27)) O8) O8
noncomputable def d0v (cb:Cb) (N:Nat) (call:o8) (v15:Value) (v16:Value) (v17:Value) (v14:Value):M CR:=
 cb.bv CR (a1W 3 3 [(0, 3),(3, 3),(6, 3)] [v15,v16,v17] [(.int .i64 (.ofNat 0)),(.string ⟨⟨[]⟩⟩),(.int .i64 (.ofNat 0)),(.int .i64 (.ofNat 0)),(.string ⟨⟨[]⟩⟩),(.int .i64 (.ofNat 0)),(.int .i64 (.ofNat 0)),(.string ⟨⟨[]⟩⟩),(.int .i64 (.ofNat 0))]) fun v18=>
 cb.bv CR (a3S a7F v14 v18) fun v19=>
 cb.bv CR (a1W 1 2 [(0, 1),(1, 1)] [(.string ⟨⟨[101, 120, 116, 101, 110, 100, 56, 95, 115]⟩⟩),(.string ⟨⟨[101, 120, 116, 101, 110, 100, 49, 54, 95, 115]⟩⟩)] [(.string ⟨⟨[]⟩⟩),(.string ⟨⟨[]⟩⟩)]) fun v20=>
 cb.bc CR (call 174 [(.int .i64 (.ofNat 192)),(.string ⟨⟨[105, 51, 50]⟩⟩),v20]) (fun v21=>
 cb.bv CR (a3S a7F v19 v21) fun v22=>
 d0V cb N call v22) O8
noncomputable def d0w (cb:Cb) (N:Nat) (call:o8) (v15:Value) (v14:Value):M CR:=
 cb.bv CR (Y1 [(0, 1),(1, 1),(2, 1)] [(.int .i64 (.ofNat 172)),(.string ⟨⟨[105, 54, 52, 46, 101, 120, 116, 101, 110, 100, 95, 105, 51, 50, 95, 115]⟩⟩),(.int .i64 (.ofNat 0))] [(.int .i64 (.ofNat 0)),(.string ⟨⟨[]⟩⟩),(.int .i64 (.ofNat 0))]) fun v16=>
 cb.bv CR (Y1 [(0, 1),(1, 1),(2, 1)] [(.int .i64 (.ofNat 173)),(.string ⟨⟨[105, 54, 52, 46, 101, 120, 116, 101, 110, 100, 95, 105, 51, 50, 95, 117]⟩⟩),(.int .i64 (.ofNat 0))] [(.int .i64 (.ofNat 0)),(.string ⟨⟨[]⟩⟩),(.int .i64 (.ofNat 0))]) fun v17=>
 d0v cb N call v15 v16 v17 v14
noncomputable def d1r (cb:Cb) (N:Nat) (call:o8) (v9:Value) (v8:Value):M CR:=
 cb.bc CR (call 174 [(.int .i64 (.ofNat 103)),(.string ⟨⟨[105, 51, 50]⟩⟩),v9]) (fun v10=>
 cb.bv CR (a3S a7F v8 v10) fun v11=>
 cb.bc CR (call 176 []) (fun v12=>
 cb.bc CR (call 174 [(.int .i64 (.ofNat 121)),(.string ⟨⟨[105, 54, 52]⟩⟩),v12]) (fun v13=>
 cb.bv CR (a3S a7F v11 v13) fun v14=>
 cb.bv CR (Y1 [(0, 1),(1, 1),(2, 1)] [(.int .i64 (.ofNat 167)),(.string ⟨⟨[105, 51, 50, 46, 119, 114, 97, 112, 95, 105, 54, 52]⟩⟩),(.int .i64 (.ofNat 0))] [(.int .i64 (.ofNat 0)),(.string ⟨⟨[]⟩⟩),(.int .i64 (.ofNat 0))]) fun v15=>
 d0w cb N call v15 v14) O8) O8) O8
noncomputable def c7b (cb:Cb) (N:Nat) (call:o8):M CR:=
 cb.bc CR (call 172 []) (fun v0=>
 cb.bc CR (call 173 []) (fun v1=>
 cb.bv CR (a3S a7F v0 v1) fun v2=>
 cb.bc CR (call 175 []) (fun v3=>
 cb.bc CR (call 174 [(.int .i64 (.ofNat 69)),(.string ⟨⟨[105, 51, 50]⟩⟩),v3]) (fun v4=>
 cb.bv CR (a3S a7F v2 v4) fun v5=>
 cb.bc CR (call 175 []) (fun v6=>
 cb.bc CR (call 174 [(.int .i64 (.ofNat 80)),(.string ⟨⟨[105, 54, 52]⟩⟩),v6]) (fun v7=>
 cb.bv CR (a3S a7F v5 v7) fun v8=>
 cb.bc CR (call 176 []) (fun v9=>
 d1r cb N call v9 v8) O8) O8) O8) O8) O8) O8) O8
theorem c4V (cb:Cb) (N:Nat) (call:o8):Y9 Tryz.prog R4 cb false N call Tryz.f127 e3T d5R []=c7b cb N call:=by kernel_rfl
noncomputable def e1W:Code:=a0g Tryz.f128
noncomputable def d4G:Pl:=.d
noncomputable def d0X (cb:Cb) (N:Nat) (call:o8) (v0:Value):M CR:=
 cb.bv CR (a8X v0 (some (.int .i64 (.ofNat 1))) (some (.int .i64 (.ofNat 3)))) fun v18=>
 cb.bv CR (bn .eql 9 (.tmp 32) (.const (.string ⟨⟨[51, 50]⟩⟩)) v18 (.string ⟨⟨[51, 50]⟩⟩)) fun v19=>
 K5 v19 (
 M.pure (.ret (.int .i64 (.ofNat 4)))) (
 M.pure (.ret (.int .i64 (.ofNat 8))))
noncomputable def d2i (cb:Cb) (N:Nat) (call:o8) (v0:Value):M CR:=
 cb.bc CR (call 178 [v0,(.string ⟨⟨[100, 51, 50]⟩⟩)]) (fun v13=>
 cb.bj CR (bcase (Q5 false v13) (cb.bc R2 (call 178 [v0,(.string ⟨⟨[101, 51, 50]⟩⟩)]) (fun v16=>
 M.pure (.normal, [v0,v16])) O8) (M.pure (.normal, [undef,undef]))) fun x14 vs15=>O4 x14 (cb.bv CR (W9 v13 (.bool true) (j4 vs15 1)) fun v17=>
 K5 v17 (
 M.pure (.ret (.int .i64 (.ofNat 4)))) (
 d0X cb N call v0)) (fun _=>M.fail) M.fail O8) O8
noncomputable def d1P (cb:Cb) (N:Nat) (call:o8) (v0:Value):M CR:=
 cb.bc CR (call 178 [v0,(.string ⟨⟨[100, 49, 54]⟩⟩)]) (fun v8=>
 cb.bj CR (bcase (Q5 false v8) (cb.bc R2 (call 178 [v0,(.string ⟨⟨[101, 49, 54]⟩⟩)]) (fun v11=>
 M.pure (.normal, [v0,v11])) O8) (M.pure (.normal, [undef,undef]))) fun x9 vs10=>O4 x9 (cb.bv CR (W9 v8 (.bool true) (j4 vs10 1)) fun v12=>
 K5 v12 (
 M.pure (.ret (.int .i64 (.ofNat 2)))) (
 d2i cb N call v0)) (fun _=>M.fail) M.fail O8) O8
noncomputable def d1a (cb:Cb) (N:Nat) (call:o8) (v0:Value):M CR:=
 cb.bc CR (call 178 [v0,(.string ⟨⟨[100, 56]⟩⟩)]) (fun v3=>
 cb.bj CR (bcase (Q5 false v3) (cb.bc R2 (call 178 [v0,(.string ⟨⟨[101, 56]⟩⟩)]) (fun v6=>
 M.pure (.normal, [v0,v6])) O8) (M.pure (.normal, [undef,undef]))) fun x4 vs5=>O4 x4 (cb.bv CR (W9 v3 (.bool true) (j4 vs5 1)) fun v7=>
 K5 v7 (
 M.pure (.ret (.int .i64 (.ofNat 1)))) (
 d1P cb N call v0)) (fun _=>M.fail) M.fail O8) O8
noncomputable def c6Y (cb:Cb) (N:Nat) (call:o8) (a0:Value):M CR:=
 cb.bc CR (call 45 [a0]) (fun v0=>
 cb.bc CR (call 46 [a0]) (fun v1=>
 cb.bv CR (bn .neq 3 (.tmp 7) (.const (.int .i64 (.ofNat 17))) v1 (.int .i64 (.ofNat 17))) fun v2=>
 K5 v2 (
 M.pure (.ret (.int .i64 (.ofNat 0)))) (
 d1a cb N call v0)) O8) O8
theorem c5x (cb:Cb) (N:Nat) (call:o8) (a0:Value):Y9 Tryz.prog R4 cb false N call Tryz.f128 e1W d4G [a0]=c6Y cb N call a0:=by kernel_rfl
noncomputable def e3H:Code:=a0g Tryz.f172
noncomputable def e0t:Pl:=.d
noncomputable def c9Y (cb:Cb) (N:Nat) (call:o8) (v0:Value) (v1:Value) (v2:Value) (v3:Value) (v4:Value) (v5:Value) (v6:Value) (v7:Value) (v8:Value) (v9:Value) (v10:Value) (v11:Value) (v12:Value) (v13:Value) (v14:Value) (v15:Value) (v16:Value) (v17:Value) (v18:Value) (v19:Value) (v20:Value) (v21:Value) (v22:Value):M CR:=
 cb.bv CR (a1W 3 23 [(0, 3),(3, 3),(6, 3),(9, 3),(12, 3),(15, 3),(18, 3),(21, 3),(24, 3),(27, 3),(30, 3),(33, 3),(36, 3),(39, 3),(42, 3),(45, 3),(48, 3),(51, 3),(54, 3),(57, 3),(60, 3),(63, 3),(66, 3)] [v0,v1,v2,v3,v4,v5,v6,v7,v8,v9,v10,v11,v12,v13,v14,v15,v16,v17,v18,v19,v20,v21,v22] [(.int .i64 (.ofNat 0)),(.string ⟨⟨[]⟩⟩),(.int .i64 (.ofNat 0)),(.int .i64 (.ofNat 0)),(.string ⟨⟨[]⟩⟩),(.int .i64 (.ofNat 0)),(.int .i64 (.ofNat 0)),(.string ⟨⟨[]⟩⟩),(.int .i64 (.ofNat 0)),(.int .i64 (.ofNat 0)),(.string ⟨⟨[]⟩⟩),(.int .i64 (.ofNat 0)),(.int .i64 (.ofNat 0)),(.string ⟨⟨[]⟩⟩),(.int .i64 (.ofNat 0)),(.int .i64 (.ofNat 0)),(.string ⟨⟨[]⟩⟩),(.int .i64 (.ofNat 0)),(.int .i64 (.ofNat 0)),(.string ⟨⟨[]⟩⟩),(.int .i64 (.ofNat 0)),(.int .i64 (.ofNat 0)),(.string ⟨⟨[]⟩⟩),(.int .i64 (.ofNat 0)),(.int .i64 (.ofNat 0)),(.string ⟨⟨[]⟩⟩),(.int .i64 (.ofNat 0)),(.int .i64 (.ofNat 0)),(.string ⟨⟨[]⟩⟩),(.int .i64 (.ofNat 0)),(.int .i64 (.ofNat 0)),(.string ⟨⟨[]⟩⟩),(.int .i64 (.ofNat 0)),(.int .i64 (.ofNat 0)),(.string ⟨⟨[]⟩⟩),(.int .i64 (.ofNat 0)),(.int .i64 (.ofNat 0)),(.string ⟨⟨[]⟩⟩),(.int .i64 (.ofNat 0)),(.int .i64 (.ofNat 0)),(.string ⟨⟨[]⟩⟩),(.int .i64 (.ofNat 0)),(.int .i64 (.ofNat 0)),(.string ⟨⟨[]⟩⟩),(.int .i64 (.ofNat 0)),(.int .i64 (.ofNat 0)),(.string ⟨⟨[]⟩⟩),(.int .i64 (.ofNat 0)),(.int .i64 (.ofNat 0)),(.string ⟨⟨[]⟩⟩),(.int .i64 (.ofNat 0)),(.int .i64 (.ofNat 0)),(.string ⟨⟨[]⟩⟩),(.int .i64 (.ofNat 0)),(.int .i64 (.ofNat 0)),(.string ⟨⟨[]⟩⟩),(.int .i64 (.ofNat 0)),(.int .i64 (.ofNat 0)),(.string ⟨⟨[]⟩⟩),(.int .i64 (.ofNat 0)),(.int .i64 (.ofNat 0)),(.string ⟨⟨[]⟩⟩),(.int .i64 (.ofNat 0)),(.int .i64 (.ofNat 0)),(.string ⟨⟨[]⟩⟩),(.int .i64 (.ofNat 0)),(.int .i64 (.ofNat 0)),(.string ⟨⟨[]⟩⟩),(.int .i64 (.ofNat 0))]) fun v23=>
 M.pure (.ret v23)
noncomputable def d2g (cb:Cb) (N:Nat) (call:o8) (v0:Value) (v1:Value) (v2:Value) (v3:Value) (v4:Value) (v5:Value) (v6:Value) (v7:Value) (v8:Value) (v9:Value) (v10:Value) (v11:Value) (v12:Value) (v13:Value) (v14:Value) (v15:Value) (v16:Value) (v17:Value) (v18:Value) (v19:Value) (v20:Value):M CR:=
 cb.bv CR (Y1 [(0, 1),(1, 1),(2, 1)] [(.int .i64 (.ofNat 37)),(.string ⟨⟨[116, 97, 98, 108, 101, 46, 103, 101, 116]⟩⟩),(.int .i64 (.ofNat 9))] [(.int .i64 (.ofNat 0)),(.string ⟨⟨[]⟩⟩),(.int .i64 (.ofNat 0))]) fun v21=>
 cb.bv CR (Y1 [(0, 1),(1, 1),(2, 1)] [(.int .i64 (.ofNat 38)),(.string ⟨⟨[116, 97, 98, 108, 101, 46, 115, 101, 116]⟩⟩),(.int .i64 (.ofNat 9))] [(.int .i64 (.ofNat 0)),(.string ⟨⟨[]⟩⟩),(.int .i64 (.ofNat 0))]) fun v22=>
 c9Y cb N call v0 v1 v2 v3 v4 v5 v6 v7 v8 v9 v10 v11 v12 v13 v14 v15 v16 v17 v18 v19 v20 v21 v22
noncomputable def d2j (cb:Cb) (N:Nat) (call:o8) (v0:Value) (v1:Value) (v2:Value) (v3:Value) (v4:Value) (v5:Value) (v6:Value) (v7:Value) (v8:Value) (v9:Value) (v10:Value) (v11:Value) (v12:Value) (v13:Value) (v14:Value) (v15:Value) (v16:Value) (v17:Value) (v18:Value):M CR:=
 cb.bv CR (Y1 [(0, 1),(1, 1),(2, 1)] [(.int .i64 (.ofNat 35)),(.string ⟨⟨[103, 108, 111, 98, 97, 108, 46, 103, 101, 116]⟩⟩),(.int .i64 (.ofNat 8))] [(.int .i64 (.ofNat 0)),(.string ⟨⟨[]⟩⟩),(.int .i64 (.ofNat 0))]) fun v19=>
 cb.bv CR (Y1 [(0, 1),(1, 1),(2, 1)] [(.int .i64 (.ofNat 36)),(.string ⟨⟨[103, 108, 111, 98, 97, 108, 46, 115, 101, 116]⟩⟩),(.int .i64 (.ofNat 8))] [(.int .i64 (.ofNat 0)),(.string ⟨⟨[]⟩⟩),(.int .i64 (.ofNat 0))]) fun v20=>
 d2g cb N call v0 v1 v2 v3 v4 v5 v6 v7 v8 v9 v10 v11 v12 v13 v14 v15 v16 v17 v18 v19 v20
noncomputable def c9X (cb:Cb) (N:Nat) (call:o8) (v0:Value) (v1:Value) (v2:Value) (v3:Value) (v4:Value) (v5:Value) (v6:Value) (v7:Value) (v8:Value) (v9:Value) (v10:Value) (v11:Value) (v12:Value) (v13:Value) (v14:Value) (v15:Value) (v16:Value):M CR:=
 cb.bv CR (Y1 [(0, 1),(1, 1),(2, 1)] [(.int .i64 (.ofNat 33)),(.string ⟨⟨[108, 111, 99, 97, 108, 46, 115, 101, 116]⟩⟩),(.int .i64 (.ofNat 7))] [(.int .i64 (.ofNat 0)),(.string ⟨⟨[]⟩⟩),(.int .i64 (.ofNat 0))]) fun v17=>
 cb.bv CR (Y1 [(0, 1),(1, 1),(2, 1)] [(.int .i64 (.ofNat 34)),(.string ⟨⟨[108, 111, 99, 97, 108, 46, 116, 101, 101]⟩⟩),(.int .i64 (.ofNat 7))] [(.int .i64 (.ofNat 0)),(.string ⟨⟨[]⟩⟩),(.int .i64 (.ofNat 0))]) fun v18=>
 d2j cb N call v0 v1 v2 v3 v4 v5 v6 v7 v8 v9 v10 v11 v12 v13 v14 v15 v16 v17 v18
noncomputable def c9F (cb:Cb) (N:Nat) (call:o8) (v0:Value) (v1:Value) (v2:Value) (v3:Value) (v4:Value) (v5:Value) (v6:Value) (v7:Value) (v8:Value) (v9:Value) (v10:Value) (v11:Value) (v12:Value) (v13:Value) (v14:Value):M CR:=
 cb.bv CR (Y1 [(0, 1),(1, 1),(2, 1)] [(.int .i64 (.ofNat 28)),(.string ⟨⟨[115, 101, 108, 101, 99, 116]⟩⟩),(.int .i64 (.ofNat 6))] [(.int .i64 (.ofNat 0)),(.string ⟨⟨[]⟩⟩),(.int .i64 (.ofNat 0))]) fun v15=>
 cb.bv CR (Y1 [(0, 1),(1, 1),(2, 1)] [(.int .i64 (.ofNat 32)),(.string ⟨⟨[108, 111, 99, 97, 108, 46, 103, 101, 116]⟩⟩),(.int .i64 (.ofNat 7))] [(.int .i64 (.ofNat 0)),(.string ⟨⟨[]⟩⟩),(.int .i64 (.ofNat 0))]) fun v16=>
 c9X cb N call v0 v1 v2 v3 v4 v5 v6 v7 v8 v9 v10 v11 v12 v13 v14 v15 v16
noncomputable def d2q (cb:Cb) (N:Nat) (call:o8) (v0:Value) (v1:Value) (v2:Value) (v3:Value) (v4:Value) (v5:Value) (v6:Value) (v7:Value) (v8:Value) (v9:Value) (v10:Value) (v11:Value):M CR:=
 cb.bv CR (Y1 [(0, 1),(1, 1),(2, 1)] [(.int .i64 (.ofNat 17)),(.string ⟨⟨[99, 97, 108, 108, 95, 105, 110, 100, 105, 114, 101, 99, 116]⟩⟩),(.int .i64 (.ofNat 5))] [(.int .i64 (.ofNat 0)),(.string ⟨⟨[]⟩⟩),(.int .i64 (.ofNat 0))]) fun v12=>
 cb.bv CR (Y1 [(0, 1),(1, 1),(2, 1)] [(.int .i64 (.ofNat 26)),(.string ⟨⟨[100, 114, 111, 112]⟩⟩),(.int .i64 (.ofNat 0))] [(.int .i64 (.ofNat 0)),(.string ⟨⟨[]⟩⟩),(.int .i64 (.ofNat 0))]) fun v13=>
 cb.bv CR (Y1 [(0, 1),(1, 1),(2, 1)] [(.int .i64 (.ofNat 27)),(.string ⟨⟨[115, 101, 108, 101, 99, 116]⟩⟩),(.int .i64 (.ofNat 0))] [(.int .i64 (.ofNat 0)),(.string ⟨⟨[]⟩⟩),(.int .i64 (.ofNat 0))]) fun v14=>
 c9F cb N call v0 v1 v2 v3 v4 v5 v6 v7 v8 v9 v10 v11 v12 v13 v14
noncomputable def d2A (cb:Cb) (N:Nat) (call:o8) (v0:Value) (v1:Value) (v2:Value) (v3:Value) (v4:Value) (v5:Value) (v6:Value) (v7:Value) (v8:Value):M CR:=
 cb.bv CR (Y1 [(0, 1),(1, 1),(2, 1)] [(.int .i64 (.ofNat 14)),(.string ⟨⟨[98, 114, 95, 116, 97, 98, 108, 101]⟩⟩),(.int .i64 (.ofNat 3))] [(.int .i64 (.ofNat 0)),(.string ⟨⟨[]⟩⟩),(.int .i64 (.ofNat 0))]) fun v9=>
 cb.bv CR (Y1 [(0, 1),(1, 1),(2, 1)] [(.int .i64 (.ofNat 15)),(.string ⟨⟨[114, 101, 116, 117, 114, 110]⟩⟩),(.int .i64 (.ofNat 0))] [(.int .i64 (.ofNat 0)),(.string ⟨⟨[]⟩⟩),(.int .i64 (.ofNat 0))]) fun v10=>
 cb.bv CR (Y1 [(0, 1),(1, 1),(2, 1)] [(.int .i64 (.ofNat 16)),(.string ⟨⟨[99, 97, 108, 108]⟩⟩),(.int .i64 (.ofNat 4))] [(.int .i64 (.ofNat 0)),(.string ⟨⟨[]⟩⟩),(.int .i64 (.ofNat 0))]) fun v11=>
 d2q cb N call v0 v1 v2 v3 v4 v5 v6 v7 v8 v9 v10 v11
noncomputable def d2t (cb:Cb) (N:Nat) (call:o8) (v0:Value) (v1:Value) (v2:Value) (v3:Value) (v4:Value) (v5:Value):M CR:=
 cb.bv CR (Y1 [(0, 1),(1, 1),(2, 1)] [(.int .i64 (.ofNat 11)),(.string ⟨⟨[101, 110, 100]⟩⟩),(.int .i64 (.ofNat 0))] [(.int .i64 (.ofNat 0)),(.string ⟨⟨[]⟩⟩),(.int .i64 (.ofNat 0))]) fun v6=>
 cb.bv CR (Y1 [(0, 1),(1, 1),(2, 1)] [(.int .i64 (.ofNat 12)),(.string ⟨⟨[98, 114]⟩⟩),(.int .i64 (.ofNat 2))] [(.int .i64 (.ofNat 0)),(.string ⟨⟨[]⟩⟩),(.int .i64 (.ofNat 0))]) fun v7=>
 cb.bv CR (Y1 [(0, 1),(1, 1),(2, 1)] [(.int .i64 (.ofNat 13)),(.string ⟨⟨[98, 114, 95, 105, 102]⟩⟩),(.int .i64 (.ofNat 2))] [(.int .i64 (.ofNat 0)),(.string ⟨⟨[]⟩⟩),(.int .i64 (.ofNat 0))]) fun v8=>
 d2A cb N call v0 v1 v2 v3 v4 v5 v6 v7 v8
noncomputable def d2d (cb:Cb) (N:Nat) (call:o8) (v0:Value) (v1:Value) (v2:Value):M CR:=
 cb.bv CR (Y1 [(0, 1),(1, 1),(2, 1)] [(.int .i64 (.ofNat 3)),(.string ⟨⟨[108, 111, 111, 112]⟩⟩),(.int .i64 (.ofNat 1))] [(.int .i64 (.ofNat 0)),(.string ⟨⟨[]⟩⟩),(.int .i64 (.ofNat 0))]) fun v3=>
 cb.bv CR (Y1 [(0, 1),(1, 1),(2, 1)] [(.int .i64 (.ofNat 4)),(.string ⟨⟨[105, 102]⟩⟩),(.int .i64 (.ofNat 1))] [(.int .i64 (.ofNat 0)),(.string ⟨⟨[]⟩⟩),(.int .i64 (.ofNat 0))]) fun v4=>
 cb.bv CR (Y1 [(0, 1),(1, 1),(2, 1)] [(.int .i64 (.ofNat 5)),(.string ⟨⟨[101, 108, 115, 101]⟩⟩),(.int .i64 (.ofNat 0))] [(.int .i64 (.ofNat 0)),(.string ⟨⟨[]⟩⟩),(.int .i64 (.ofNat 0))]) fun v5=>
 d2t cb N call v0 v1 v2 v3 v4 v5
noncomputable def c6P (cb:Cb) (N:Nat) (call:o8):M CR:=
 cb.bv CR (Y1 [(0, 1),(1, 1),(2, 1)] [(.int .i64 (.ofNat 0)),(.string ⟨⟨[117, 110, 114, 101, 97, 99, 104, 97, 98, 108, 101]⟩⟩),(.int .i64 (.ofNat 0))] [(.int .i64 (.ofNat 0)),(.string ⟨⟨[]⟩⟩),(.int .i64 (.ofNat 0))]) fun v0=>
 cb.bv CR (Y1 [(0, 1),(1, 1),(2, 1)] [(.int .i64 (.ofNat 1)),(.string ⟨⟨[110, 111, 112]⟩⟩),(.int .i64 (.ofNat 0))] [(.int .i64 (.ofNat 0)),(.string ⟨⟨[]⟩⟩),(.int .i64 (.ofNat 0))]) fun v1=>
 cb.bv CR (Y1 [(0, 1),(1, 1),(2, 1)] [(.int .i64 (.ofNat 2)),(.string ⟨⟨[98, 108, 111, 99, 107]⟩⟩),(.int .i64 (.ofNat 1))] [(.int .i64 (.ofNat 0)),(.string ⟨⟨[]⟩⟩),(.int .i64 (.ofNat 0))]) fun v2=>
 d2d cb N call v0 v1 v2
theorem c6d (cb:Cb) (N:Nat) (call:o8):Y9 Tryz.prog R4 cb false N call Tryz.f172 e3H e0t []=c6P cb N call:=by kernel_rfl
noncomputable def e3K:Code:=a0g Tryz.f173
noncomputable def d9y:Pl:=.d
noncomputable def d0q (cb:Cb) (N:Nat) (call:o8) (v0:Value) (v1:Value) (v2:Value) (v3:Value) (v4:Value) (v5:Value) (v6:Value) (v7:Value) (v8:Value) (v9:Value) (v10:Value) (v11:Value) (v12:Value) (v13:Value) (v14:Value) (v15:Value) (v16:Value) (v17:Value) (v18:Value) (v19:Value) (v20:Value) (v21:Value) (v22:Value):M CR:=
 cb.bv CR (a1W 3 23 [(0, 3),(3, 3),(6, 3),(9, 3),(12, 3),(15, 3),(18, 3),(21, 3),(24, 3),(27, 3),(30, 3),(33, 3),(36, 3),(39, 3),(42, 3),(45, 3),(48, 3),(51, 3),(54, 3),(57, 3),(60, 3),(63, 3),(66, 3)] [v0,v1,v2,v3,v4,v5,v6,v7,v8,v9,v10,v11,v12,v13,v14,v15,v16,v17,v18,v19,v20,v21,v22] [(.int .i64 (.ofNat 0)),(.string ⟨⟨[]⟩⟩),(.int .i64 (.ofNat 0)),(.int .i64 (.ofNat 0)),(.string ⟨⟨[]⟩⟩),(.int .i64 (.ofNat 0)),(.int .i64 (.ofNat 0)),(.string ⟨⟨[]⟩⟩),(.int .i64 (.ofNat 0)),(.int .i64 (.ofNat 0)),(.string ⟨⟨[]⟩⟩),(.int .i64 (.ofNat 0)),(.int .i64 (.ofNat 0)),(.string ⟨⟨[]⟩⟩),(.int .i64 (.ofNat 0)),(.int .i64 (.ofNat 0)),(.string ⟨⟨[]⟩⟩),(.int .i64 (.ofNat 0)),(.int .i64 (.ofNat 0)),(.string ⟨⟨[]⟩⟩),(.int .i64 (.ofNat 0)),(.int .i64 (.ofNat 0)),(.string ⟨⟨[]⟩⟩),(.int .i64 (.ofNat 0)),(.int .i64 (.ofNat 0)),(.string ⟨⟨[]⟩⟩),(.int .i64 (.ofNat 0)),(.int .i64 (.ofNat 0)),(.string ⟨⟨[]⟩⟩),(.int .i64 (.ofNat 0)),(.int .i64 (.ofNat 0)),(.string ⟨⟨[]⟩⟩),(.int .i64 (.ofNat 0)),(.int .i64 (.ofNat 0)),(.string ⟨⟨[]⟩⟩),(.int .i64 (.ofNat 0)),(.int .i64 (.ofNat 0)),(.string ⟨⟨[]⟩⟩),(.int .i64 (.ofNat 0)),(.int .i64 (.ofNat 0)),(.string ⟨⟨[]⟩⟩),(.int .i64 (.ofNat 0)),(.int .i64 (.ofNat 0)),(.string ⟨⟨[]⟩⟩),(.int .i64 (.ofNat 0)),(.int .i64 (.ofNat 0)),(.string ⟨⟨[]⟩⟩),(.int .i64 (.ofNat 0)),(.int .i64 (.ofNat 0)),(.string ⟨⟨[]⟩⟩),(.int .i64 (.ofNat 0)),(.int .i64 (.ofNat 0)),(.string ⟨⟨[]⟩⟩),(.int .i64 (.ofNat 0)),(.int .i64 (.ofNat 0)),(.string ⟨⟨[]⟩⟩),(.int .i64 (.ofNat 0)),(.int .i64 (.ofNat 0)),(.string ⟨⟨[]⟩⟩),(.int .i64 (.ofNat 0)),(.int .i64 (.ofNat 0)),(.string ⟨⟨[]⟩⟩),(.int .i64 (.ofNat 0)),(.int .i64 (.ofNat 0)),(.string ⟨⟨[]⟩⟩),(.int .i64 (.ofNat 0)),(.int .i64 (.ofNat 0)),(.string ⟨⟨[]⟩⟩),(.int .i64 (.ofNat 0))]) fun v23=>
 M.pure (.ret v23)
noncomputable def d1m (cb:Cb) (N:Nat) (call:o8) (v0:Value) (v1:Value) (v2:Value) (v3:Value) (v4:Value) (v5:Value) (v6:Value) (v7:Value) (v8:Value) (v9:Value) (v10:Value) (v11:Value) (v12:Value) (v13:Value) (v14:Value) (v15:Value) (v16:Value) (v17:Value) (v18:Value) (v19:Value) (v20:Value):M CR:=
 cb.bv CR (Y1 [(0, 1),(1, 1),(2, 1)] [(.int .i64 (.ofNat 65)),(.string ⟨⟨[105, 51, 50, 46, 99, 111, 110, 115, 116]⟩⟩),(.int .i64 (.ofNat 18))] [(.int .i64 (.ofNat 0)),(.string ⟨⟨[]⟩⟩),(.int .i64 (.ofNat 0))]) fun v21=>
 cb.bv CR (Y1 [(0, 1),(1, 1),(2, 1)] [(.int .i64 (.ofNat 66)),(.string ⟨⟨[105, 54, 52, 46, 99, 111, 110, 115, 116]⟩⟩),(.int .i64 (.ofNat 19))] [(.int .i64 (.ofNat 0)),(.string ⟨⟨[]⟩⟩),(.int .i64 (.ofNat 0))]) fun v22=>
 d0q cb N call v0 v1 v2 v3 v4 v5 v6 v7 v8 v9 v10 v11 v12 v13 v14 v15 v16 v17 v18 v19 v20 v21 v22
noncomputable def c9Z (cb:Cb) (N:Nat) (call:o8) (v0:Value) (v1:Value) (v2:Value) (v3:Value) (v4:Value) (v5:Value) (v6:Value) (v7:Value) (v8:Value) (v9:Value) (v10:Value) (v11:Value) (v12:Value) (v13:Value) (v14:Value) (v15:Value) (v16:Value) (v17:Value) (v18:Value):M CR:=
 cb.bv CR (Y1 [(0, 1),(1, 1),(2, 1)] [(.int .i64 (.ofNat 63)),(.string ⟨⟨[109, 101, 109, 111, 114, 121, 46, 115, 105, 122, 101]⟩⟩),(.int .i64 (.ofNat 13))] [(.int .i64 (.ofNat 0)),(.string ⟨⟨[]⟩⟩),(.int .i64 (.ofNat 0))]) fun v19=>
 cb.bv CR (Y1 [(0, 1),(1, 1),(2, 1)] [(.int .i64 (.ofNat 64)),(.string ⟨⟨[109, 101, 109, 111, 114, 121, 46, 103, 114, 111, 119]⟩⟩),(.int .i64 (.ofNat 13))] [(.int .i64 (.ofNat 0)),(.string ⟨⟨[]⟩⟩),(.int .i64 (.ofNat 0))]) fun v20=>
 d1m cb N call v0 v1 v2 v3 v4 v5 v6 v7 v8 v9 v10 v11 v12 v13 v14 v15 v16 v17 v18 v19 v20
noncomputable def d0H (cb:Cb) (N:Nat) (call:o8) (v0:Value) (v1:Value) (v2:Value) (v3:Value) (v4:Value) (v5:Value) (v6:Value) (v7:Value) (v8:Value) (v9:Value) (v10:Value) (v11:Value) (v12:Value) (v13:Value) (v14:Value) (v15:Value) (v16:Value):M CR:=
 cb.bv CR (Y1 [(0, 1),(1, 1),(2, 1)] [(.int .i64 (.ofNat 61)),(.string ⟨⟨[105, 54, 52, 46, 115, 116, 111, 114, 101, 49, 54]⟩⟩),(.int .i64 (.ofNat 17))] [(.int .i64 (.ofNat 0)),(.string ⟨⟨[]⟩⟩),(.int .i64 (.ofNat 0))]) fun v17=>
 cb.bv CR (Y1 [(0, 1),(1, 1),(2, 1)] [(.int .i64 (.ofNat 62)),(.string ⟨⟨[105, 54, 52, 46, 115, 116, 111, 114, 101, 51, 50]⟩⟩),(.int .i64 (.ofNat 17))] [(.int .i64 (.ofNat 0)),(.string ⟨⟨[]⟩⟩),(.int .i64 (.ofNat 0))]) fun v18=>
 c9Z cb N call v0 v1 v2 v3 v4 v5 v6 v7 v8 v9 v10 v11 v12 v13 v14 v15 v16 v17 v18
noncomputable def d0f (cb:Cb) (N:Nat) (call:o8) (v0:Value) (v1:Value) (v2:Value) (v3:Value) (v4:Value) (v5:Value) (v6:Value) (v7:Value) (v8:Value) (v9:Value) (v10:Value) (v11:Value) (v12:Value) (v13:Value) (v14:Value):M CR:=
 cb.bv CR (Y1 [(0, 1),(1, 1),(2, 1)] [(.int .i64 (.ofNat 59)),(.string ⟨⟨[105, 51, 50, 46, 115, 116, 111, 114, 101, 49, 54]⟩⟩),(.int .i64 (.ofNat 17))] [(.int .i64 (.ofNat 0)),(.string ⟨⟨[]⟩⟩),(.int .i64 (.ofNat 0))]) fun v15=>
 cb.bv CR (Y1 [(0, 1),(1, 1),(2, 1)] [(.int .i64 (.ofNat 60)),(.string ⟨⟨[105, 54, 52, 46, 115, 116, 111, 114, 101, 56]⟩⟩),(.int .i64 (.ofNat 17))] [(.int .i64 (.ofNat 0)),(.string ⟨⟨[]⟩⟩),(.int .i64 (.ofNat 0))]) fun v16=>
 d0H cb N call v0 v1 v2 v3 v4 v5 v6 v7 v8 v9 v10 v11 v12 v13 v14 v15 v16
noncomputable def d0U (cb:Cb) (N:Nat) (call:o8) (v0:Value) (v1:Value) (v2:Value) (v3:Value) (v4:Value) (v5:Value) (v6:Value) (v7:Value) (v8:Value) (v9:Value) (v10:Value) (v11:Value) (v12:Value):M CR:=
 cb.bv CR (Y1 [(0, 1),(1, 1),(2, 1)] [(.int .i64 (.ofNat 55)),(.string ⟨⟨[105, 54, 52, 46, 115, 116, 111, 114, 101]⟩⟩),(.int .i64 (.ofNat 17))] [(.int .i64 (.ofNat 0)),(.string ⟨⟨[]⟩⟩),(.int .i64 (.ofNat 0))]) fun v13=>
 cb.bv CR (Y1 [(0, 1),(1, 1),(2, 1)] [(.int .i64 (.ofNat 58)),(.string ⟨⟨[105, 51, 50, 46, 115, 116, 111, 114, 101, 56]⟩⟩),(.int .i64 (.ofNat 17))] [(.int .i64 (.ofNat 0)),(.string ⟨⟨[]⟩⟩),(.int .i64 (.ofNat 0))]) fun v14=>
 d0f cb N call v0 v1 v2 v3 v4 v5 v6 v7 v8 v9 v10 v11 v12 v13 v14
noncomputable def c9V (cb:Cb) (N:Nat) (call:o8) (v0:Value) (v1:Value) (v2:Value) (v3:Value) (v4:Value) (v5:Value) (v6:Value) (v7:Value) (v8:Value) (v9:Value) (v10:Value):M CR:=
 cb.bv CR (Y1 [(0, 1),(1, 1),(2, 1)] [(.int .i64 (.ofNat 53)),(.string ⟨⟨[105, 54, 52, 46, 108, 111, 97, 100, 51, 50, 95, 117]⟩⟩),(.int .i64 (.ofNat 17))] [(.int .i64 (.ofNat 0)),(.string ⟨⟨[]⟩⟩),(.int .i64 (.ofNat 0))]) fun v11=>
 cb.bv CR (Y1 [(0, 1),(1, 1),(2, 1)] [(.int .i64 (.ofNat 54)),(.string ⟨⟨[105, 51, 50, 46, 115, 116, 111, 114, 101]⟩⟩),(.int .i64 (.ofNat 17))] [(.int .i64 (.ofNat 0)),(.string ⟨⟨[]⟩⟩),(.int .i64 (.ofNat 0))]) fun v12=>
 d0U cb N call v0 v1 v2 v3 v4 v5 v6 v7 v8 v9 v10 v11 v12
noncomputable def c9R (cb:Cb) (N:Nat) (call:o8) (v0:Value) (v1:Value) (v2:Value) (v3:Value) (v4:Value) (v5:Value) (v6:Value) (v7:Value) (v8:Value):M CR:=
 cb.bv CR (Y1 [(0, 1),(1, 1),(2, 1)] [(.int .i64 (.ofNat 51)),(.string ⟨⟨[105, 54, 52, 46, 108, 111, 97, 100, 49, 54, 95, 117]⟩⟩),(.int .i64 (.ofNat 17))] [(.int .i64 (.ofNat 0)),(.string ⟨⟨[]⟩⟩),(.int .i64 (.ofNat 0))]) fun v9=>
 cb.bv CR (Y1 [(0, 1),(1, 1),(2, 1)] [(.int .i64 (.ofNat 52)),(.string ⟨⟨[105, 54, 52, 46, 108, 111, 97, 100, 51, 50, 95, 115]⟩⟩),(.int .i64 (.ofNat 17))] [(.int .i64 (.ofNat 0)),(.string ⟨⟨[]⟩⟩),(.int .i64 (.ofNat 0))]) fun v10=>
 c9V cb N call v0 v1 v2 v3 v4 v5 v6 v7 v8 v9 v10
noncomputable def d1F (cb:Cb) (N:Nat) (call:o8) (v0:Value) (v1:Value) (v2:Value) (v3:Value) (v4:Value) (v5:Value) (v6:Value):M CR:=
 cb.bv CR (Y1 [(0, 1),(1, 1),(2, 1)] [(.int .i64 (.ofNat 49)),(.string ⟨⟨[105, 54, 52, 46, 108, 111, 97, 100, 56, 95, 117]⟩⟩),(.int .i64 (.ofNat 17))] [(.int .i64 (.ofNat 0)),(.string ⟨⟨[]⟩⟩),(.int .i64 (.ofNat 0))]) fun v7=>
 cb.bv CR (Y1 [(0, 1),(1, 1),(2, 1)] [(.int .i64 (.ofNat 50)),(.string ⟨⟨[105, 54, 52, 46, 108, 111, 97, 100, 49, 54, 95, 115]⟩⟩),(.int .i64 (.ofNat 17))] [(.int .i64 (.ofNat 0)),(.string ⟨⟨[]⟩⟩),(.int .i64 (.ofNat 0))]) fun v8=>
 c9R cb N call v0 v1 v2 v3 v4 v5 v6 v7 v8
noncomputable def d0u (cb:Cb) (N:Nat) (call:o8) (v0:Value) (v1:Value) (v2:Value) (v3:Value) (v4:Value):M CR:=
 cb.bv CR (Y1 [(0, 1),(1, 1),(2, 1)] [(.int .i64 (.ofNat 47)),(.string ⟨⟨[105, 51, 50, 46, 108, 111, 97, 100, 49, 54, 95, 117]⟩⟩),(.int .i64 (.ofNat 17))] [(.int .i64 (.ofNat 0)),(.string ⟨⟨[]⟩⟩),(.int .i64 (.ofNat 0))]) fun v5=>
 cb.bv CR (Y1 [(0, 1),(1, 1),(2, 1)] [(.int .i64 (.ofNat 48)),(.string ⟨⟨[105, 54, 52, 46, 108, 111, 97, 100, 56, 95, 115]⟩⟩),(.int .i64 (.ofNat 17))] [(.int .i64 (.ofNat 0)),(.string ⟨⟨[]⟩⟩),(.int .i64 (.ofNat 0))]) fun v6=>
 d1F cb N call v0 v1 v2 v3 v4 v5 v6
noncomputable def c9w (cb:Cb) (N:Nat) (call:o8) (v0:Value) (v1:Value) (v2:Value):M CR:=
 cb.bv CR (Y1 [(0, 1),(1, 1),(2, 1)] [(.int .i64 (.ofNat 45)),(.string ⟨⟨[105, 51, 50, 46, 108, 111, 97, 100, 56, 95, 117]⟩⟩),(.int .i64 (.ofNat 17))] [(.int .i64 (.ofNat 0)),(.string ⟨⟨[]⟩⟩),(.int .i64 (.ofNat 0))]) fun v3=>
 cb.bv CR (Y1 [(0, 1),(1, 1),(2, 1)] [(.int .i64 (.ofNat 46)),(.string ⟨⟨[105, 51, 50, 46, 108, 111, 97, 100, 49, 54, 95, 115]⟩⟩),(.int .i64 (.ofNat 17))] [(.int .i64 (.ofNat 0)),(.string ⟨⟨[]⟩⟩),(.int .i64 (.ofNat 0))]) fun v4=>
 d0u cb N call v0 v1 v2 v3 v4
noncomputable def c7A (cb:Cb) (N:Nat) (call:o8):M CR:=
 cb.bv CR (Y1 [(0, 1),(1, 1),(2, 1)] [(.int .i64 (.ofNat 40)),(.string ⟨⟨[105, 51, 50, 46, 108, 111, 97, 100]⟩⟩),(.int .i64 (.ofNat 17))] [(.int .i64 (.ofNat 0)),(.string ⟨⟨[]⟩⟩),(.int .i64 (.ofNat 0))]) fun v0=>
 cb.bv CR (Y1 [(0, 1),(1, 1),(2, 1)] [(.int .i64 (.ofNat 41)),(.string ⟨⟨[105, 54, 52, 46, 108, 111, 97, 100]⟩⟩),(.int .i64 (.ofNat 17))] [(.int .i64 (.ofNat 0)),(.string ⟨⟨[]⟩⟩),(.int .i64 (.ofNat 0))]) fun v1=>
 cb.bv CR (Y1 [(0, 1),(1, 1),(2, 1)] [(.int .i64 (.ofNat 44)),(.string ⟨⟨[105, 51, 50, 46, 108, 111, 97, 100, 56, 95, 115]⟩⟩),(.int .i64 (.ofNat 17))] [(.int .i64 (.ofNat 0)),(.string ⟨⟨[]⟩⟩),(.int .i64 (.ofNat 0))]) fun v2=>
 c9w cb N call v0 v1 v2
theorem c5S (cb:Cb) (N:Nat) (call:o8):Y9 Tryz.prog R4 cb false N call Tryz.f173 e3K d9y []=c7A cb N call:=by kernel_rfl
noncomputable def e1E:Code:=a0g Tryz.f174
noncomputable def d9n:Pl:=(.s none .d (.s none .d (.s none (.s none .d (.s none (.l [9, 10, 11, 12, 15, 16, 17, 18, 19, 20, 21, 22, 23, 24, 25, 26, 27, 28, 7, 13, 14, 8] .d) .d)) .d)))
noncomputable def d1X (cb:Cb) (N:Nat) (call:o8) (v5:Value) (v9:Value) (xs0:List Value) (a2:Value) (v3:Value) (v4:Value) (a0:Value) (a1:Value) (v6:Value) (v7:Value) (v8:Value):M R2:=
 cb.bv R2 (Y1 [(0, 1),(1, 1),(2, 1)] [v5,v9,(.int .i64 (.ofNat 0))] [(.int .i64 (.ofNat 0)),(.string ⟨⟨[]⟩⟩),(.int .i64 (.ofNat 0))]) fun v10=>
 cb.bv R2 (a1W 3 1 [(0, 3)] [v10] [(.int .i64 (.ofNat 0)),(.string ⟨⟨[]⟩⟩),(.int .i64 (.ofNat 0))]) fun v11=>
 cb.bv R2 (a3S a7F (j4 xs0 18) v11) fun v12=>
 cb.bv R2 (bn .add 3 (.tmp 13) (.const (.int .i64 (.ofNat 1))) (j4 xs0 21) (.int .i64 (.ofNat 1))) fun v13=>
 M.pure (.normal, [(j4 xs0 21),a2,v3,v4,(j4 xs0 18),a0,(j4 xs0 21),v5,a1,v6,a2,(j4 xs0 21),v7,v8,v9,v10,v11,v12,v12,(j4 xs0 21),v13,v13])
noncomputable def d0t (cb:Cb) (N:Nat) (call:o8) (a0:Value) (xs0:List Value) (a1:Value) (a2:Value) (v3:Value) (v4:Value):M R2:=
 cb.bv R2 (bn .add 22 (.tmp 16) (.tmp 17) a0 (j4 xs0 21)) fun v5=>
 cb.bv R2 (bn .add 9 (.tmp 19) (.const (.string ⟨⟨[46]⟩⟩)) a1 (.string ⟨⟨[46]⟩⟩)) fun v6=>
 cb.bv R2 (a4X 1 a2 (j4 xs0 21)) fun v7=>
 cb.bv R2 (K7 v7) fun v8=>
 cb.bv R2 (bn .add 9 (.tmp 20) (.tmp 24) v6 v8) fun v9=>
 d1X cb N call v5 v9 xs0 a2 v3 v4 a0 a1 v6 v7 v8
noncomputable def d1G (cb:Cb) (N:Nat) (call:o8) (xs0:List Value) (a2:Value) (v3:Value) (v4:Value):M R2:=
 M.pure (.exit 0, [(j4 xs0 21),a2,v3,v4,(j4 xs0 4),(j4 xs0 5),(j4 xs0 6),(j4 xs0 7),(j4 xs0 8),(j4 xs0 9),(j4 xs0 10),(j4 xs0 11),(j4 xs0 12),(j4 xs0 13),(j4 xs0 14),(j4 xs0 15),(j4 xs0 16),(j4 xs0 17),(j4 xs0 18),(j4 xs0 19),(j4 xs0 20),(j4 xs0 21)])
noncomputable def d0b (cb:Cb) (N:Nat) (call:o8) (a2:Value) (a0:Value) (a1:Value) (xs0:List Value):M R2:=
 cb.bv R2 (a3U a2) fun v3=>
 cb.bv R2 (bn .lss 3 (.tmp 9) (.tmp 11) (j4 xs0 21) v3) fun v4=>
 K5 v4 (
 d0t cb N call a0 xs0 a1 a2 v3 v4) (
 d1G cb N call xs0 a2 v3 v4)
noncomputable def c7d (cb:Cb) (N:Nat) (call:o8) (a0:Value) (a1:Value) (a2:Value):M CR:=
 cb.bj CR (cb.lp (d0b cb N call a2 a0 a1) N [undef,undef,undef,undef,undef,undef,undef,undef,undef,undef,undef,undef,undef,undef,undef,undef,undef,undef,(.slice none 0 0),undef,undef,(.int .i64 (.ofNat 0))]) fun x1 vs2=>
 O4 x1 (M.fail) (fun i14=>bcase (Nat.beq i14 0) (M.pure (.ret (j4 vs2 18))) (M.fail)) (M.fail) O8
theorem c4S (cb:Cb) (N:Nat) (call:o8) (a0:Value) (a1:Value) (a2:Value):Y9 Tryz.prog R4 cb false N call Tryz.f174 e1E d9n [a0,a1,a2]=c7d cb N call a0 a1 a2:=by kernel_rfl
noncomputable def e2J:Code:=a0g Tryz.f175
noncomputable def d4b:Pl:=.d
noncomputable def c6C (cb:Cb) (N:Nat) (call:o8):M CR:=
 cb.bv CR (a1W 1 11 [(0, 1),(1, 1),(2, 1),(3, 1),(4, 1),(5, 1),(6, 1),(7, 1),(8, 1),(9, 1),(10, 1)] [(.string ⟨⟨[101, 113, 122]⟩⟩),(.string ⟨⟨[101, 113]⟩⟩),(.string ⟨⟨[110, 101]⟩⟩),(.string ⟨⟨[108, 116, 95, 115]⟩⟩),(.string ⟨⟨[108, 116, 95, 117]⟩⟩),(.string ⟨⟨[103, 116, 95, 115]⟩⟩),(.string ⟨⟨[103, 116, 95, 117]⟩⟩),(.string ⟨⟨[108, 101, 95, 115]⟩⟩),(.string ⟨⟨[108, 101, 95, 117]⟩⟩),(.string ⟨⟨[103, 101, 95, 115]⟩⟩),(.string ⟨⟨[103, 101, 95, 117]⟩⟩)] [(.string ⟨⟨[]⟩⟩),(.string ⟨⟨[]⟩⟩),(.string ⟨⟨[]⟩⟩),(.string ⟨⟨[]⟩⟩),(.string ⟨⟨[]⟩⟩),(.string ⟨⟨[]⟩⟩),(.string ⟨⟨[]⟩⟩),(.string ⟨⟨[]⟩⟩),(.string ⟨⟨[]⟩⟩),(.string ⟨⟨[]⟩⟩),(.string ⟨⟨[]⟩⟩)]) fun v0=>
 M.pure (.ret v0)
theorem c5T (cb:Cb) (N:Nat) (call:o8):Y9 Tryz.prog R4 cb false N call Tryz.f175 e2J d4b []=c6C cb N call:=by kernel_rfl
noncomputable def e4c:Code:=a0g Tryz.f176
noncomputable def d9j:Pl:=.d
noncomputable def c7l (cb:Cb) (N:Nat) (call:o8):M CR:=
 cb.bv CR (a1W 1 18 [(0, 1),(1, 1),(2, 1),(3, 1),(4, 1),(5, 1),(6, 1),(7, 1),(8, 1),(9, 1),(10, 1),(11, 1),(12, 1),(13, 1),(14, 1),(15, 1),(16, 1),(17, 1)] [(.string ⟨⟨[99, 108, 122]⟩⟩),(.string ⟨⟨[99, 116, 122]⟩⟩),(.string ⟨⟨[112, 111, 112, 99, 110, 116]⟩⟩),(.string ⟨⟨[97, 100, 100]⟩⟩),(.string ⟨⟨[115, 117, 98]⟩⟩),(.string ⟨⟨[109, 117, 108]⟩⟩),(.string ⟨⟨[100, 105, 118, 95, 115]⟩⟩),(.string ⟨⟨[100, 105, 118, 95, 117]⟩⟩),(.string ⟨⟨[114, 101, 109, 95, 115]⟩⟩),(.string ⟨⟨[114, 101, 109, 95, 117]⟩⟩),(.string ⟨⟨[97, 110, 100]⟩⟩),(.string ⟨⟨[111, 114]⟩⟩),(.string ⟨⟨[120, 111, 114]⟩⟩),(.string ⟨⟨[115, 104, 108]⟩⟩),(.string ⟨⟨[115, 104, 114, 95, 115]⟩⟩),(.string ⟨⟨[115, 104, 114, 95, 117]⟩⟩),(.string ⟨⟨[114, 111, 116, 108]⟩⟩),(.string ⟨⟨[114, 111, 116, 114]⟩⟩)] [(.string ⟨⟨[]⟩⟩),(.string ⟨⟨[]⟩⟩),(.string ⟨⟨[]⟩⟩),(.string ⟨⟨[]⟩⟩),(.string ⟨⟨[]⟩⟩),(.string ⟨⟨[]⟩⟩),(.string ⟨⟨[]⟩⟩),(.string ⟨⟨[]⟩⟩),(.string ⟨⟨[]⟩⟩),(.string ⟨⟨[]⟩⟩),(.string ⟨⟨[]⟩⟩),(.string ⟨⟨[]⟩⟩),(.string ⟨⟨[]⟩⟩),(.string ⟨⟨[]⟩⟩),(.string ⟨⟨[]⟩⟩),(.string ⟨⟨[]⟩⟩),(.string ⟨⟨[]⟩⟩),(.string ⟨⟨[]⟩⟩)]) fun v0=>
 M.pure (.ret v0)
theorem c5P (cb:Cb) (N:Nat) (call:o8):Y9 Tryz.prog R4 cb false N call Tryz.f176 e4c d9j []=c7l cb N call:=by kernel_rfl
noncomputable def e2B:Code:=a0g Tryz.f177
noncomputable def d5j:Pl:=.d
noncomputable def d1k (cb:Cb) (N:Nat) (call:o8) (v0:Value) (v1:Value) (v2:Value) (v3:Value) (v4:Value) (v5:Value) (v6:Value) (v7:Value) (v8:Value) (v9:Value) (v10:Value) (v11:Value) (v12:Value):M CR:=
 cb.bv CR (a1W 3 13 [(0, 3),(3, 3),(6, 3),(9, 3),(12, 3),(15, 3),(18, 3),(21, 3),(24, 3),(27, 3),(30, 3),(33, 3),(36, 3)] [v0,v1,v2,v3,v4,v5,v6,v7,v8,v9,v10,v11,v12] [(.int .i64 (.ofNat 0)),(.string ⟨⟨[]⟩⟩),(.int .i64 (.ofNat 0)),(.int .i64 (.ofNat 0)),(.string ⟨⟨[]⟩⟩),(.int .i64 (.ofNat 0)),(.int .i64 (.ofNat 0)),(.string ⟨⟨[]⟩⟩),(.int .i64 (.ofNat 0)),(.int .i64 (.ofNat 0)),(.string ⟨⟨[]⟩⟩),(.int .i64 (.ofNat 0)),(.int .i64 (.ofNat 0)),(.string ⟨⟨[]⟩⟩),(.int .i64 (.ofNat 0)),(.int .i64 (.ofNat 0)),(.string ⟨⟨[]⟩⟩),(.int .i64 (.ofNat 0)),(.int .i64 (.ofNat 0)),(.string ⟨⟨[]⟩⟩),(.int .i64 (.ofNat 0)),(.int .i64 (.ofNat 0)),(.string ⟨⟨[]⟩⟩),(.int .i64 (.ofNat 0)),(.int .i64 (.ofNat 0)),(.string ⟨⟨[]⟩⟩),(.int .i64 (.ofNat 0)),(.int .i64 (.ofNat 0)),(.string ⟨⟨[]⟩⟩),(.int .i64 (.ofNat 0)),(.int .i64 (.ofNat 0)),(.string ⟨⟨[]⟩⟩),(.int .i64 (.ofNat 0)),(.int .i64 (.ofNat 0)),(.string ⟨⟨[]⟩⟩),(.int .i64 (.ofNat 0)),(.int .i64 (.ofNat 0)),(.string ⟨⟨[]⟩⟩),(.int .i64 (.ofNat 0))]) fun v13=>
 M.pure (.ret v13)
noncomputable def d2p (cb:Cb) (N:Nat) (call:o8) (v0:Value) (v1:Value) (v2:Value) (v3:Value) (v4:Value) (v5:Value) (v6:Value) (v7:Value) (v8:Value) (v9:Value) (v10:Value):M CR:=
 cb.bv CR (Y1 [(0, 1),(1, 1),(2, 1)] [(.int .i64 (.ofNat 64528)),(.string ⟨⟨[116, 97, 98, 108, 101, 46, 115, 105, 122, 101]⟩⟩),(.int .i64 (.ofNat 9))] [(.int .i64 (.ofNat 0)),(.string ⟨⟨[]⟩⟩),(.int .i64 (.ofNat 0))]) fun v11=>
 cb.bv CR (Y1 [(0, 1),(1, 1),(2, 1)] [(.int .i64 (.ofNat 64529)),(.string ⟨⟨[116, 97, 98, 108, 101, 46, 102, 105, 108, 108]⟩⟩),(.int .i64 (.ofNat 9))] [(.int .i64 (.ofNat 0)),(.string ⟨⟨[]⟩⟩),(.int .i64 (.ofNat 0))]) fun v12=>
 d1k cb N call v0 v1 v2 v3 v4 v5 v6 v7 v8 v9 v10 v11 v12
noncomputable def d1I (cb:Cb) (N:Nat) (call:o8) (v0:Value) (v1:Value) (v2:Value) (v3:Value) (v4:Value) (v5:Value) (v6:Value) (v7:Value) (v8:Value):M CR:=
 cb.bv CR (Y1 [(0, 1),(1, 1),(2, 1)] [(.int .i64 (.ofNat 64526)),(.string ⟨⟨[116, 97, 98, 108, 101, 46, 99, 111, 112, 121]⟩⟩),(.int .i64 (.ofNat 10))] [(.int .i64 (.ofNat 0)),(.string ⟨⟨[]⟩⟩),(.int .i64 (.ofNat 0))]) fun v9=>
 cb.bv CR (Y1 [(0, 1),(1, 1),(2, 1)] [(.int .i64 (.ofNat 64527)),(.string ⟨⟨[116, 97, 98, 108, 101, 46, 103, 114, 111, 119]⟩⟩),(.int .i64 (.ofNat 9))] [(.int .i64 (.ofNat 0)),(.string ⟨⟨[]⟩⟩),(.int .i64 (.ofNat 0))]) fun v10=>
 d2p cb N call v0 v1 v2 v3 v4 v5 v6 v7 v8 v9 v10
noncomputable def d1d (cb:Cb) (N:Nat) (call:o8) (v0:Value) (v1:Value) (v2:Value) (v3:Value) (v4:Value) (v5:Value) (v6:Value):M CR:=
 cb.bv CR (Y1 [(0, 1),(1, 1),(2, 1)] [(.int .i64 (.ofNat 64524)),(.string ⟨⟨[116, 97, 98, 108, 101, 46, 105, 110, 105, 116]⟩⟩),(.int .i64 (.ofNat 11))] [(.int .i64 (.ofNat 0)),(.string ⟨⟨[]⟩⟩),(.int .i64 (.ofNat 0))]) fun v7=>
 cb.bv CR (Y1 [(0, 1),(1, 1),(2, 1)] [(.int .i64 (.ofNat 64525)),(.string ⟨⟨[101, 108, 101, 109, 46, 100, 114, 111, 112]⟩⟩),(.int .i64 (.ofNat 12))] [(.int .i64 (.ofNat 0)),(.string ⟨⟨[]⟩⟩),(.int .i64 (.ofNat 0))]) fun v8=>
 d1I cb N call v0 v1 v2 v3 v4 v5 v6 v7 v8
noncomputable def c9S (cb:Cb) (N:Nat) (call:o8) (v0:Value) (v1:Value) (v2:Value) (v3:Value) (v4:Value):M CR:=
 cb.bv CR (Y1 [(0, 1),(1, 1),(2, 1)] [(.int .i64 (.ofNat 64522)),(.string ⟨⟨[109, 101, 109, 111, 114, 121, 46, 99, 111, 112, 121]⟩⟩),(.int .i64 (.ofNat 14))] [(.int .i64 (.ofNat 0)),(.string ⟨⟨[]⟩⟩),(.int .i64 (.ofNat 0))]) fun v5=>
 cb.bv CR (Y1 [(0, 1),(1, 1),(2, 1)] [(.int .i64 (.ofNat 64523)),(.string ⟨⟨[109, 101, 109, 111, 114, 121, 46, 102, 105, 108, 108]⟩⟩),(.int .i64 (.ofNat 13))] [(.int .i64 (.ofNat 0)),(.string ⟨⟨[]⟩⟩),(.int .i64 (.ofNat 0))]) fun v6=>
 d1d cb N call v0 v1 v2 v3 v4 v5 v6
noncomputable def d1E (cb:Cb) (N:Nat) (call:o8) (v0:Value) (v1:Value) (v2:Value):M CR:=
 cb.bv CR (Y1 [(0, 1),(1, 1),(2, 1)] [(.int .i64 (.ofNat 64520)),(.string ⟨⟨[109, 101, 109, 111, 114, 121, 46, 105, 110, 105, 116]⟩⟩),(.int .i64 (.ofNat 15))] [(.int .i64 (.ofNat 0)),(.string ⟨⟨[]⟩⟩),(.int .i64 (.ofNat 0))]) fun v3=>
 cb.bv CR (Y1 [(0, 1),(1, 1),(2, 1)] [(.int .i64 (.ofNat 64521)),(.string ⟨⟨[100, 97, 116, 97, 46, 100, 114, 111, 112]⟩⟩),(.int .i64 (.ofNat 16))] [(.int .i64 (.ofNat 0)),(.string ⟨⟨[]⟩⟩),(.int .i64 (.ofNat 0))]) fun v4=>
 c9S cb N call v0 v1 v2 v3 v4
noncomputable def c6H (cb:Cb) (N:Nat) (call:o8):M CR:=
 cb.bv CR (Y1 [(0, 1),(1, 1),(2, 1)] [(.int .i64 (.ofNat 208)),(.string ⟨⟨[114, 101, 102, 46, 110, 117, 108, 108]⟩⟩),(.int .i64 (.ofNat 20))] [(.int .i64 (.ofNat 0)),(.string ⟨⟨[]⟩⟩),(.int .i64 (.ofNat 0))]) fun v0=>
 cb.bv CR (Y1 [(0, 1),(1, 1),(2, 1)] [(.int .i64 (.ofNat 209)),(.string ⟨⟨[114, 101, 102, 46, 105, 115, 95, 110, 117, 108, 108]⟩⟩),(.int .i64 (.ofNat 0))] [(.int .i64 (.ofNat 0)),(.string ⟨⟨[]⟩⟩),(.int .i64 (.ofNat 0))]) fun v1=>
 cb.bv CR (Y1 [(0, 1),(1, 1),(2, 1)] [(.int .i64 (.ofNat 210)),(.string ⟨⟨[114, 101, 102, 46, 102, 117, 110, 99]⟩⟩),(.int .i64 (.ofNat 4))] [(.int .i64 (.ofNat 0)),(.string ⟨⟨[]⟩⟩),(.int .i64 (.ofNat 0))]) fun v2=>
 d1E cb N call v0 v1 v2
theorem c4Q (cb:Cb) (N:Nat) (call:o8):Y9 Tryz.prog R4 cb false N call Tryz.f177 e2B d5j []=c6H cb N call:=by kernel_rfl
noncomputable def e4d:Code:=a0g Tryz.f178
noncomputable def d6e:Pl:=(.s none .d (.s none (.s none .d (.s none (.l [6, 7, 8, 9, 10, 11, 12, 15, 16, 17, 18, 19, 20, 21, 22, 23, 4, 13, 14, 5] .d) .d)) .d))
noncomputable def d2Q (cb:Cb) (N:Nat) (call:o8) (xs0:List Value) (a1:Value) (v3:Value) (v4:Value) (a0:Value) (v5:Value) (v6:Value) (v7:Value) (v8:Value) (v9:Value) (v10:Value):M R2:=
 M.pure (.ret, [(j4 xs0 19),a1,v3,v4,a0,v5,v6,a0,(j4 xs0 19),(j4 xs0 19),a1,v7,v8,v9,a1,v10,(.bool true),(j4 xs0 17),(j4 xs0 18),(j4 xs0 19)])
noncomputable def c9T (cb:Cb) (N:Nat) (call:o8) (xs0:List Value) (a1:Value) (v3:Value) (v4:Value) (a0:Value) (v5:Value) (v6:Value) (v7:Value) (v8:Value) (v9:Value) (v10:Value):M R2:=
 cb.bv R2 (bn .add 3 (.tmp 13) (.const (.int .i64 (.ofNat 1))) (j4 xs0 19) (.int .i64 (.ofNat 1))) fun v11=>
 M.pure (.normal, [(j4 xs0 19),a1,v3,v4,a0,v5,v6,a0,(j4 xs0 19),(j4 xs0 19),a1,v7,v8,v9,a1,v10,(j4 xs0 16),(j4 xs0 19),v11,v11])
noncomputable def d2l (cb:Cb) (N:Nat) (call:o8) (a1:Value) (xs0:List Value) (a0:Value) (v3:Value) (v4:Value) (v5:Value) (v6:Value):M R2:=
 cb.bv R2 (c3a a1) fun v7=>
 cb.bv R2 (bn .add 3 (.tmp 17) (.tmp 19) (j4 xs0 19) v7) fun v8=>
 cb.bv R2 (a8X a0 (some (j4 xs0 19)) (some v8)) fun v9=>
 cb.bv R2 (bn .eql 9 (.tmp 21) (.tmp 22) v9 a1) fun v10=>
 K5 v10 (
 d2Q cb N call xs0 a1 v3 v4 a0 v5 v6 v7 v8 v9 v10) (
 c9T cb N call xs0 a1 v3 v4 a0 v5 v6 v7 v8 v9 v10)
noncomputable def c9L (cb:Cb) (N:Nat) (call:o8) (xs0:List Value) (a1:Value) (v3:Value) (v4:Value) (a0:Value) (v5:Value) (v6:Value):M R2:=
 M.pure (.exit 0, [(j4 xs0 19),a1,v3,v4,a0,v5,v6,(j4 xs0 7),(j4 xs0 8),(j4 xs0 9),(j4 xs0 10),(j4 xs0 11),(j4 xs0 12),(j4 xs0 13),(j4 xs0 14),(j4 xs0 15),(j4 xs0 16),(j4 xs0 17),(j4 xs0 18),(j4 xs0 19)])
noncomputable def d2f (cb:Cb) (N:Nat) (call:o8) (a1:Value) (a0:Value) (xs0:List Value):M R2:=
 cb.bv R2 (c3a a1) fun v3=>
 cb.bv R2 (bn .add 3 (.tmp 6) (.tmp 8) (j4 xs0 19) v3) fun v4=>
 cb.bv R2 (c3a a0) fun v5=>
 cb.bv R2 (bn .leq 3 (.tmp 9) (.tmp 11) v4 v5) fun v6=>
 K5 v6 (
 d2l cb N call a1 xs0 a0 v3 v4 v5 v6) (
 c9L cb N call xs0 a1 v3 v4 a0 v5 v6)
noncomputable def c6v (cb:Cb) (N:Nat) (call:o8) (a0:Value) (a1:Value):M CR:=
 cb.bj CR (cb.lp (d2f cb N call a1 a0) N [undef,undef,undef,undef,undef,undef,undef,undef,undef,undef,undef,undef,undef,undef,undef,undef,(.bool false),undef,undef,(.int .i64 (.ofNat 0))]) fun x1 vs2=>
 O4 x1 (M.fail) (fun i12=>bcase (Nat.beq i12 0) (M.pure (.ret (.bool false))) (M.fail)) (M.pure (.ret (j4 vs2 16))) O8
theorem c5b (cb:Cb) (N:Nat) (call:o8) (a0:Value) (a1:Value):Y9 Tryz.prog R4 cb false N call Tryz.f178 e4d d6e [a0,a1]=c6v cb N call a0 a1:=by kernel_rfl
end Go.Proofs.YtmomonnlmbljoaaGreatDoor
end
