import Derived.Test.YtmomonnlmbljoaaGreatDoorQak
section
namespace Go.Proofs.YtmomonnlmbljoaaGreatDoor
open Go.V Go.Proofs
set_option maxRecDepth 100000
set_option linter.unusedVariables false
noncomputable def c93:Code:=a0x Tryz.f93
noncomputable def e3q:Pl:=.d
noncomputable def c0n (cb:Cb) (N:Nat) (call:j5) (a0:Value) (a1:Value):M CR:=
 cb.bc CR (call 126 [a0,a1]) (fun v0=>
 M.pure (.ret v0)) N7
theorem c6F (cb:Cb) (N:Nat) (call:j5) (a0:Value) (a1:Value):a0i Tryz.prog Q6 cb false N call Tryz.f93 c93 e3q [a0,a1]=c0n cb N call a0 a1:=by kernel_rfl
noncomputable def c94:Code:=a0x Tryz.f94
noncomputable def e1J:Pl:=(.s none .d (.s none .d (.s none (.s none .d (.s none (.l [7, 8, 11, 12, 3, 9, 10, 4] .d) .d)) .d)))
noncomputable def d5e (cb:Cb) (N:Nat) (call:j5) (xs1:List Value) (v4:Value):M R2:=
 cb.bv R2 (bn .add 3 (.tmp 11) (.const (.int .i64 (.ofNat 1))) (d9 xs1 4) (.int .i64 (.ofNat 1))) fun v5=>
 cb.bv R2 (bn .quo 3 (.tmp 9) (.const (.int .i64 (.ofNat 2))) (d9 xs1 7) (.int .i64 (.ofNat 2))) fun v6=>
 M.pure (.normal, [(d9 xs1 7),v4,(d9 xs1 4),v5,v5,(d9 xs1 7),v6,v6])
noncomputable def d4w (cb:Cb) (N:Nat) (call:j5) (xs1:List Value):M R2:=
 cb.bv R2 (bn .gtr 3 (.tmp 7) (.const (.int .i64 (.ofNat 1))) (d9 xs1 7) (.int .i64 (.ofNat 1))) fun v4=>
 K3 v4 (
 d5e cb N call xs1 v4) (
 M.pure (.exit 0, [(d9 xs1 7),v4,(d9 xs1 2),(d9 xs1 3),(d9 xs1 4),(d9 xs1 5),(d9 xs1 6),(d9 xs1 7)]))
noncomputable def c8S (cb:Cb) (N:Nat) (call:j5) (a0:Value):M CR:=
 cb.bc CR (call 91 [a0]) (fun v0=>
 cb.bj CR (cb.lp (d4w cb N call) N [undef,undef,undef,undef,(.int .i64 (.ofNat 0)),undef,undef,v0]) fun x2 vs3=>
 M5 x2 (M.fail) (fun i7=>bcase (Nat.beq i7 0) (M.pure (.ret (d9 vs3 4))) (M.fail)) (M.fail) N7) N7
theorem c6G (cb:Cb) (N:Nat) (call:j5) (a0:Value):a0i Tryz.prog Q6 cb false N call Tryz.f94 c94 e1J [a0]=c8S cb N call a0:=by kernel_rfl
noncomputable def c97:Code:=a0x Tryz.f97
noncomputable def e3j:Pl:=(.s none .d (.s none .d (.s none (.s none .d (.s none (.l [7, 8, 9, 10, 13, 14, 15, 16, 17, 18, 19, 20, 21, 22, 23, 3, 11, 12, 5] .d) .d)) .d)))
noncomputable def c1k (cb:Cb) (N:Nat) (call:j5) (v1:Value) (xs2:List Value) (v0:Value) (v5:Value) (v6:Value) (v7:Value) (v8:Value) (v9:Value) (a0:Value) (v10:Value):M R2:=
 cb.bv R2 (a5I 3 v1 (d9 xs2 18)) fun v11=>
 cb.bv R2 (a3p 3 v11) fun v12=>
 cb.bv R2 (a4M 3 v0 v12) fun v13=>
 M.pure (.ret, [(d9 xs2 18),v1,v5,v6,v1,(d9 xs2 18),v7,v8,v9,a0,v10,v1,(d9 xs2 18),v11,v12,(.bool true),(d9 xs2 16),(d9 xs2 17),(d9 xs2 18)])
noncomputable def c1g (cb:Cb) (N:Nat) (call:j5) (xs2:List Value) (v1:Value) (v5:Value) (v6:Value) (v7:Value) (v8:Value) (v9:Value) (a0:Value) (v10:Value):M R2:=
 cb.bv R2 (bn .add 3 (.tmp 11) (.const (.int .i64 (.ofNat 1))) (d9 xs2 18) (.int .i64 (.ofNat 1))) fun v14=>
 M.pure (.normal, [(d9 xs2 18),v1,v5,v6,v1,(d9 xs2 18),v7,v8,v9,a0,v10,(d9 xs2 11),(d9 xs2 12),(d9 xs2 13),(d9 xs2 14),(d9 xs2 15),(d9 xs2 18),v14,v14])
noncomputable def b9V (cb:Cb) (N:Nat) (call:j5) (v1:Value) (xs2:List Value) (a0:Value) (v0:Value) (v5:Value) (v6:Value):M R2:=
 cb.bv R2 (a5I 3 v1 (d9 xs2 18)) fun v7=>
 cb.bv R2 (xFA 0 v7) fun v8=>
 cb.bv R2 (K5 v8) fun v9=>
 cb.bv R2 (bn .eql 22 (.tmp 17) (.tmp 18) v9 a0) fun v10=>
 K3 v10 (
 c1k cb N call v1 xs2 v0 v5 v6 v7 v8 v9 a0 v10) (
 c1g cb N call xs2 v1 v5 v6 v7 v8 v9 a0 v10)
noncomputable def c0l (cb:Cb) (N:Nat) (call:j5) (xs2:List Value) (v1:Value) (v5:Value) (v6:Value):M R2:=
 M.pure (.exit 0, [(d9 xs2 18),v1,v5,v6,(d9 xs2 4),(d9 xs2 5),(d9 xs2 6),(d9 xs2 7),(d9 xs2 8),(d9 xs2 9),(d9 xs2 10),(d9 xs2 11),(d9 xs2 12),(d9 xs2 13),(d9 xs2 14),(d9 xs2 15),(d9 xs2 16),(d9 xs2 17),(d9 xs2 18)])
noncomputable def b5C (cb:Cb) (N:Nat) (call:j5) (v1:Value) (a0:Value) (v0:Value) (xs2:List Value):M R2:=
 cb.bv R2 (a4q v1) fun v5=>
 cb.bv R2 (bn .lss 3 (.tmp 7) (.tmp 9) (d9 xs2 18) v5) fun v6=>
 K3 v6 (
 b9V cb N call v1 xs2 a0 v0 v5 v6) (
 c0l cb N call xs2 v1 v5 v6)
noncomputable def c5H (cb:Cb) (N:Nat) (call:j5) (v1:Value) (a0:Value) (v0:Value):M CR:=
 cb.bj CR (cb.lp (b5C cb N call v1 a0 v0) N [undef,undef,undef,undef,undef,undef,undef,undef,undef,undef,undef,undef,undef,undef,undef,(.bool false),undef,undef,(.int .i64 (.ofNat 0))]) fun x3 vs4=>
 M5 x3 (M.fail) (fun i15=>bcase (Nat.beq i15 0) (cb.bv CR (a0c [] [] [(.int .i64 (.ofNat 0)),(.string ⟨⟨[]⟩⟩),(.int .i64 (.ofNat 0))]) fun v16=>
 cb.bv CR (a4M 3 v0 v16) fun v17=>
 a5e v0 fun ad19=>cb.bv CR (M.bind (loadN ad19 3) fun q=>M.pure (.agg ⟨q⟩)) fun v18=>
 M.pure (.ret (.tuple ⟨[v18,(.bool false)]⟩))) (M.fail)) (a5e v0 fun ad21=>cb.bv CR (M.bind (loadN ad21 3) fun q=>M.pure (.agg ⟨q⟩)) fun v20=>
 M.pure (.ret (.tuple ⟨[v20,(d9 vs4 15)]⟩))) N7
noncomputable def b8t (cb:Cb) (N:Nat) (call:j5) (a0:Value):M CR:=
 cb.bv CR (b0A [(.int .i64 (.ofNat 0)),(.string ⟨⟨[]⟩⟩),(.int .i64 (.ofNat 0))]) fun v0=>
 cb.bc CR (call 127 []) (fun v1=>
 c5H cb N call v1 a0 v0) N7
theorem c6A (cb:Cb) (N:Nat) (call:j5) (a0:Value):a0i Tryz.prog Q6 cb false N call Tryz.f97 c97 e3j [a0]=b8t cb N call a0:=by kernel_rfl
noncomputable def c98:Code:=a0x Tryz.f98
noncomputable def e0T:Pl:=.d
noncomputable def d3S (cb:Cb) (N:Nat) (call:j5) (v0:Value):M CR:=
 cb.bv CR (bn .eql 3 (.tmp 4) (.const (.int .i64 (.ofNat 8))) v0 (.int .i64 (.ofNat 8))) fun v3=>
 K3 v3 (
 M.pure (.ret (.int .i64 (.ofNat 3)))) (
 M.pure (.ret (.int .i64 (.ofNat 0))))
noncomputable def d7i (cb:Cb) (N:Nat) (call:j5) (v0:Value):M CR:=
 cb.bv CR (bn .eql 3 (.tmp 4) (.const (.int .i64 (.ofNat 4))) v0 (.int .i64 (.ofNat 4))) fun v2=>
 K3 v2 (
 M.pure (.ret (.int .i64 (.ofNat 2)))) (
 d3S cb N call v0)
noncomputable def c8y (cb:Cb) (N:Nat) (call:j5) (a0:Value):M CR:=
 cb.bc CR (call 128 [a0]) (fun v0=>
 cb.bv CR (bn .eql 3 (.tmp 4) (.const (.int .i64 (.ofNat 2))) v0 (.int .i64 (.ofNat 2))) fun v1=>
 K3 v1 (
 M.pure (.ret (.int .i64 (.ofNat 1)))) (
 d7i cb N call v0)) N7
theorem c6P (cb:Cb) (N:Nat) (call:j5) (a0:Value):a0i Tryz.prog Q6 cb false N call Tryz.f98 c98 e0T [a0]=c8y cb N call a0:=by kernel_rfl
noncomputable def e2o:Code:=a0x Tryz.f124
noncomputable def d8I:Pl:=.d
noncomputable def c1K (cb:Cb) (N:Nat) (call:j5) (v0:Value) (a0:Value):M CR:=
 cb.bj CR (bcase (O7 true v0) (cb.bv R2 (bn .leq 22 (.tmp 6) (.const (.int .i64 (.ofNat 62))) a0 (.int .i64 (.ofNat 62))) fun v3=>
 M.pure (.normal, [a0,v3])) (M.pure (.normal, [undef,undef]))) fun x1 vs2=>M5 x1 (cb.bv CR (X0 v0 (d9 vs2 1) (.bool false)) fun v4=>
 cb.bj CR (bcase (O7 true v4) (cb.bc R2 (call 85 [a0]) (fun v7=>
 M.pure (.normal, [a0,v7])) N7) (M.pure (.normal, [undef,undef]))) fun x5 vs6=>M5 x5 (cb.bv CR (X0 v4 (d9 vs6 1) (.bool false)) fun v8=>
 M.pure (.ret v8)) (fun _=>M.fail) M.fail N7) (fun _=>M.fail) M.fail N7
noncomputable def b2M (cb:Cb) (N:Nat) (call:j5) (a0:Value):M CR:=
 cb.bv CR (bn .geq 22 (.tmp 3) (.const (.int .i64 (.ofNat 40))) a0 (.int .i64 (.ofNat 40))) fun v0=>
 c1K cb N call v0 a0
theorem c3q (cb:Cb) (N:Nat) (call:j5) (a0:Value):a0i Tryz.prog Q6 cb false N call Tryz.f124 e2o d8I [a0]=b2M cb N call a0:=by kernel_rfl
noncomputable def e2J:Code:=a0x Tryz.f127
noncomputable def d3O:Pl:=.d
noncomputable def d0n (cb:Cb) (N:Nat) (call:j5) (v22:Value):M CR:=
 cb.bv CR (a2p 1 3 [(0, 1),(1, 1),(2, 1)] [(.string ⟨⟨[101, 120, 116, 101, 110, 100, 56, 95, 115]⟩⟩),(.string ⟨⟨[101, 120, 116, 101, 110, 100, 49, 54, 95, 115]⟩⟩),(.string ⟨⟨[101, 120, 116, 101, 110, 100, 51, 50, 95, 115]⟩⟩)] [(.string ⟨⟨[]⟩⟩),(.string ⟨⟨[]⟩⟩),(.string ⟨⟨[]⟩⟩)]) fun v23=>
 cb.bc CR (call 174 [(.int .i64 (.ofNat 194)),(.string ⟨⟨[105, 54, 52]⟩⟩),v23]) (fun v24=>
 cb.bv CR (a4g a7D v22 v24) fun v25=>
 cb.bc CR (call 177 []) (fun v26=>
 cb.bv CR (a4g a7D v25 v26) fun v27=>
 M.pure (.ret v27)) N7) N7
noncomputable def c7D (cb:Cb) (N:Nat) (call:j5) (v15:Value) (v16:Value) (v17:Value) (v14:Value):M CR:=
 cb.bv CR (a2p 3 3 [(0, 3),(3, 3),(6, 3)] [v15,v16,v17] [(.int .i64 (.ofNat 0)),(.string ⟨⟨[]⟩⟩),(.int .i64 (.ofNat 0)),(.int .i64 (.ofNat 0)),(.string ⟨⟨[]⟩⟩),(.int .i64 (.ofNat 0)),(.int .i64 (.ofNat 0)),(.string ⟨⟨[]⟩⟩),(.int .i64 (.ofNat 0))]) fun v18=>
 cb.bv CR (a4g a7D v14 v18) fun v19=>
 cb.bv CR (a2p 1 2 [(0, 1),(1, 1)] [(.string ⟨⟨[101, 120, 116, 101, 110, 100, 56, 95, 115]⟩⟩),(.string ⟨⟨[101, 120, 116, 101, 110, 100, 49, 54, 95, 115]⟩⟩)] [(.string ⟨⟨[]⟩⟩),(.string ⟨⟨[]⟩⟩)]) fun v20=>
 cb.bc CR (call 174 [(.int .i64 (.ofNat 192)),(.string ⟨⟨[105, 51, 50]⟩⟩),v20]) (fun v21=>
 cb.bv CR (a4g a7D v19 v21) fun v22=>
 d0n cb N call v22) N7
noncomputable def d0r (cb:Cb) (N:Nat) (call:j5) (v15:Value) (v14:Value):M CR:=
 cb.bv CR (a0c [(0, 1),(1, 1),(2, 1)] [(.int .i64 (.ofNat 172)),(.string ⟨⟨[105, 54, 52, 46, 101, 120, 116, 101, 110, 100, 95, 105, 51, 50, 95, 115]⟩⟩),(.int .i64 (.ofNat 0))] [(.int .i64 (.ofNat 0)),(.string ⟨⟨[]⟩⟩),(.int .i64 (.ofNat 0))]) fun v16=>
 cb.bv CR (a0c [(0, 1),(1, 1),(2, 1)] [(.int .i64 (.ofNat 173)),(.string ⟨⟨[105, 54, 52, 46, 101, 120, 116, 101, 110, 100, 95, 105, 51, 50, 95, 117]⟩⟩),(.int .i64 (.ofNat 0))] [(.int .i64 (.ofNat 0)),(.string ⟨⟨[]⟩⟩),(.int .i64 (.ofNat 0))]) fun v17=>
 c7D cb N call v15 v16 v17 v14
noncomputable def c9f (cb:Cb) (N:Nat) (call:j5) (v9:Value) (v8:Value):M CR:=
 cb.bc CR (call 174 [(.int .i64 (.ofNat 103)),(.string ⟨⟨[105, 51, 50]⟩⟩),v9]) (fun v10=>
 cb.bv CR (a4g a7D v8 v10) fun v11=>
 cb.bc CR (call 176 []) (fun v12=>
 cb.bc CR (call 174 [(.int .i64 (.ofNat 121)),(.string ⟨⟨[105, 54, 52]⟩⟩),v12]) (fun v13=>
 cb.bv CR (a4g a7D v11 v13) fun v14=>
 cb.bv CR (a0c [(0, 1),(1, 1),(2, 1)] [(.int .i64 (.ofNat 167)),(.string ⟨⟨[105, 51, 50, 46, 119, 114, 97, 112, 95, 105, 54, 52]⟩⟩),(.int .i64 (.ofNat 0))] [(.int .i64 (.ofNat 0)),(.string ⟨⟨[]⟩⟩),(.int .i64 (.ofNat 0))]) fun v15=>
 d0r cb N call v15 v14) N7) N7) N7
noncomputable def c4J (cb:Cb) (N:Nat) (call:j5):M CR:=
 cb.bc CR (call 172 []) (fun v0=>
 cb.bc CR (call 173 []) (fun v1=>
 cb.bv CR (a4g a7D v0 v1) fun v2=>
 cb.bc CR (call 175 []) (fun v3=>
 cb.bc CR (call 174 [(.int .i64 (.ofNat 69)),(.string ⟨⟨[105, 51, 50]⟩⟩),v3]) (fun v4=>
 cb.bv CR (a4g a7D v2 v4) fun v5=>
 cb.bc CR (call 175 []) (fun v6=>
 cb.bc CR (call 174 [(.int .i64 (.ofNat 80)),(.string ⟨⟨[105, 54, 52]⟩⟩),v6]) (fun v7=>
 cb.bv CR (a4g a7D v5 v7) fun v8=>
 cb.bc CR (call 176 []) (fun v9=>
 c9f cb N call v9 v8) N7) N7) N7) N7) N7) N7) N7
theorem c4d (cb:Cb) (N:Nat) (call:j5):a0i Tryz.prog Q6 cb false N call Tryz.f127 e2J d3O []=c4J cb N call:=by kernel_rfl
noncomputable def e1y:Code:=a0x Tryz.f128
noncomputable def d5b:Pl:=.d
noncomputable def c9B (cb:Cb) (N:Nat) (call:j5) (v0:Value):M CR:=
 cb.bv CR (a8P v0 (some (.int .i64 (.ofNat 1))) (some (.int .i64 (.ofNat 3)))) fun v18=>
 cb.bv CR (bn .eql 9 (.tmp 32) (.const (.string ⟨⟨[51, 50]⟩⟩)) v18 (.string ⟨⟨[51, 50]⟩⟩)) fun v19=>
 K3 v19 (
 M.pure (.ret (.int .i64 (.ofNat 4)))) (
 M.pure (.ret (.int .i64 (.ofNat 8))))
noncomputable def c8s (cb:Cb) (N:Nat) (call:j5) (v0:Value):M CR:=
 cb.bc CR (call 178 [v0,(.string ⟨⟨[100, 51, 50]⟩⟩)]) (fun v13=>
 cb.bj CR (bcase (O7 false v13) (cb.bc R2 (call 178 [v0,(.string ⟨⟨[101, 51, 50]⟩⟩)]) (fun v16=>
 M.pure (.normal, [v0,v16])) N7) (M.pure (.normal, [undef,undef]))) fun x14 vs15=>M5 x14 (cb.bv CR (X0 v13 (.bool true) (d9 vs15 1)) fun v17=>
 K3 v17 (
 M.pure (.ret (.int .i64 (.ofNat 4)))) (
 c9B cb N call v0)) (fun _=>M.fail) M.fail N7) N7
noncomputable def c9I (cb:Cb) (N:Nat) (call:j5) (v0:Value):M CR:=
 cb.bc CR (call 178 [v0,(.string ⟨⟨[100, 49, 54]⟩⟩)]) (fun v8=>
 cb.bj CR (bcase (O7 false v8) (cb.bc R2 (call 178 [v0,(.string ⟨⟨[101, 49, 54]⟩⟩)]) (fun v11=>
 M.pure (.normal, [v0,v11])) N7) (M.pure (.normal, [undef,undef]))) fun x9 vs10=>M5 x9 (cb.bv CR (X0 v8 (.bool true) (d9 vs10 1)) fun v12=>
 K3 v12 (
 M.pure (.ret (.int .i64 (.ofNat 2)))) (
 c8s cb N call v0)) (fun _=>M.fail) M.fail N7) N7
noncomputable def c7P (cb:Cb) (N:Nat) (call:j5) (v0:Value):M CR:=
 cb.bc CR (call 178 [v0,(.string ⟨⟨[100, 56]⟩⟩)]) (fun v3=>
 cb.bj CR (bcase (O7 false v3) (cb.bc R2 (call 178 [v0,(.string ⟨⟨[101, 56]⟩⟩)]) (fun v6=>
 M.pure (.normal, [v0,v6])) N7) (M.pure (.normal, [undef,undef]))) fun x4 vs5=>M5 x4 (cb.bv CR (X0 v3 (.bool true) (d9 vs5 1)) fun v7=>
 K3 v7 (
 M.pure (.ret (.int .i64 (.ofNat 1)))) (
 c9I cb N call v0)) (fun _=>M.fail) M.fail N7) N7
noncomputable def c5M (cb:Cb) (N:Nat) (call:j5) (a0:Value):M CR:=
 cb.bc CR (call 45 [a0]) (fun v0=>
 cb.bc CR (call 46 [a0]) (fun v1=>
 cb.bv CR (bn .neq 3 (.tmp 7) (.const (.int .i64 (.ofNat 17))) v1 (.int .i64 (.ofNat 17))) fun v2=>
 K3 v2 (
 M.pure (.ret (.int .i64 (.ofNat 0)))) (
 c7P cb N call v0)) N7) N7
theorem c4h (cb:Cb) (N:Nat) (call:j5) (a0:Value):a0i Tryz.prog Q6 cb false N call Tryz.f128 e1y d5b [a0]=c5M cb N call a0:=by kernel_rfl
noncomputable def e2j:Code:=a0x Tryz.f172
noncomputable def d5A:Pl:=.d
noncomputable def d0b (cb:Cb) (N:Nat) (call:j5) (v0:Value) (v1:Value) (v2:Value) (v3:Value) (v4:Value) (v5:Value) (v6:Value) (v7:Value) (v8:Value) (v9:Value) (v10:Value) (v11:Value) (v12:Value) (v13:Value) (v14:Value) (v15:Value) (v16:Value) (v17:Value) (v18:Value) (v19:Value) (v20:Value) (v21:Value) (v22:Value):M CR:=
 cb.bv CR (a2p 3 23 [(0, 3),(3, 3),(6, 3),(9, 3),(12, 3),(15, 3),(18, 3),(21, 3),(24, 3),(27, 3),(30, 3),(33, 3),(36, 3),(39, 3),(42, 3),(45, 3),(48, 3),(51, 3),(54, 3),(57, 3),(60, 3),(63, 3),(66, 3)] [v0,v1,v2,v3,v4,v5,v6,v7,v8,v9,v10,v11,v12,v13,v14,v15,v16,v17,v18,v19,v20,v21,v22] [(.int .i64 (.ofNat 0)),(.string ⟨⟨[]⟩⟩),(.int .i64 (.ofNat 0)),(.int .i64 (.ofNat 0)),(.string ⟨⟨[]⟩⟩),(.int .i64 (.ofNat 0)),(.int .i64 (.ofNat 0)),(.string ⟨⟨[]⟩⟩),(.int .i64 (.ofNat 0)),(.int .i64 (.ofNat 0)),(.string ⟨⟨[]⟩⟩),(.int .i64 (.ofNat 0)),(.int .i64 (.ofNat 0)),(.string ⟨⟨[]⟩⟩),(.int .i64 (.ofNat 0)),(.int .i64 (.ofNat 0)),(.string ⟨⟨[]⟩⟩),(.int .i64 (.ofNat 0)),(.int .i64 (.ofNat 0)),(.string ⟨⟨[]⟩⟩),(.int .i64 (.ofNat 0)),(.int .i64 (.ofNat 0)),(.string ⟨⟨[]⟩⟩),(.int .i64 (.ofNat 0)),(.int .i64 (.ofNat 0)),(.string ⟨⟨[]⟩⟩),(.int .i64 (.ofNat 0)),(.int .i64 (.ofNat 0)),(.string ⟨⟨[]⟩⟩),(.int .i64 (.ofNat 0)),(.int .i64 (.ofNat 0)),(.string ⟨⟨[]⟩⟩),(.int .i64 (.ofNat 0)),(.int .i64 (.ofNat 0)),(.string ⟨⟨[]⟩⟩),(.int .i64 (.ofNat 0)),(.int .i64 (.ofNat 0)),(.string ⟨⟨[]⟩⟩),(.int .i64 (.ofNat 0)),(.int .i64 (.ofNat 0)),(.string ⟨⟨[]⟩⟩),(.int .i64 (.ofNat 0)),(.int .i64 (.ofNat 0)),(.string ⟨⟨[]⟩⟩),(.int .i64 (.ofNat 0)),(.int .i64 (.ofNat 0)),(.string ⟨⟨[]⟩⟩),(.int .i64 (.ofNat 0)),(.int .i64 (.ofNat 0)),(.string ⟨⟨[]⟩⟩),(.int .i64 (.ofNat 0)),(.int .i64 (.ofNat 0)),(.string ⟨⟨[]⟩⟩),(.int .i64 (.ofNat 0)),(.int .i64 (.ofNat 0)),(.string ⟨⟨[]⟩⟩),(.int .i64 (.ofNat 0)),(.int .i64 (.ofNat 0)),(.string ⟨⟨[]⟩⟩),(.int .i64 (.ofNat 0)),(.int .i64 (.ofNat 0)),(.string ⟨⟨[]⟩⟩),(.int .i64 (.ofNat 0)),(.int .i64 (.ofNat 0)),(.string ⟨⟨[]⟩⟩),(.int .i64 (.ofNat 0)),(.int .i64 (.ofNat 0)),(.string ⟨⟨[]⟩⟩),(.int .i64 (.ofNat 0))]) fun v23=>
 M.pure (.ret v23)
noncomputable def d0i (cb:Cb) (N:Nat) (call:j5) (v0:Value) (v1:Value) (v2:Value) (v3:Value) (v4:Value) (v5:Value) (v6:Value) (v7:Value) (v8:Value) (v9:Value) (v10:Value) (v11:Value) (v12:Value) (v13:Value) (v14:Value) (v15:Value) (v16:Value) (v17:Value) (v18:Value) (v19:Value) (v20:Value):M CR:=
 cb.bv CR (a0c [(0, 1),(1, 1),(2, 1)] [(.int .i64 (.ofNat 37)),(.string ⟨⟨[116, 97, 98, 108, 101, 46, 103, 101, 116]⟩⟩),(.int .i64 (.ofNat 9))] [(.int .i64 (.ofNat 0)),(.string ⟨⟨[]⟩⟩),(.int .i64 (.ofNat 0))]) fun v21=>
 cb.bv CR (a0c [(0, 1),(1, 1),(2, 1)] [(.int .i64 (.ofNat 38)),(.string ⟨⟨[116, 97, 98, 108, 101, 46, 115, 101, 116]⟩⟩),(.int .i64 (.ofNat 9))] [(.int .i64 (.ofNat 0)),(.string ⟨⟨[]⟩⟩),(.int .i64 (.ofNat 0))]) fun v22=>
 d0b cb N call v0 v1 v2 v3 v4 v5 v6 v7 v8 v9 v10 v11 v12 v13 v14 v15 v16 v17 v18 v19 v20 v21 v22
noncomputable def d0P (cb:Cb) (N:Nat) (call:j5) (v0:Value) (v1:Value) (v2:Value) (v3:Value) (v4:Value) (v5:Value) (v6:Value) (v7:Value) (v8:Value) (v9:Value) (v10:Value) (v11:Value) (v12:Value) (v13:Value) (v14:Value) (v15:Value) (v16:Value) (v17:Value) (v18:Value):M CR:=
 cb.bv CR (a0c [(0, 1),(1, 1),(2, 1)] [(.int .i64 (.ofNat 35)),(.string ⟨⟨[103, 108, 111, 98, 97, 108, 46, 103, 101, 116]⟩⟩),(.int .i64 (.ofNat 8))] [(.int .i64 (.ofNat 0)),(.string ⟨⟨[]⟩⟩),(.int .i64 (.ofNat 0))]) fun v19=>
 cb.bv CR (a0c [(0, 1),(1, 1),(2, 1)] [(.int .i64 (.ofNat 36)),(.string ⟨⟨[103, 108, 111, 98, 97, 108, 46, 115, 101, 116]⟩⟩),(.int .i64 (.ofNat 8))] [(.int .i64 (.ofNat 0)),(.string ⟨⟨[]⟩⟩),(.int .i64 (.ofNat 0))]) fun v20=>
 d0i cb N call v0 v1 v2 v3 v4 v5 v6 v7 v8 v9 v10 v11 v12 v13 v14 v15 v16 v17 v18 v19 v20
noncomputable def d0X (cb:Cb) (N:Nat) (call:j5) (v0:Value) (v1:Value) (v2:Value) (v3:Value) (v4:Value) (v5:Value) (v6:Value) (v7:Value) (v8:Value) (v9:Value) (v10:Value) (v11:Value) (v12:Value) (v13:Value) (v14:Value) (v15:Value) (v16:Value):M CR:=
 cb.bv CR (a0c [(0, 1),(1, 1),(2, 1)] [(.int .i64 (.ofNat 33)),(.string ⟨⟨[108, 111, 99, 97, 108, 46, 115, 101, 116]⟩⟩),(.int .i64 (.ofNat 7))] [(.int .i64 (.ofNat 0)),(.string ⟨⟨[]⟩⟩),(.int .i64 (.ofNat 0))]) fun v17=>
 cb.bv CR (a0c [(0, 1),(1, 1),(2, 1)] [(.int .i64 (.ofNat 34)),(.string ⟨⟨[108, 111, 99, 97, 108, 46, 116, 101, 101]⟩⟩),(.int .i64 (.ofNat 7))] [(.int .i64 (.ofNat 0)),(.string ⟨⟨[]⟩⟩),(.int .i64 (.ofNat 0))]) fun v18=>
 d0P cb N call v0 v1 v2 v3 v4 v5 v6 v7 v8 v9 v10 v11 v12 v13 v14 v15 v16 v17 v18
noncomputable def c8k (cb:Cb) (N:Nat) (call:j5) (v0:Value) (v1:Value) (v2:Value) (v3:Value) (v4:Value) (v5:Value) (v6:Value) (v7:Value) (v8:Value) (v9:Value) (v10:Value) (v11:Value) (v12:Value) (v13:Value) (v14:Value):M CR:=
 cb.bv CR (a0c [(0, 1),(1, 1),(2, 1)] [(.int .i64 (.ofNat 28)),(.string ⟨⟨[115, 101, 108, 101, 99, 116]⟩⟩),(.int .i64 (.ofNat 6))] [(.int .i64 (.ofNat 0)),(.string ⟨⟨[]⟩⟩),(.int .i64 (.ofNat 0))]) fun v15=>
 cb.bv CR (a0c [(0, 1),(1, 1),(2, 1)] [(.int .i64 (.ofNat 32)),(.string ⟨⟨[108, 111, 99, 97, 108, 46, 103, 101, 116]⟩⟩),(.int .i64 (.ofNat 7))] [(.int .i64 (.ofNat 0)),(.string ⟨⟨[]⟩⟩),(.int .i64 (.ofNat 0))]) fun v16=>
 d0X cb N call v0 v1 v2 v3 v4 v5 v6 v7 v8 v9 v10 v11 v12 v13 v14 v15 v16
noncomputable def c9t (cb:Cb) (N:Nat) (call:j5) (v0:Value) (v1:Value) (v2:Value) (v3:Value) (v4:Value) (v5:Value) (v6:Value) (v7:Value) (v8:Value) (v9:Value) (v10:Value) (v11:Value):M CR:=
 cb.bv CR (a0c [(0, 1),(1, 1),(2, 1)] [(.int .i64 (.ofNat 17)),(.string ⟨⟨[99, 97, 108, 108, 95, 105, 110, 100, 105, 114, 101, 99, 116]⟩⟩),(.int .i64 (.ofNat 5))] [(.int .i64 (.ofNat 0)),(.string ⟨⟨[]⟩⟩),(.int .i64 (.ofNat 0))]) fun v12=>
 cb.bv CR (a0c [(0, 1),(1, 1),(2, 1)] [(.int .i64 (.ofNat 26)),(.string ⟨⟨[100, 114, 111, 112]⟩⟩),(.int .i64 (.ofNat 0))] [(.int .i64 (.ofNat 0)),(.string ⟨⟨[]⟩⟩),(.int .i64 (.ofNat 0))]) fun v13=>
 cb.bv CR (a0c [(0, 1),(1, 1),(2, 1)] [(.int .i64 (.ofNat 27)),(.string ⟨⟨[115, 101, 108, 101, 99, 116]⟩⟩),(.int .i64 (.ofNat 0))] [(.int .i64 (.ofNat 0)),(.string ⟨⟨[]⟩⟩),(.int .i64 (.ofNat 0))]) fun v14=>
 c8k cb N call v0 v1 v2 v3 v4 v5 v6 v7 v8 v9 v10 v11 v12 v13 v14
noncomputable def d0x (cb:Cb) (N:Nat) (call:j5) (v0:Value) (v1:Value) (v2:Value) (v3:Value) (v4:Value) (v5:Value) (v6:Value) (v7:Value) (v8:Value):M CR:=
 cb.bv CR (a0c [(0, 1),(1, 1),(2, 1)] [(.int .i64 (.ofNat 14)),(.string ⟨⟨[98, 114, 95, 116, 97, 98, 108, 101]⟩⟩),(.int .i64 (.ofNat 3))] [(.int .i64 (.ofNat 0)),(.string ⟨⟨[]⟩⟩),(.int .i64 (.ofNat 0))]) fun v9=>
 cb.bv CR (a0c [(0, 1),(1, 1),(2, 1)] [(.int .i64 (.ofNat 15)),(.string ⟨⟨[114, 101, 116, 117, 114, 110]⟩⟩),(.int .i64 (.ofNat 0))] [(.int .i64 (.ofNat 0)),(.string ⟨⟨[]⟩⟩),(.int .i64 (.ofNat 0))]) fun v10=>
 cb.bv CR (a0c [(0, 1),(1, 1),(2, 1)] [(.int .i64 (.ofNat 16)),(.string ⟨⟨[99, 97, 108, 108]⟩⟩),(.int .i64 (.ofNat 4))] [(.int .i64 (.ofNat 0)),(.string ⟨⟨[]⟩⟩),(.int .i64 (.ofNat 0))]) fun v11=>
 c9t cb N call v0 v1 v2 v3 v4 v5 v6 v7 v8 v9 v10 v11
noncomputable def d0k (cb:Cb) (N:Nat) (call:j5) (v0:Value) (v1:Value) (v2:Value) (v3:Value) (v4:Value) (v5:Value):M CR:=
 cb.bv CR (a0c [(0, 1),(1, 1),(2, 1)] [(.int .i64 (.ofNat 11)),(.string ⟨⟨[101, 110, 100]⟩⟩),(.int .i64 (.ofNat 0))] [(.int .i64 (.ofNat 0)),(.string ⟨⟨[]⟩⟩),(.int .i64 (.ofNat 0))]) fun v6=>
 cb.bv CR (a0c [(0, 1),(1, 1),(2, 1)] [(.int .i64 (.ofNat 12)),(.string ⟨⟨[98, 114]⟩⟩),(.int .i64 (.ofNat 2))] [(.int .i64 (.ofNat 0)),(.string ⟨⟨[]⟩⟩),(.int .i64 (.ofNat 0))]) fun v7=>
 cb.bv CR (a0c [(0, 1),(1, 1),(2, 1)] [(.int .i64 (.ofNat 13)),(.string ⟨⟨[98, 114, 95, 105, 102]⟩⟩),(.int .i64 (.ofNat 2))] [(.int .i64 (.ofNat 0)),(.string ⟨⟨[]⟩⟩),(.int .i64 (.ofNat 0))]) fun v8=>
 d0x cb N call v0 v1 v2 v3 v4 v5 v6 v7 v8
noncomputable def c8C (cb:Cb) (N:Nat) (call:j5) (v0:Value) (v1:Value) (v2:Value):M CR:=
 cb.bv CR (a0c [(0, 1),(1, 1),(2, 1)] [(.int .i64 (.ofNat 3)),(.string ⟨⟨[108, 111, 111, 112]⟩⟩),(.int .i64 (.ofNat 1))] [(.int .i64 (.ofNat 0)),(.string ⟨⟨[]⟩⟩),(.int .i64 (.ofNat 0))]) fun v3=>
 cb.bv CR (a0c [(0, 1),(1, 1),(2, 1)] [(.int .i64 (.ofNat 4)),(.string ⟨⟨[105, 102]⟩⟩),(.int .i64 (.ofNat 1))] [(.int .i64 (.ofNat 0)),(.string ⟨⟨[]⟩⟩),(.int .i64 (.ofNat 0))]) fun v4=>
 cb.bv CR (a0c [(0, 1),(1, 1),(2, 1)] [(.int .i64 (.ofNat 5)),(.string ⟨⟨[101, 108, 115, 101]⟩⟩),(.int .i64 (.ofNat 0))] [(.int .i64 (.ofNat 0)),(.string ⟨⟨[]⟩⟩),(.int .i64 (.ofNat 0))]) fun v5=>
 d0k cb N call v0 v1 v2 v3 v4 v5
noncomputable def c4W (cb:Cb) (N:Nat) (call:j5):M CR:=
 cb.bv CR (a0c [(0, 1),(1, 1),(2, 1)] [(.int .i64 (.ofNat 0)),(.string ⟨⟨[117, 110, 114, 101, 97, 99, 104, 97, 98, 108, 101]⟩⟩),(.int .i64 (.ofNat 0))] [(.int .i64 (.ofNat 0)),(.string ⟨⟨[]⟩⟩),(.int .i64 (.ofNat 0))]) fun v0=>
 cb.bv CR (a0c [(0, 1),(1, 1),(2, 1)] [(.int .i64 (.ofNat 1)),(.string ⟨⟨[110, 111, 112]⟩⟩),(.int .i64 (.ofNat 0))] [(.int .i64 (.ofNat 0)),(.string ⟨⟨[]⟩⟩),(.int .i64 (.ofNat 0))]) fun v1=>
 cb.bv CR (a0c [(0, 1),(1, 1),(2, 1)] [(.int .i64 (.ofNat 2)),(.string ⟨⟨[98, 108, 111, 99, 107]⟩⟩),(.int .i64 (.ofNat 1))] [(.int .i64 (.ofNat 0)),(.string ⟨⟨[]⟩⟩),(.int .i64 (.ofNat 0))]) fun v2=>
 c8C cb N call v0 v1 v2
theorem c3Y (cb:Cb) (N:Nat) (call:j5):a0i Tryz.prog Q6 cb false N call Tryz.f172 e2j d5A []=c4W cb N call:=by kernel_rfl
noncomputable def e1t:Code:=a0x Tryz.f173
noncomputable def d6O:Pl:=.d
noncomputable def c9Z (cb:Cb) (N:Nat) (call:j5) (v0:Value) (v1:Value) (v2:Value) (v3:Value) (v4:Value) (v5:Value) (v6:Value) (v7:Value) (v8:Value) (v9:Value) (v10:Value) (v11:Value) (v12:Value) (v13:Value) (v14:Value) (v15:Value) (v16:Value) (v17:Value) (v18:Value) (v19:Value) (v20:Value) (v21:Value) (v22:Value):M CR:=
 cb.bv CR (a2p 3 23 [(0, 3),(3, 3),(6, 3),(9, 3),(12, 3),(15, 3),(18, 3),(21, 3),(24, 3),(27, 3),(30, 3),(33, 3),(36, 3),(39, 3),(42, 3),(45, 3),(48, 3),(51, 3),(54, 3),(57, 3),(60, 3),(63, 3),(66, 3)] [v0,v1,v2,v3,v4,v5,v6,v7,v8,v9,v10,v11,v12,v13,v14,v15,v16,v17,v18,v19,v20,v21,v22] [(.int .i64 (.ofNat 0)),(.string ⟨⟨[]⟩⟩),(.int .i64 (.ofNat 0)),(.int .i64 (.ofNat 0)),(.string ⟨⟨[]⟩⟩),(.int .i64 (.ofNat 0)),(.int .i64 (.ofNat 0)),(.string ⟨⟨[]⟩⟩),(.int .i64 (.ofNat 0)),(.int .i64 (.ofNat 0)),(.string ⟨⟨[]⟩⟩),(.int .i64 (.ofNat 0)),(.int .i64 (.ofNat 0)),(.string ⟨⟨[]⟩⟩),(.int .i64 (.ofNat 0)),(.int .i64 (.ofNat 0)),(.string ⟨⟨[]⟩⟩),(.int .i64 (.ofNat 0)),(.int .i64 (.ofNat 0)),(.string ⟨⟨[]⟩⟩),(.int .i64 (.ofNat 0)),(.int .i64 (.ofNat 0)),(.string ⟨⟨[]⟩⟩),(.int .i64 (.ofNat 0)),(.int .i64 (.ofNat 0)),(.string ⟨⟨[]⟩⟩),(.int .i64 (.ofNat 0)),(.int .i64 (.ofNat 0)),(.string ⟨⟨[]⟩⟩),(.int .i64 (.ofNat 0)),(.int .i64 (.ofNat 0)),(.string ⟨⟨[]⟩⟩),(.int .i64 (.ofNat 0)),(.int .i64 (.ofNat 0)),(.string ⟨⟨[]⟩⟩),(.int .i64 (.ofNat 0)),(.int .i64 (.ofNat 0)),(.string ⟨⟨[]⟩⟩),(.int .i64 (.ofNat 0)),(.int .i64 (.ofNat 0)),(.string ⟨⟨[]⟩⟩),(.int .i64 (.ofNat 0)),(.int .i64 (.ofNat 0)),(.string ⟨⟨[]⟩⟩),(.int .i64 (.ofNat 0)),(.int .i64 (.ofNat 0)),(.string ⟨⟨[]⟩⟩),(.int .i64 (.ofNat 0)),(.int .i64 (.ofNat 0)),(.string ⟨⟨[]⟩⟩),(.int .i64 (.ofNat 0)),(.int .i64 (.ofNat 0)),(.string ⟨⟨[]⟩⟩),(.int .i64 (.ofNat 0)),(.int .i64 (.ofNat 0)),(.string ⟨⟨[]⟩⟩),(.int .i64 (.ofNat 0)),(.int .i64 (.ofNat 0)),(.string ⟨⟨[]⟩⟩),(.int .i64 (.ofNat 0)),(.int .i64 (.ofNat 0)),(.string ⟨⟨[]⟩⟩),(.int .i64 (.ofNat 0)),(.int .i64 (.ofNat 0)),(.string ⟨⟨[]⟩⟩),(.int .i64 (.ofNat 0)),(.int .i64 (.ofNat 0)),(.string ⟨⟨[]⟩⟩),(.int .i64 (.ofNat 0))]) fun v23=>
 M.pure (.ret v23)
noncomputable def c9Q (cb:Cb) (N:Nat) (call:j5) (v0:Value) (v1:Value) (v2:Value) (v3:Value) (v4:Value) (v5:Value) (v6:Value) (v7:Value) (v8:Value) (v9:Value) (v10:Value) (v11:Value) (v12:Value) (v13:Value) (v14:Value) (v15:Value) (v16:Value) (v17:Value) (v18:Value) (v19:Value) (v20:Value):M CR:=
 cb.bv CR (a0c [(0, 1),(1, 1),(2, 1)] [(.int .i64 (.ofNat 65)),(.string ⟨⟨[105, 51, 50, 46, 99, 111, 110, 115, 116]⟩⟩),(.int .i64 (.ofNat 18))] [(.int .i64 (.ofNat 0)),(.string ⟨⟨[]⟩⟩),(.int .i64 (.ofNat 0))]) fun v21=>
 cb.bv CR (a0c [(0, 1),(1, 1),(2, 1)] [(.int .i64 (.ofNat 66)),(.string ⟨⟨[105, 54, 52, 46, 99, 111, 110, 115, 116]⟩⟩),(.int .i64 (.ofNat 19))] [(.int .i64 (.ofNat 0)),(.string ⟨⟨[]⟩⟩),(.int .i64 (.ofNat 0))]) fun v22=>
 c9Z cb N call v0 v1 v2 v3 v4 v5 v6 v7 v8 v9 v10 v11 v12 v13 v14 v15 v16 v17 v18 v19 v20 v21 v22
noncomputable def c8K (cb:Cb) (N:Nat) (call:j5) (v0:Value) (v1:Value) (v2:Value) (v3:Value) (v4:Value) (v5:Value) (v6:Value) (v7:Value) (v8:Value) (v9:Value) (v10:Value) (v11:Value) (v12:Value) (v13:Value) (v14:Value) (v15:Value) (v16:Value) (v17:Value) (v18:Value):M CR:=
 cb.bv CR (a0c [(0, 1),(1, 1),(2, 1)] [(.int .i64 (.ofNat 63)),(.string ⟨⟨[109, 101, 109, 111, 114, 121, 46, 115, 105, 122, 101]⟩⟩),(.int .i64 (.ofNat 13))] [(.int .i64 (.ofNat 0)),(.string ⟨⟨[]⟩⟩),(.int .i64 (.ofNat 0))]) fun v19=>
 cb.bv CR (a0c [(0, 1),(1, 1),(2, 1)] [(.int .i64 (.ofNat 64)),(.string ⟨⟨[109, 101, 109, 111, 114, 121, 46, 103, 114, 111, 119]⟩⟩),(.int .i64 (.ofNat 13))] [(.int .i64 (.ofNat 0)),(.string ⟨⟨[]⟩⟩),(.int .i64 (.ofNat 0))]) fun v20=>
 c9Q cb N call v0 v1 v2 v3 v4 v5 v6 v7 v8 v9 v10 v11 v12 v13 v14 v15 v16 v17 v18 v19 v20
noncomputable def c7J (cb:Cb) (N:Nat) (call:j5) (v0:Value) (v1:Value) (v2:Value) (v3:Value) (v4:Value) (v5:Value) (v6:Value) (v7:Value) (v8:Value) (v9:Value) (v10:Value) (v11:Value) (v12:Value) (v13:Value) (v14:Value) (v15:Value) (v16:Value):M CR:=
 cb.bv CR (a0c [(0, 1),(1, 1),(2, 1)] [(.int .i64 (.ofNat 61)),(.string ⟨⟨[105, 54, 52, 46, 115, 116, 111, 114, 101, 49, 54]⟩⟩),(.int .i64 (.ofNat 17))] [(.int .i64 (.ofNat 0)),(.string ⟨⟨[]⟩⟩),(.int .i64 (.ofNat 0))]) fun v17=>
 cb.bv CR (a0c [(0, 1),(1, 1),(2, 1)] [(.int .i64 (.ofNat 62)),(.string ⟨⟨[105, 54, 52, 46, 115, 116, 111, 114, 101, 51, 50]⟩⟩),(.int .i64 (.ofNat 17))] [(.int .i64 (.ofNat 0)),(.string ⟨⟨[]⟩⟩),(.int .i64 (.ofNat 0))]) fun v18=>
 c8K cb N call v0 v1 v2 v3 v4 v5 v6 v7 v8 v9 v10 v11 v12 v13 v14 v15 v16 v17 v18
noncomputable def c9w (cb:Cb) (N:Nat) (call:j5) (v0:Value) (v1:Value) (v2:Value) (v3:Value) (v4:Value) (v5:Value) (v6:Value) (v7:Value) (v8:Value) (v9:Value) (v10:Value) (v11:Value) (v12:Value) (v13:Value) (v14:Value):M CR:=
 cb.bv CR (a0c [(0, 1),(1, 1),(2, 1)] [(.int .i64 (.ofNat 59)),(.string ⟨⟨[105, 51, 50, 46, 115, 116, 111, 114, 101, 49, 54]⟩⟩),(.int .i64 (.ofNat 17))] [(.int .i64 (.ofNat 0)),(.string ⟨⟨[]⟩⟩),(.int .i64 (.ofNat 0))]) fun v15=>
 cb.bv CR (a0c [(0, 1),(1, 1),(2, 1)] [(.int .i64 (.ofNat 60)),(.string ⟨⟨[105, 54, 52, 46, 115, 116, 111, 114, 101, 56]⟩⟩),(.int .i64 (.ofNat 17))] [(.int .i64 (.ofNat 0)),(.string ⟨⟨[]⟩⟩),(.int .i64 (.ofNat 0))]) fun v16=>
 c7J cb N call v0 v1 v2 v3 v4 v5 v6 v7 v8 v9 v10 v11 v12 v13 v14 v15 v16
noncomputable def c9Y (cb:Cb) (N:Nat) (call:j5) (v0:Value) (v1:Value) (v2:Value) (v3:Value) (v4:Value) (v5:Value) (v6:Value) (v7:Value) (v8:Value) (v9:Value) (v10:Value) (v11:Value) (v12:Value):M CR:=
 cb.bv CR (a0c [(0, 1),(1, 1),(2, 1)] [(.int .i64 (.ofNat 55)),(.string ⟨⟨[105, 54, 52, 46, 115, 116, 111, 114, 101]⟩⟩),(.int .i64 (.ofNat 17))] [(.int .i64 (.ofNat 0)),(.string ⟨⟨[]⟩⟩),(.int .i64 (.ofNat 0))]) fun v13=>
 cb.bv CR (a0c [(0, 1),(1, 1),(2, 1)] [(.int .i64 (.ofNat 58)),(.string ⟨⟨[105, 51, 50, 46, 115, 116, 111, 114, 101, 56]⟩⟩),(.int .i64 (.ofNat 17))] [(.int .i64 (.ofNat 0)),(.string ⟨⟨[]⟩⟩),(.int .i64 (.ofNat 0))]) fun v14=>
 c9w cb N call v0 v1 v2 v3 v4 v5 v6 v7 v8 v9 v10 v11 v12 v13 v14
noncomputable def d1f (cb:Cb) (N:Nat) (call:j5) (v0:Value) (v1:Value) (v2:Value) (v3:Value) (v4:Value) (v5:Value) (v6:Value) (v7:Value) (v8:Value) (v9:Value) (v10:Value):M CR:=
 cb.bv CR (a0c [(0, 1),(1, 1),(2, 1)] [(.int .i64 (.ofNat 53)),(.string ⟨⟨[105, 54, 52, 46, 108, 111, 97, 100, 51, 50, 95, 117]⟩⟩),(.int .i64 (.ofNat 17))] [(.int .i64 (.ofNat 0)),(.string ⟨⟨[]⟩⟩),(.int .i64 (.ofNat 0))]) fun v11=>
 cb.bv CR (a0c [(0, 1),(1, 1),(2, 1)] [(.int .i64 (.ofNat 54)),(.string ⟨⟨[105, 51, 50, 46, 115, 116, 111, 114, 101]⟩⟩),(.int .i64 (.ofNat 17))] [(.int .i64 (.ofNat 0)),(.string ⟨⟨[]⟩⟩),(.int .i64 (.ofNat 0))]) fun v12=>
 c9Y cb N call v0 v1 v2 v3 v4 v5 v6 v7 v8 v9 v10 v11 v12
noncomputable def d0C (cb:Cb) (N:Nat) (call:j5) (v0:Value) (v1:Value) (v2:Value) (v3:Value) (v4:Value) (v5:Value) (v6:Value) (v7:Value) (v8:Value):M CR:=
 cb.bv CR (a0c [(0, 1),(1, 1),(2, 1)] [(.int .i64 (.ofNat 51)),(.string ⟨⟨[105, 54, 52, 46, 108, 111, 97, 100, 49, 54, 95, 117]⟩⟩),(.int .i64 (.ofNat 17))] [(.int .i64 (.ofNat 0)),(.string ⟨⟨[]⟩⟩),(.int .i64 (.ofNat 0))]) fun v9=>
 cb.bv CR (a0c [(0, 1),(1, 1),(2, 1)] [(.int .i64 (.ofNat 52)),(.string ⟨⟨[105, 54, 52, 46, 108, 111, 97, 100, 51, 50, 95, 115]⟩⟩),(.int .i64 (.ofNat 17))] [(.int .i64 (.ofNat 0)),(.string ⟨⟨[]⟩⟩),(.int .i64 (.ofNat 0))]) fun v10=>
 d1f cb N call v0 v1 v2 v3 v4 v5 v6 v7 v8 v9 v10
noncomputable def c9z (cb:Cb) (N:Nat) (call:j5) (v0:Value) (v1:Value) (v2:Value) (v3:Value) (v4:Value) (v5:Value) (v6:Value):M CR:=
 cb.bv CR (a0c [(0, 1),(1, 1),(2, 1)] [(.int .i64 (.ofNat 49)),(.string ⟨⟨[105, 54, 52, 46, 108, 111, 97, 100, 56, 95, 117]⟩⟩),(.int .i64 (.ofNat 17))] [(.int .i64 (.ofNat 0)),(.string ⟨⟨[]⟩⟩),(.int .i64 (.ofNat 0))]) fun v7=>
 cb.bv CR (a0c [(0, 1),(1, 1),(2, 1)] [(.int .i64 (.ofNat 50)),(.string ⟨⟨[105, 54, 52, 46, 108, 111, 97, 100, 49, 54, 95, 115]⟩⟩),(.int .i64 (.ofNat 17))] [(.int .i64 (.ofNat 0)),(.string ⟨⟨[]⟩⟩),(.int .i64 (.ofNat 0))]) fun v8=>
 d0C cb N call v0 v1 v2 v3 v4 v5 v6 v7 v8
noncomputable def c7T (cb:Cb) (N:Nat) (call:j5) (v0:Value) (v1:Value) (v2:Value) (v3:Value) (v4:Value):M CR:=
 cb.bv CR (a0c [(0, 1),(1, 1),(2, 1)] [(.int .i64 (.ofNat 47)),(.string ⟨⟨[105, 51, 50, 46, 108, 111, 97, 100, 49, 54, 95, 117]⟩⟩),(.int .i64 (.ofNat 17))] [(.int .i64 (.ofNat 0)),(.string ⟨⟨[]⟩⟩),(.int .i64 (.ofNat 0))]) fun v5=>
 cb.bv CR (a0c [(0, 1),(1, 1),(2, 1)] [(.int .i64 (.ofNat 48)),(.string ⟨⟨[105, 54, 52, 46, 108, 111, 97, 100, 56, 95, 115]⟩⟩),(.int .i64 (.ofNat 17))] [(.int .i64 (.ofNat 0)),(.string ⟨⟨[]⟩⟩),(.int .i64 (.ofNat 0))]) fun v6=>
 c9z cb N call v0 v1 v2 v3 v4 v5 v6
noncomputable def c7k (cb:Cb) (N:Nat) (call:j5) (v0:Value) (v1:Value) (v2:Value):M CR:=
 cb.bv CR (a0c [(0, 1),(1, 1),(2, 1)] [(.int .i64 (.ofNat 45)),(.string ⟨⟨[105, 51, 50, 46, 108, 111, 97, 100, 56, 95, 117]⟩⟩),(.int .i64 (.ofNat 17))] [(.int .i64 (.ofNat 0)),(.string ⟨⟨[]⟩⟩),(.int .i64 (.ofNat 0))]) fun v3=>
 cb.bv CR (a0c [(0, 1),(1, 1),(2, 1)] [(.int .i64 (.ofNat 46)),(.string ⟨⟨[105, 51, 50, 46, 108, 111, 97, 100, 49, 54, 95, 115]⟩⟩),(.int .i64 (.ofNat 17))] [(.int .i64 (.ofNat 0)),(.string ⟨⟨[]⟩⟩),(.int .i64 (.ofNat 0))]) fun v4=>
 c7T cb N call v0 v1 v2 v3 v4
noncomputable def c5n (cb:Cb) (N:Nat) (call:j5):M CR:=
 cb.bv CR (a0c [(0, 1),(1, 1),(2, 1)] [(.int .i64 (.ofNat 40)),(.string ⟨⟨[105, 51, 50, 46, 108, 111, 97, 100]⟩⟩),(.int .i64 (.ofNat 17))] [(.int .i64 (.ofNat 0)),(.string ⟨⟨[]⟩⟩),(.int .i64 (.ofNat 0))]) fun v0=>
 cb.bv CR (a0c [(0, 1),(1, 1),(2, 1)] [(.int .i64 (.ofNat 41)),(.string ⟨⟨[105, 54, 52, 46, 108, 111, 97, 100]⟩⟩),(.int .i64 (.ofNat 17))] [(.int .i64 (.ofNat 0)),(.string ⟨⟨[]⟩⟩),(.int .i64 (.ofNat 0))]) fun v1=>
 cb.bv CR (a0c [(0, 1),(1, 1),(2, 1)] [(.int .i64 (.ofNat 44)),(.string ⟨⟨[105, 51, 50, 46, 108, 111, 97, 100, 56, 95, 115]⟩⟩),(.int .i64 (.ofNat 17))] [(.int .i64 (.ofNat 0)),(.string ⟨⟨[]⟩⟩),(.int .i64 (.ofNat 0))]) fun v2=>
 c7k cb N call v0 v1 v2
theorem c3J (cb:Cb) (N:Nat) (call:j5):a0i Tryz.prog Q6 cb false N call Tryz.f173 e1t d6O []=c5n cb N call:=by kernel_rfl
noncomputable def e1X:Code:=a0x Tryz.f174
noncomputable def d4n:Pl:=(.s none .d (.s none .d (.s none (.s none .d (.s none (.l [9, 10, 11, 12, 15, 16, 17, 18, 19, 20, 21, 22, 23, 24, 25, 26, 27, 28, 7, 13, 14, 8] .d) .d)) .d)))
noncomputable def d0B (cb:Cb) (N:Nat) (call:j5) (v5:Value) (v9:Value) (xs0:List Value) (a2:Value) (v3:Value) (v4:Value) (a0:Value) (a1:Value) (v6:Value) (v7:Value) (v8:Value):M R2:=
 cb.bv R2 (a0c [(0, 1),(1, 1),(2, 1)] [v5,v9,(.int .i64 (.ofNat 0))] [(.int .i64 (.ofNat 0)),(.string ⟨⟨[]⟩⟩),(.int .i64 (.ofNat 0))]) fun v10=>
 cb.bv R2 (a2p 3 1 [(0, 3)] [v10] [(.int .i64 (.ofNat 0)),(.string ⟨⟨[]⟩⟩),(.int .i64 (.ofNat 0))]) fun v11=>
 cb.bv R2 (a4g a7D (d9 xs0 18) v11) fun v12=>
 cb.bv R2 (bn .add 3 (.tmp 13) (.const (.int .i64 (.ofNat 1))) (d9 xs0 21) (.int .i64 (.ofNat 1))) fun v13=>
 M.pure (.normal, [(d9 xs0 21),a2,v3,v4,(d9 xs0 18),a0,(d9 xs0 21),v5,a1,v6,a2,(d9 xs0 21),v7,v8,v9,v10,v11,v12,v12,(d9 xs0 21),v13,v13])
noncomputable def c8O (cb:Cb) (N:Nat) (call:j5) (a0:Value) (xs0:List Value) (a1:Value) (a2:Value) (v3:Value) (v4:Value):M R2:=
 cb.bv R2 (bn .add 22 (.tmp 16) (.tmp 17) a0 (d9 xs0 21)) fun v5=>
 cb.bv R2 (bn .add 9 (.tmp 19) (.const (.string ⟨⟨[46]⟩⟩)) a1 (.string ⟨⟨[46]⟩⟩)) fun v6=>
 cb.bv R2 (a5I 1 a2 (d9 xs0 21)) fun v7=>
 cb.bv R2 (K5 v7) fun v8=>
 cb.bv R2 (bn .add 9 (.tmp 20) (.tmp 24) v6 v8) fun v9=>
 d0B cb N call v5 v9 xs0 a2 v3 v4 a0 a1 v6 v7 v8
noncomputable def c8R (cb:Cb) (N:Nat) (call:j5) (xs0:List Value) (a2:Value) (v3:Value) (v4:Value):M R2:=
 M.pure (.exit 0, [(d9 xs0 21),a2,v3,v4,(d9 xs0 4),(d9 xs0 5),(d9 xs0 6),(d9 xs0 7),(d9 xs0 8),(d9 xs0 9),(d9 xs0 10),(d9 xs0 11),(d9 xs0 12),(d9 xs0 13),(d9 xs0 14),(d9 xs0 15),(d9 xs0 16),(d9 xs0 17),(d9 xs0 18),(d9 xs0 19),(d9 xs0 20),(d9 xs0 21)])
noncomputable def c9W (cb:Cb) (N:Nat) (call:j5) (a2:Value) (a0:Value) (a1:Value) (xs0:List Value):M R2:=
 cb.bv R2 (a4q a2) fun v3=>
 cb.bv R2 (bn .lss 3 (.tmp 9) (.tmp 11) (d9 xs0 21) v3) fun v4=>
 K3 v4 (
 c8O cb N call a0 xs0 a1 a2 v3 v4) (
 c8R cb N call xs0 a2 v3 v4)
noncomputable def c4G (cb:Cb) (N:Nat) (call:j5) (a0:Value) (a1:Value) (a2:Value):M CR:=
 cb.bj CR (cb.lp (c9W cb N call a2 a0 a1) N [undef,undef,undef,undef,undef,undef,undef,undef,undef,undef,undef,undef,undef,undef,undef,undef,undef,undef,(.slice none 0 0),undef,undef,(.int .i64 (.ofNat 0))]) fun x1 vs2=>
 M5 x1 (M.fail) (fun i14=>bcase (Nat.beq i14 0) (M.pure (.ret (d9 vs2 18))) (M.fail)) (M.fail) N7
theorem c4p (cb:Cb) (N:Nat) (call:j5) (a0:Value) (a1:Value) (a2:Value):a0i Tryz.prog Q6 cb false N call Tryz.f174 e1X d4n [a0,a1,a2]=c4G cb N call a0 a1 a2:=by kernel_rfl
noncomputable def e2H:Code:=a0x Tryz.f175
noncomputable def d6E:Pl:=.d
noncomputable def c5v (cb:Cb) (N:Nat) (call:j5):M CR:=
 cb.bv CR (a2p 1 11 [(0, 1),(1, 1),(2, 1),(3, 1),(4, 1),(5, 1),(6, 1),(7, 1),(8, 1),(9, 1),(10, 1)] [(.string ⟨⟨[101, 113, 122]⟩⟩),(.string ⟨⟨[101, 113]⟩⟩),(.string ⟨⟨[110, 101]⟩⟩),(.string ⟨⟨[108, 116, 95, 115]⟩⟩),(.string ⟨⟨[108, 116, 95, 117]⟩⟩),(.string ⟨⟨[103, 116, 95, 115]⟩⟩),(.string ⟨⟨[103, 116, 95, 117]⟩⟩),(.string ⟨⟨[108, 101, 95, 115]⟩⟩),(.string ⟨⟨[108, 101, 95, 117]⟩⟩),(.string ⟨⟨[103, 101, 95, 115]⟩⟩),(.string ⟨⟨[103, 101, 95, 117]⟩⟩)] [(.string ⟨⟨[]⟩⟩),(.string ⟨⟨[]⟩⟩),(.string ⟨⟨[]⟩⟩),(.string ⟨⟨[]⟩⟩),(.string ⟨⟨[]⟩⟩),(.string ⟨⟨[]⟩⟩),(.string ⟨⟨[]⟩⟩),(.string ⟨⟨[]⟩⟩),(.string ⟨⟨[]⟩⟩),(.string ⟨⟨[]⟩⟩),(.string ⟨⟨[]⟩⟩)]) fun v0=>
 M.pure (.ret v0)
theorem c4f (cb:Cb) (N:Nat) (call:j5):a0i Tryz.prog Q6 cb false N call Tryz.f175 e2H d6E []=c5v cb N call:=by kernel_rfl
noncomputable def e0N:Code:=a0x Tryz.f176
noncomputable def d3Q:Pl:=.d
noncomputable def c4Y (cb:Cb) (N:Nat) (call:j5):M CR:=
 cb.bv CR (a2p 1 18 [(0, 1),(1, 1),(2, 1),(3, 1),(4, 1),(5, 1),(6, 1),(7, 1),(8, 1),(9, 1),(10, 1),(11, 1),(12, 1),(13, 1),(14, 1),(15, 1),(16, 1),(17, 1)] [(.string ⟨⟨[99, 108, 122]⟩⟩),(.string ⟨⟨[99, 116, 122]⟩⟩),(.string ⟨⟨[112, 111, 112, 99, 110, 116]⟩⟩),(.string ⟨⟨[97, 100, 100]⟩⟩),(.string ⟨⟨[115, 117, 98]⟩⟩),(.string ⟨⟨[109, 117, 108]⟩⟩),(.string ⟨⟨[100, 105, 118, 95, 115]⟩⟩),(.string ⟨⟨[100, 105, 118, 95, 117]⟩⟩),(.string ⟨⟨[114, 101, 109, 95, 115]⟩⟩),(.string ⟨⟨[114, 101, 109, 95, 117]⟩⟩),(.string ⟨⟨[97, 110, 100]⟩⟩),(.string ⟨⟨[111, 114]⟩⟩),(.string ⟨⟨[120, 111, 114]⟩⟩),(.string ⟨⟨[115, 104, 108]⟩⟩),(.string ⟨⟨[115, 104, 114, 95, 115]⟩⟩),(.string ⟨⟨[115, 104, 114, 95, 117]⟩⟩),(.string ⟨⟨[114, 111, 116, 108]⟩⟩),(.string ⟨⟨[114, 111, 116, 114]⟩⟩)] [(.string ⟨⟨[]⟩⟩),(.string ⟨⟨[]⟩⟩),(.string ⟨⟨[]⟩⟩),(.string ⟨⟨[]⟩⟩),(.string ⟨⟨[]⟩⟩),(.string ⟨⟨[]⟩⟩),(.string ⟨⟨[]⟩⟩),(.string ⟨⟨[]⟩⟩),(.string ⟨⟨[]⟩⟩),(.string ⟨⟨[]⟩⟩),(.string ⟨⟨[]⟩⟩),(.string ⟨⟨[]⟩⟩),(.string ⟨⟨[]⟩⟩),(.string ⟨⟨[]⟩⟩),(.string ⟨⟨[]⟩⟩),(.string ⟨⟨[]⟩⟩),(.string ⟨⟨[]⟩⟩),(.string ⟨⟨[]⟩⟩)]) fun v0=>
 M.pure (.ret v0)
theorem c3S (cb:Cb) (N:Nat) (call:j5):a0i Tryz.prog Q6 cb false N call Tryz.f176 e0N d3Q []=c4Y cb N call:=by kernel_rfl
noncomputable def e2w:Code:=a0x Tryz.f177
noncomputable def d7X:Pl:=.d
noncomputable def c8l (cb:Cb) (N:Nat) (call:j5) (v0:Value) (v1:Value) (v2:Value) (v3:Value) (v4:Value) (v5:Value) (v6:Value) (v7:Value) (v8:Value) (v9:Value) (v10:Value) (v11:Value) (v12:Value):M CR:=
 cb.bv CR (a2p 3 13 [(0, 3),(3, 3),(6, 3),(9, 3),(12, 3),(15, 3),(18, 3),(21, 3),(24, 3),(27, 3),(30, 3),(33, 3),(36, 3)] [v0,v1,v2,v3,v4,v5,v6,v7,v8,v9,v10,v11,v12] [(.int .i64 (.ofNat 0)),(.string ⟨⟨[]⟩⟩),(.int .i64 (.ofNat 0)),(.int .i64 (.ofNat 0)),(.string ⟨⟨[]⟩⟩),(.int .i64 (.ofNat 0)),(.int .i64 (.ofNat 0)),(.string ⟨⟨[]⟩⟩),(.int .i64 (.ofNat 0)),(.int .i64 (.ofNat 0)),(.string ⟨⟨[]⟩⟩),(.int .i64 (.ofNat 0)),(.int .i64 (.ofNat 0)),(.string ⟨⟨[]⟩⟩),(.int .i64 (.ofNat 0)),(.int .i64 (.ofNat 0)),(.string ⟨⟨[]⟩⟩),(.int .i64 (.ofNat 0)),(.int .i64 (.ofNat 0)),(.string ⟨⟨[]⟩⟩),(.int .i64 (.ofNat 0)),(.int .i64 (.ofNat 0)),(.string ⟨⟨[]⟩⟩),(.int .i64 (.ofNat 0)),(.int .i64 (.ofNat 0)),(.string ⟨⟨[]⟩⟩),(.int .i64 (.ofNat 0)),(.int .i64 (.ofNat 0)),(.string ⟨⟨[]⟩⟩),(.int .i64 (.ofNat 0)),(.int .i64 (.ofNat 0)),(.string ⟨⟨[]⟩⟩),(.int .i64 (.ofNat 0)),(.int .i64 (.ofNat 0)),(.string ⟨⟨[]⟩⟩),(.int .i64 (.ofNat 0)),(.int .i64 (.ofNat 0)),(.string ⟨⟨[]⟩⟩),(.int .i64 (.ofNat 0))]) fun v13=>
 M.pure (.ret v13)
noncomputable def c9x (cb:Cb) (N:Nat) (call:j5) (v0:Value) (v1:Value) (v2:Value) (v3:Value) (v4:Value) (v5:Value) (v6:Value) (v7:Value) (v8:Value) (v9:Value) (v10:Value):M CR:=
 cb.bv CR (a0c [(0, 1),(1, 1),(2, 1)] [(.int .i64 (.ofNat 64528)),(.string ⟨⟨[116, 97, 98, 108, 101, 46, 115, 105, 122, 101]⟩⟩),(.int .i64 (.ofNat 9))] [(.int .i64 (.ofNat 0)),(.string ⟨⟨[]⟩⟩),(.int .i64 (.ofNat 0))]) fun v11=>
 cb.bv CR (a0c [(0, 1),(1, 1),(2, 1)] [(.int .i64 (.ofNat 64529)),(.string ⟨⟨[116, 97, 98, 108, 101, 46, 102, 105, 108, 108]⟩⟩),(.int .i64 (.ofNat 9))] [(.int .i64 (.ofNat 0)),(.string ⟨⟨[]⟩⟩),(.int .i64 (.ofNat 0))]) fun v12=>
 c8l cb N call v0 v1 v2 v3 v4 v5 v6 v7 v8 v9 v10 v11 v12
noncomputable def d0w (cb:Cb) (N:Nat) (call:j5) (v0:Value) (v1:Value) (v2:Value) (v3:Value) (v4:Value) (v5:Value) (v6:Value) (v7:Value) (v8:Value):M CR:=
 cb.bv CR (a0c [(0, 1),(1, 1),(2, 1)] [(.int .i64 (.ofNat 64526)),(.string ⟨⟨[116, 97, 98, 108, 101, 46, 99, 111, 112, 121]⟩⟩),(.int .i64 (.ofNat 10))] [(.int .i64 (.ofNat 0)),(.string ⟨⟨[]⟩⟩),(.int .i64 (.ofNat 0))]) fun v9=>
 cb.bv CR (a0c [(0, 1),(1, 1),(2, 1)] [(.int .i64 (.ofNat 64527)),(.string ⟨⟨[116, 97, 98, 108, 101, 46, 103, 114, 111, 119]⟩⟩),(.int .i64 (.ofNat 9))] [(.int .i64 (.ofNat 0)),(.string ⟨⟨[]⟩⟩),(.int .i64 (.ofNat 0))]) fun v10=>
 c9x cb N call v0 v1 v2 v3 v4 v5 v6 v7 v8 v9 v10
noncomputable def d0Z (cb:Cb) (N:Nat) (call:j5) (v0:Value) (v1:Value) (v2:Value) (v3:Value) (v4:Value) (v5:Value) (v6:Value):M CR:=
 cb.bv CR (a0c [(0, 1),(1, 1),(2, 1)] [(.int .i64 (.ofNat 64524)),(.string ⟨⟨[116, 97, 98, 108, 101, 46, 105, 110, 105, 116]⟩⟩),(.int .i64 (.ofNat 11))] [(.int .i64 (.ofNat 0)),(.string ⟨⟨[]⟩⟩),(.int .i64 (.ofNat 0))]) fun v7=>
 cb.bv CR (a0c [(0, 1),(1, 1),(2, 1)] [(.int .i64 (.ofNat 64525)),(.string ⟨⟨[101, 108, 101, 109, 46, 100, 114, 111, 112]⟩⟩),(.int .i64 (.ofNat 12))] [(.int .i64 (.ofNat 0)),(.string ⟨⟨[]⟩⟩),(.int .i64 (.ofNat 0))]) fun v8=>
 d0w cb N call v0 v1 v2 v3 v4 v5 v6 v7 v8
noncomputable def c8j (cb:Cb) (N:Nat) (call:j5) (v0:Value) (v1:Value) (v2:Value) (v3:Value) (v4:Value):M CR:=
 cb.bv CR (a0c [(0, 1),(1, 1),(2, 1)] [(.int .i64 (.ofNat 64522)),(.string ⟨⟨[109, 101, 109, 111, 114, 121, 46, 99, 111, 112, 121]⟩⟩),(.int .i64 (.ofNat 14))] [(.int .i64 (.ofNat 0)),(.string ⟨⟨[]⟩⟩),(.int .i64 (.ofNat 0))]) fun v5=>
 cb.bv CR (a0c [(0, 1),(1, 1),(2, 1)] [(.int .i64 (.ofNat 64523)),(.string ⟨⟨[109, 101, 109, 111, 114, 121, 46, 102, 105, 108, 108]⟩⟩),(.int .i64 (.ofNat 13))] [(.int .i64 (.ofNat 0)),(.string ⟨⟨[]⟩⟩),(.int .i64 (.ofNat 0))]) fun v6=>
 d0Z cb N call v0 v1 v2 v3 v4 v5 v6
noncomputable def c7E (cb:Cb) (N:Nat) (call:j5) (v0:Value) (v1:Value) (v2:Value):M CR:=
 cb.bv CR (a0c [(0, 1),(1, 1),(2, 1)] [(.int .i64 (.ofNat 64520)),(.string ⟨⟨[109, 101, 109, 111, 114, 121, 46, 105, 110, 105, 116]⟩⟩),(.int .i64 (.ofNat 15))] [(.int .i64 (.ofNat 0)),(.string ⟨⟨[]⟩⟩),(.int .i64 (.ofNat 0))]) fun v3=>
 cb.bv CR (a0c [(0, 1),(1, 1),(2, 1)] [(.int .i64 (.ofNat 64521)),(.string ⟨⟨[100, 97, 116, 97, 46, 100, 114, 111, 112]⟩⟩),(.int .i64 (.ofNat 16))] [(.int .i64 (.ofNat 0)),(.string ⟨⟨[]⟩⟩),(.int .i64 (.ofNat 0))]) fun v4=>
 c8j cb N call v0 v1 v2 v3 v4
noncomputable def c5D (cb:Cb) (N:Nat) (call:j5):M CR:=
 cb.bv CR (a0c [(0, 1),(1, 1),(2, 1)] [(.int .i64 (.ofNat 208)),(.string ⟨⟨[114, 101, 102, 46, 110, 117, 108, 108]⟩⟩),(.int .i64 (.ofNat 20))] [(.int .i64 (.ofNat 0)),(.string ⟨⟨[]⟩⟩),(.int .i64 (.ofNat 0))]) fun v0=>
 cb.bv CR (a0c [(0, 1),(1, 1),(2, 1)] [(.int .i64 (.ofNat 209)),(.string ⟨⟨[114, 101, 102, 46, 105, 115, 95, 110, 117, 108, 108]⟩⟩),(.int .i64 (.ofNat 0))] [(.int .i64 (.ofNat 0)),(.string ⟨⟨[]⟩⟩),(.int .i64 (.ofNat 0))]) fun v1=>
 cb.bv CR (a0c [(0, 1),(1, 1),(2, 1)] [(.int .i64 (.ofNat 210)),(.string ⟨⟨[114, 101, 102, 46, 102, 117, 110, 99]⟩⟩),(.int .i64 (.ofNat 4))] [(.int .i64 (.ofNat 0)),(.string ⟨⟨[]⟩⟩),(.int .i64 (.ofNat 0))]) fun v2=>
 c7E cb N call v0 v1 v2
theorem c4q (cb:Cb) (N:Nat) (call:j5):a0i Tryz.prog Q6 cb false N call Tryz.f177 e2w d7X []=c5D cb N call:=by kernel_rfl
noncomputable def e1b:Code:=a0x Tryz.f178
noncomputable def d6I:Pl:=(.s none .d (.s none (.s none .d (.s none (.l [6, 7, 8, 9, 10, 11, 12, 15, 16, 17, 18, 19, 20, 21, 22, 23, 4, 13, 14, 5] .d) .d)) .d))
noncomputable def c7F (cb:Cb) (N:Nat) (call:j5) (xs0:List Value) (a1:Value) (v3:Value) (v4:Value) (a0:Value) (v5:Value) (v6:Value) (v7:Value) (v8:Value) (v9:Value) (v10:Value):M R2:=
 M.pure (.ret, [(d9 xs0 19),a1,v3,v4,a0,v5,v6,a0,(d9 xs0 19),(d9 xs0 19),a1,v7,v8,v9,a1,v10,(.bool true),(d9 xs0 17),(d9 xs0 18),(d9 xs0 19)])
noncomputable def c8V (cb:Cb) (N:Nat) (call:j5) (xs0:List Value) (a1:Value) (v3:Value) (v4:Value) (a0:Value) (v5:Value) (v6:Value) (v7:Value) (v8:Value) (v9:Value) (v10:Value):M R2:=
 cb.bv R2 (bn .add 3 (.tmp 13) (.const (.int .i64 (.ofNat 1))) (d9 xs0 19) (.int .i64 (.ofNat 1))) fun v11=>
 M.pure (.normal, [(d9 xs0 19),a1,v3,v4,a0,v5,v6,a0,(d9 xs0 19),(d9 xs0 19),a1,v7,v8,v9,a1,v10,(d9 xs0 16),(d9 xs0 19),v11,v11])
noncomputable def c9d (cb:Cb) (N:Nat) (call:j5) (a1:Value) (xs0:List Value) (a0:Value) (v3:Value) (v4:Value) (v5:Value) (v6:Value):M R2:=
 cb.bv R2 (c0H a1) fun v7=>
 cb.bv R2 (bn .add 3 (.tmp 17) (.tmp 19) (d9 xs0 19) v7) fun v8=>
 cb.bv R2 (a8P a0 (some (d9 xs0 19)) (some v8)) fun v9=>
 cb.bv R2 (bn .eql 9 (.tmp 21) (.tmp 22) v9 a1) fun v10=>
 K3 v10 (
 c7F cb N call xs0 a1 v3 v4 a0 v5 v6 v7 v8 v9 v10) (
 c8V cb N call xs0 a1 v3 v4 a0 v5 v6 v7 v8 v9 v10)
noncomputable def c9V (cb:Cb) (N:Nat) (call:j5) (xs0:List Value) (a1:Value) (v3:Value) (v4:Value) (a0:Value) (v5:Value) (v6:Value):M R2:=
 M.pure (.exit 0, [(d9 xs0 19),a1,v3,v4,a0,v5,v6,(d9 xs0 7),(d9 xs0 8),(d9 xs0 9),(d9 xs0 10),(d9 xs0 11),(d9 xs0 12),(d9 xs0 13),(d9 xs0 14),(d9 xs0 15),(d9 xs0 16),(d9 xs0 17),(d9 xs0 18),(d9 xs0 19)])
noncomputable def c8x (cb:Cb) (N:Nat) (call:j5) (a1:Value) (a0:Value) (xs0:List Value):M R2:=
 cb.bv R2 (c0H a1) fun v3=>
 cb.bv R2 (bn .add 3 (.tmp 6) (.tmp 8) (d9 xs0 19) v3) fun v4=>
 cb.bv R2 (c0H a0) fun v5=>
 cb.bv R2 (bn .leq 3 (.tmp 9) (.tmp 11) v4 v5) fun v6=>
 K3 v6 (
 c9d cb N call a1 xs0 a0 v3 v4 v5 v6) (
 c9V cb N call xs0 a1 v3 v4 a0 v5 v6)
noncomputable def c5J (cb:Cb) (N:Nat) (call:j5) (a0:Value) (a1:Value):M CR:=
 cb.bj CR (cb.lp (c8x cb N call a1 a0) N [undef,undef,undef,undef,undef,undef,undef,undef,undef,undef,undef,undef,undef,undef,undef,undef,(.bool false),undef,undef,(.int .i64 (.ofNat 0))]) fun x1 vs2=>
 M5 x1 (M.fail) (fun i12=>bcase (Nat.beq i12 0) (M.pure (.ret (.bool false))) (M.fail)) (M.pure (.ret (d9 vs2 16))) N7
theorem c3e (cb:Cb) (N:Nat) (call:j5) (a0:Value) (a1:Value):a0i Tryz.prog Q6 cb false N call Tryz.f178 e1b d6I [a0,a1]=c5J cb N call a0 a1:=by kernel_rfl
end Go.Proofs.YtmomonnlmbljoaaGreatDoor
end
