import Derived.Test.YtmomonnlmbljoaaGreatDoorRap
section
namespace Go.Proofs.YtmomonnlmbljoaaGreatDoor
open Go.V Go.Proofs
set_option maxRecDepth 100000
set_option linter.unusedVariables false
noncomputable def f0A:Code:=D6 Tryz.f106
noncomputable def e3W:Pl:=.d
noncomputable def e0x (cb:Cb) (N:Nat) (call:j4) (a0:Value) (a1:Value):M CR:=
 cb.bv CR (q8 a0) fun v2=>
 cb.bv CR (l9 0 v2) fun v3=>
 cb.bv CR (j5 v3) fun v4=>
 cb.bv CR (a3S A9 90 v4 a1 false) fun v5=>
 M.pure (.ret v5)
noncomputable def d7m (cb:Cb) (N:Nat) (call:j4) (a0:Value) (a1:Value):M CR:=
 cb.bc CR (call 79 [a0]) (fun v0=>
 cb.bv CR (un .not v0) fun v1=>
 j6 v1 (
 M.pure (.ret (.pointer none))) (
 e0x cb N call a0 a1)) l6
theorem d3k (cb:Cb) (N:Nat) (call:j4) (a0:Value) (a1:Value):D5 Tryz.prog A9 cb false N call Tryz.f106 f0A e3W [a0,a1]=d7m cb N call a0 a1:=by kernel_rfl
noncomputable def e8f:Code:=D6 Tryz.f107
noncomputable def e7c:Pl:=(.s none .d (.s none .d (.s none (.s none .d (.s none (.l [15, 16, 3, 17, 18, 19, 20, 21, 2, 22, 14] .d) .d)) .d)))
noncomputable def b3K (cb:Cb) (N:Nat) (call:j4) (xs8:List Value) (v11:Value) (a0:Value) (v12:Value) (v13:Value) (v14:Value):M R2:=
 cb.bv R2 (bn .add 3 (.tmp 14) (.const (.int .i64 (.ofNat 1))) (d9 xs8 10) (.int .i64 (.ofNat 1))) fun v15=>
 M.pure (.normal, [v11,(d9 xs8 10),(d9 xs8 10),a0,(d9 xs8 10),v12,v13,v14,(d9 xs8 8),v15,v15])
noncomputable def b7P (cb:Cb) (N:Nat) (call:j4) (a0:Value) (xs8:List Value) (v11:Value):M R2:=
 cb.bv R2 (J5 a0 (d9 xs8 10)) fun v12=>
 cb.bc R2 (call 137 [v12]) (fun v13=>
 cb.bv R2 (un .not v13) fun v14=>
 j6 v14 (
 M.pure (.ret, [v11,(d9 xs8 10),(d9 xs8 10),a0,(d9 xs8 10),v12,v13,v14,(.bool false),(d9 xs8 9),(d9 xs8 10)])) (
 b3K cb N call xs8 v11 a0 v12 v13 v14)) l6
noncomputable def c8P (cb:Cb) (N:Nat) (call:j4) (v11:Value) (xs8:List Value):M R2:=
 M.pure (.exit 0, [v11,(d9 xs8 1),(d9 xs8 2),(d9 xs8 3),(d9 xs8 4),(d9 xs8 5),(d9 xs8 6),(d9 xs8 7),(d9 xs8 8),(d9 xs8 9),(d9 xs8 10)])
noncomputable def b7j (cb:Cb) (N:Nat) (call:j4) (v7:Value) (a0:Value) (xs8:List Value):M R2:=
 cb.bv R2 (bn .lss 3 (.tmp 14) (.tmp 13) (d9 xs8 10) v7) fun v11=>
 j6 v11 (
 b7P cb N call a0 xs8 v11) (
 c8P cb N call v11 xs8)
noncomputable def b5P (cb:Cb) (N:Nat) (call:j4) (a0:Value):M CR:=
 cb.bv CR (K7 a0) fun v7=>
 cb.bj CR (cb.lp (b7j cb N call v7 a0) N [undef,undef,undef,undef,undef,undef,undef,undef,(.bool false),undef,(.int .i64 (.ofNat 0))]) fun x9 vs10=>
 l7 x9 (M.fail) (fun i16=>l8 (Nat.beq i16 0) (M.pure (.ret (.bool true))) (M.fail)) (M.pure (.ret (d9 vs10 8))) l6
noncomputable def b5T (cb:Cb) (N:Nat) (call:j4) (v0:Value) (a0:Value):M CR:=
 cb.bv CR (bn .lss 3 (.tmp 5) (.const (.int .i64 (.ofNat 2))) v0 (.int .i64 (.ofNat 2))) fun v1=>
 cb.bj CR (l8 (o7 false v1) (cb.bv R2 (J5 a0 (.int .i64 (.ofNat 0))) fun v4=>
 cb.bv R2 (bn .neq 5 (.tmp 9) (.const (.int .u8 (.ofNat 36))) v4 (.int .u8 (.ofNat 36))) fun v5=>
 M.pure (.normal, [a0,v4,v5])) (M.pure (.normal, [undef,undef,undef]))) fun x2 vs3=>l7 x2 (cb.bv CR (q9 v1 (.bool true) (d9 vs3 2)) fun v6=>
 j6 v6 (
 M.pure (.ret (.bool false))) (
 b5P cb N call a0)) (fun _=>M.fail) M.fail l6
noncomputable def c5K (cb:Cb) (N:Nat) (call:j4) (a0:Value):M CR:=
 cb.bv CR (K7 a0) fun v0=>
 b5T cb N call v0 a0
theorem d6D (cb:Cb) (N:Nat) (call:j4) (a0:Value):D5 Tryz.prog A9 cb false N call Tryz.f107 e8f e7c [a0]=c5K cb N call a0:=by kernel_rfl
noncomputable def f0c:Code:=D6 Tryz.f110
noncomputable def e5o:Pl:=(.s none .d (.s none .d (.s none (.s none .d (.s none (.s none .d (.s none .d (.s (some [47, 48, 49, 50, 51, 52, 46]) .d .d))) .d)) .d)))
noncomputable def e0r (cb:Cb) (N:Nat) (call:j4) (v17:Value) (v18:Value) (a0:Value):M CR:=
 cb.bv CR (z8 1 v17) fun v19=>
 cb.bv CR (H8 1 1 [(0, 1)] [v18] [(.int .i64 (.ofNat 0))]) fun v20=>
 cb.bv CR (H7 [(0, 1),(7, 1)] [(.int .i64 (.ofNat 28)),v20] [(.int .i64 (.ofNat 0)),(.int .i64 (.ofNat 0)),(.int .i64 (.ofNat 0)),(.int .u64 (.ofNat 0)),(.int .i64 (.ofNat 0)),(.int .i64 (.ofNat 0)),(.int .i64 (.ofNat 0)),(.slice none 0 0),(.slice none 0 0)]) fun v21=>
 cb.bv CR (q8 a0) fun v22=>
 cb.bv CR (l9 4 v22) fun v23=>
 cb.bv CR (r9 9 v23 v21) fun v24=>
 M.pure (.ret v19)
noncomputable def e0f (cb:Cb) (N:Nat) (call:j4) (v10:Value) (v8:Value) (a0:Value):M CR:=
 cb.bj CR (l8 (o7 false v10) (cb.bv R2 (E8 4 v8) fun v13=>
 cb.bc R2 (call 113 [v13,(.string ⟨⟨[114, 101, 115, 117, 108, 116]⟩⟩)]) (fun v14=>
 cb.bv R2 (un .not v14) fun v15=>
 M.pure (.normal, [v13,v14,v15])) l6) (M.pure (.normal, [undef,undef,undef]))) fun x11 vs12=>l7 x11 (cb.bv CR (q9 v10 (.bool true) (d9 vs12 2)) fun v16=>
 j6 v16 (
 M.pure (.ret (.bool true))) (
 cb.bc CR (call 139 [a0]) (fun v17=>
 cb.bv CR (z8 0 v17) fun v18=>
 e0r cb N call v17 v18 a0) l6)) (fun _=>M.fail) M.fail l6
noncomputable def d1i (cb:Cb) (N:Nat) (call:j4) (a0:Value):M CR:=
 cb.bc CR (call 138 [a0]) (fun v5=>
 cb.bv CR (z8 0 v5) fun v6=>
 cb.bv CR (z8 1 v5) fun v7=>
 cb.bv CR (J6 [(.int .i64 (.ofNat 0)),(.int .i64 (.ofNat 0)),(.string ⟨⟨[]⟩⟩),(.slice none 0 0)]) fun v8=>
 cb.bv CR (r9 4 v8 v6) fun v9=>
 cb.bv CR (un .not v7) fun v10=>
 e0f cb N call v10 v8 a0) l6
noncomputable def b1Z (cb:Cb) (N:Nat) (call:j4) (v29:Value) (v34:Value) (v35:Value) (v36:Value) (v37:Value) (v38:Value):M R2:=
 cb.bv R2 (bn .eql 76 (.tmp 41) (.const (.int .i64 (.ofNat 16))) v29 (.int .i64 (.ofNat 16))) fun v39=>
 M.pure (.normal, [v34,v35,v36,v37,v38,v39,v39])
noncomputable def b6i (cb:Cb) (N:Nat) (call:j4) (v29:Value) (v34:Value) (v35:Value) (v36:Value) (v37:Value):M R2:=
 cb.bv R2 (bn .eql 76 (.tmp 41) (.const (.int .i64 (.ofNat 12))) v29 (.int .i64 (.ofNat 12))) fun v38=>
 j6 v38 (
 M.pure (.normal, [v34,v35,v36,v37,v38,undef,v38])) (
 b1Z cb N call v29 v34 v35 v36 v37 v38)
noncomputable def b3N (cb:Cb) (N:Nat) (call:j4) (v29:Value) (v34:Value) (v35:Value) (v36:Value):M R2:=
 cb.bv R2 (bn .eql 76 (.tmp 41) (.const (.int .i64 (.ofNat 8))) v29 (.int .i64 (.ofNat 8))) fun v37=>
 j6 v37 (
 M.pure (.normal, [v34,v35,v36,v37,undef,undef,v37])) (
 b6i cb N call v29 v34 v35 v36 v37)
noncomputable def b3e (cb:Cb) (N:Nat) (call:j4) (v29:Value) (v34:Value) (v35:Value):M R2:=
 cb.bv R2 (bn .eql 76 (.tmp 41) (.const (.int .i64 (.ofNat 7))) v29 (.int .i64 (.ofNat 7))) fun v36=>
 j6 v36 (
 M.pure (.normal, [v34,v35,v36,undef,undef,undef,v36])) (
 b3N cb N call v29 v34 v35 v36)
noncomputable def b2z (cb:Cb) (N:Nat) (call:j4) (v29:Value) (v34:Value):M R2:=
 cb.bv R2 (bn .eql 76 (.tmp 41) (.const (.int .i64 (.ofNat 4))) v29 (.int .i64 (.ofNat 4))) fun v35=>
 j6 v35 (
 M.pure (.normal, [v34,v35,undef,undef,undef,undef,v35])) (
 b3e cb N call v29 v34 v35)
noncomputable def d2o (cb:Cb) (N:Nat) (call:j4) (v45:Value) (a0:Value):M CR:=
 cb.bv CR (l9 2 v45) fun v46=>
 cb.bc CR (call 143 [a0,(.int .i64 (.ofNat 2)),v46]) (fun v47=>
 cb.bj CR (l8 (o7 true v47) (cb.bv R2 (q8 a0) fun v50=>
 cb.bv R2 (l9 4 v50) fun v51=>
 cb.bv R2 (l9 1 v51) fun v52=>
 cb.bc R2 (call 144 [a0,v52]) (fun v53=>
 M.pure (.normal, [a0,a0,v50,v51,v52,v53])) l6) (M.pure (.normal, [undef,undef,undef,undef,undef,undef]))) fun x48 vs49=>l7 x48 (cb.bv CR (q9 v47 (d9 vs49 5) (.bool false)) fun v54=>
 M.pure (.ret v54)) (fun _=>M.fail) M.fail l6) l6
noncomputable def c7Y (cb:Cb) (N:Nat) (call:j4) (a0:Value):M CR:=
 cb.bv CR (q8 a0) fun v56=>
 cb.bv CR (l9 4 v56) fun v57=>
 cb.bv CR (l9 1 v57) fun v58=>
 cb.bc CR (call 143 [a0,(.int .i64 (.ofNat 2)),v58]) (fun v59=>
 M.pure (.ret v59)) l6
noncomputable def b9W (cb:Cb) (N:Nat) (call:j4) (a0:Value):M CR:=
 cb.bv CR (q8 a0) fun v69=>
 cb.bv CR (l9 4 v69) fun v70=>
 cb.bv CR (l9 2 v70) fun v71=>
 cb.bc CR (call 143 [a0,(.int .i64 (.ofNat 3)),v71]) (fun v72=>
 M.pure (.ret v72)) l6
noncomputable def a9z (cb:Cb) (N:Nat) (call:j4) (v29:Value) (a0:Value):M CR:=
 cb.bv CR (bn .eql 76 (.tmp 41) (.const (.int .i64 (.ofNat 20))) v29 (.int .i64 (.ofNat 20))) fun v79=>
 j6 v79 (
 cb.bc CR (call 149 [a0]) (fun v80=>
 M.pure (.ret v80)) l6) (
 M.pure (.ret (.bool true)))
noncomputable def a8i (cb:Cb) (N:Nat) (call:j4) (v29:Value) (a0:Value):M CR:=
 cb.bv CR (bn .eql 76 (.tmp 41) (.const (.int .i64 (.ofNat 19))) v29 (.int .i64 (.ofNat 19))) fun v77=>
 j6 v77 (
 cb.bc CR (call 148 [a0,(.int .i64 (.ofNat 64))]) (fun v78=>
 M.pure (.ret v78)) l6) (
 a9z cb N call v29 a0)
noncomputable def a8N (cb:Cb) (N:Nat) (call:j4) (v29:Value) (a0:Value):M CR:=
 cb.bv CR (bn .eql 76 (.tmp 41) (.const (.int .i64 (.ofNat 18))) v29 (.int .i64 (.ofNat 18))) fun v75=>
 j6 v75 (
 cb.bc CR (call 148 [a0,(.int .i64 (.ofNat 32))]) (fun v76=>
 M.pure (.ret v76)) l6) (
 a8i cb N call v29 a0)
noncomputable def a7z (cb:Cb) (N:Nat) (call:j4) (v29:Value) (a0:Value):M CR:=
 cb.bv CR (bn .eql 76 (.tmp 41) (.const (.int .i64 (.ofNat 17))) v29 (.int .i64 (.ofNat 17))) fun v73=>
 j6 v73 (
 cb.bc CR (call 147 [a0]) (fun v74=>
 M.pure (.ret v74)) l6) (
 a8N cb N call v29 a0)
noncomputable def a9G (cb:Cb) (N:Nat) (call:j4) (v29:Value) (a0:Value):M CR:=
 cb.bv CR (bn .eql 76 (.tmp 41) (.const (.int .i64 (.ofNat 13))) v29 (.int .i64 (.ofNat 13))) fun v68=>
 j6 v68 (
 b9W cb N call a0) (
 a7z cb N call v29 a0)
noncomputable def a6U (cb:Cb) (N:Nat) (call:j4) (v29:Value) (a0:Value):M CR:=
 cb.bv CR (bn .eql 76 (.tmp 41) (.const (.int .i64 (.ofNat 15))) v29 (.int .i64 (.ofNat 15))) fun v66=>
 j6 v66 (
 cb.bc CR (call 146 [a0,(.int .i64 (.ofNat 3)),(.int .i64 (.ofNat 6))]) (fun v67=>
 M.pure (.ret v67)) l6) (
 a9G cb N call v29 a0)
noncomputable def a7q (cb:Cb) (N:Nat) (call:j4) (v29:Value) (a0:Value):M CR:=
 cb.bv CR (bn .eql 76 (.tmp 41) (.const (.int .i64 (.ofNat 11))) v29 (.int .i64 (.ofNat 11))) fun v64=>
 j6 v64 (
 cb.bc CR (call 146 [a0,(.int .i64 (.ofNat 2)),(.int .i64 (.ofNat 5))]) (fun v65=>
 M.pure (.ret v65)) l6) (
 a6U cb N call v29 a0)
noncomputable def a6r (cb:Cb) (N:Nat) (call:j4) (v29:Value) (a0:Value):M CR:=
 cb.bv CR (bn .eql 76 (.tmp 41) (.const (.int .i64 (.ofNat 14))) v29 (.int .i64 (.ofNat 14))) fun v62=>
 j6 v62 (
 cb.bc CR (call 145 [a0,(.int .i64 (.ofNat 3))]) (fun v63=>
 M.pure (.ret v63)) l6) (
 a7q cb N call v29 a0)
noncomputable def a8w (cb:Cb) (N:Nat) (call:j4) (v29:Value) (a0:Value):M CR:=
 cb.bv CR (bn .eql 76 (.tmp 41) (.const (.int .i64 (.ofNat 10))) v29 (.int .i64 (.ofNat 10))) fun v60=>
 j6 v60 (
 cb.bc CR (call 145 [a0,(.int .i64 (.ofNat 2))]) (fun v61=>
 M.pure (.ret v61)) l6) (
 a6r cb N call v29 a0)
noncomputable def a6h (cb:Cb) (N:Nat) (call:j4) (v29:Value) (a0:Value):M CR:=
 cb.bv CR (bn .eql 76 (.tmp 41) (.const (.int .i64 (.ofNat 9))) v29 (.int .i64 (.ofNat 9))) fun v55=>
 j6 v55 (
 c7Y cb N call a0) (
 a8w cb N call v29 a0)
noncomputable def a7x (cb:Cb) (N:Nat) (call:j4) (v29:Value) (a0:Value):M CR:=
 cb.bv CR (bn .eql 76 (.tmp 41) (.const (.int .i64 (.ofNat 5))) v29 (.int .i64 (.ofNat 5))) fun v43=>
 j6 v43 (
 cb.bv CR (q8 a0) fun v44=>
 cb.bv CR (l9 4 v44) fun v45=>
 d2o cb N call v45 a0) (
 a6h cb N call v29 a0)
noncomputable def a9Z (cb:Cb) (N:Nat) (call:j4) (v29:Value) (a0:Value):M CR:=
 cb.bv CR (bn .eql 76 (.tmp 41) (.const (.int .i64 (.ofNat 3))) v29 (.int .i64 (.ofNat 3))) fun v41=>
 j6 v41 (
 cb.bc CR (call 142 [a0]) (fun v42=>
 M.pure (.ret v42)) l6) (
 a7x cb N call v29 a0)
noncomputable def a6j (cb:Cb) (N:Nat) (call:j4) (v29:Value) (a0:Value):M CR:=
 cb.bj CR (cb.bv R2 (bn .eql 76 (.tmp 41) (.const (.int .i64 (.ofNat 2))) v29 (.int .i64 (.ofNat 2))) fun v34=>
 j6 v34 (
 M.pure (.normal, [v34,undef,undef,undef,undef,undef,v34])) (
 b2z cb N call v29 v34)) fun x32 vs33=>
 l7 x32 (j6 (d9 vs33 6) (
 cb.bc CR (call 141 [a0]) (fun v40=>
 M.pure (.ret v40)) l6) (
 a9Z cb N call v29 a0)) (fun _=>M.fail) (M.fail) l6
noncomputable def a7A (cb:Cb) (N:Nat) (call:j4) (a0:Value):M CR:=
 cb.bv CR (q8 a0) fun v25=>
 cb.bv CR (l9 4 v25) fun v26=>
 cb.bv CR (l9 0 v26) fun v27=>
 cb.bv CR (j5 v27) fun v28=>
 cb.bc CR (call 39 [v28]) (fun v29=>
 cb.bv CR (bn .eql 76 (.tmp 41) (.const (.int .i64 (.ofNat 1))) v29 (.int .i64 (.ofNat 1))) fun v30=>
 j6 v30 (
 cb.bc CR (call 140 [a0]) (fun v31=>
 M.pure (.ret v31)) l6) (
 a6j cb N call v29 a0)) l6
noncomputable def c4n (cb:Cb) (N:Nat) (call:j4) (a0:Value):M CR:=
 cb.bv CR (q8 a0) fun v0=>
 cb.bv CR (l9 4 v0) fun v1=>
 cb.bv CR (l9 0 v1) fun v2=>
 cb.bv CR (j5 v2) fun v3=>
 cb.bv CR (bn .eql 22 (.tmp 10) (.const (.int .i64 (.ofNat 27))) v3 (.int .i64 (.ofNat 27))) fun v4=>
 j6 v4 (
 d1i cb N call a0) (
 a7A cb N call a0)
theorem d3E (cb:Cb) (N:Nat) (call:j4) (a0:Value):D5 Tryz.prog A9 cb false N call Tryz.f110 f0c e5o [a0]=c4n cb N call a0:=by kernel_rfl
noncomputable def e9Y:Code:=D6 Tryz.f111
noncomputable def e6B:Pl:=.d
noncomputable def c3X (cb:Cb) (N:Nat) (call:j4) (a0:Value) (a1:Value):M CR:=
 cb.bv CR (q8 a0) fun v0=>
 cb.bv CR (l9 0 v0) fun v1=>
 cb.bv CR (j5 v1) fun v2=>
 cb.bc CR (call 69 [v2,a1]) (fun v3=>
 cb.bv CR (q8 a0) fun v4=>
 cb.bv CR (l9 2 v4) fun v5=>
 cb.bv CR (j5 v5) fun v6=>
 cb.bv CR (bn .add 3 (.tmp 13) (.const (.int .i64 (.ofNat 1))) v6 (.int .i64 (.ofNat 1))) fun v7=>
 cb.bv CR (q8 a0) fun v8=>
 cb.bv CR (l9 2 v8) fun v9=>
 cb.bv CR (r9 1 v9 v7) fun v10=>
 M.pure (.ret (.tuple ⟨[]⟩))) l6
theorem d5D (cb:Cb) (N:Nat) (call:j4) (a0:Value) (a1:Value):D5 Tryz.prog A9 cb false N call Tryz.f111 e9Y e6B [a0,a1]=c3X cb N call a0 a1:=by kernel_rfl
noncomputable def e9G:Code:=D6 Tryz.f112
noncomputable def e4W:Pl:=.d
noncomputable def c5o (cb:Cb) (N:Nat) (call:j4) (a0:Value):M CR:=
 cb.bv CR (q8 a0) fun v0=>
 cb.bv CR (l9 0 v0) fun v1=>
 cb.bv CR (j5 v1) fun v2=>
 cb.bc CR (call 77 [v2]) (fun v3=>
 cb.bv CR (q8 a0) fun v4=>
 cb.bv CR (l9 2 v4) fun v5=>
 cb.bv CR (j5 v5) fun v6=>
 cb.bv CR (bn .sub 3 (.tmp 10) (.const (.int .i64 (.ofNat 1))) v6 (.int .i64 (.ofNat 1))) fun v7=>
 cb.bv CR (q8 a0) fun v8=>
 cb.bv CR (l9 2 v8) fun v9=>
 cb.bv CR (r9 1 v9 v7) fun v10=>
 M.pure (.ret (.tuple ⟨[]⟩))) l6
theorem d5A (cb:Cb) (N:Nat) (call:j4) (a0:Value):D5 Tryz.prog A9 cb false N call Tryz.f112 e9G e4W [a0]=c5o cb N call a0:=by kernel_rfl
noncomputable def f0I:Code:=D6 Tryz.f113
noncomputable def e5E:Pl:=.d
noncomputable def b2J (cb:Cb) (N:Nat) (call:j4) (v19:Value) (v0:Value) (a1:Value):M CR:=
 cb.bj CR (l8 (o7 true v19) (cb.bv R2 (l9 3 v0) fun v22=>
 cb.bv R2 (j5 v22) fun v23=>
 cb.bv R2 (F3 4 v23 (.int .i64 (.ofNat 0))) fun v24=>
 cb.bv R2 (l9 2 v24) fun v25=>
 cb.bv R2 (j5 v25) fun v26=>
 cb.bv R2 (bn .eql 9 (.tmp 27) (.tmp 28) v26 a1) fun v27=>
 M.pure (.normal, [v22,v23,v24,v25,v26,a1,v27])) (M.pure (.normal, [undef,undef,undef,undef,undef,undef,undef]))) fun x20 vs21=>l7 x20 (cb.bv CR (q9 v19 (d9 vs21 6) (.bool false)) fun v28=>
 M.pure (.ret v28)) (fun _=>M.fail) M.fail l6
noncomputable def b7k (cb:Cb) (N:Nat) (call:j4) (v10:Value) (v0:Value) (a1:Value):M CR:=
 cb.bj CR (l8 (o7 true v10) (cb.bv R2 (l9 3 v0) fun v13=>
 cb.bv R2 (j5 v13) fun v14=>
 cb.bv R2 (F3 4 v14 (.int .i64 (.ofNat 0))) fun v15=>
 cb.bv R2 (l9 0 v15) fun v16=>
 cb.bv R2 (j5 v16) fun v17=>
 cb.bv R2 (bn .eql 117 (.tmp 19) (.const (.int .i64 (.ofNat 2))) v17 (.int .i64 (.ofNat 2))) fun v18=>
 M.pure (.normal, [v13,v14,v15,v16,v17,v18])) (M.pure (.normal, [undef,undef,undef,undef,undef,undef]))) fun x11 vs12=>l7 x11 (cb.bv CR (q9 v10 (d9 vs12 5) (.bool false)) fun v19=>
 b2J cb N call v19 v0 a1) (fun _=>M.fail) M.fail l6
noncomputable def b6J (cb:Cb) (N:Nat) (call:j4) (v2:Value) (v0:Value) (a1:Value):M CR:=
 cb.bv CR (bn .eql 117 (.tmp 6) (.const (.int .i64 (.ofNat 0))) v2 (.int .i64 (.ofNat 0))) fun v3=>
 cb.bj CR (l8 (o7 true v3) (cb.bv R2 (l9 3 v0) fun v6=>
 cb.bv R2 (j5 v6) fun v7=>
 cb.bv R2 (H6 v7) fun v8=>
 cb.bv R2 (bn .gtr 3 (.tmp 11) (.const (.int .i64 (.ofNat 0))) v8 (.int .i64 (.ofNat 0))) fun v9=>
 M.pure (.normal, [v6,v7,v8,v9])) (M.pure (.normal, [undef,undef,undef,undef]))) fun x4 vs5=>l7 x4 (cb.bv CR (q9 v3 (d9 vs5 3) (.bool false)) fun v10=>
 b7k cb N call v10 v0 a1) (fun _=>M.fail) M.fail l6
noncomputable def c7o (cb:Cb) (N:Nat) (call:j4) (a0:Value) (a1:Value):M CR:=
 cb.bv CR (U7 a0) fun v0=>
 cb.bv CR (l9 0 v0) fun v1=>
 cb.bv CR (j5 v1) fun v2=>
 b6J cb N call v2 v0 a1
theorem d5C (cb:Cb) (N:Nat) (call:j4) (a0:Value) (a1:Value):D5 Tryz.prog A9 cb false N call Tryz.f113 f0I e5E [a0,a1]=c7o cb N call a0 a1:=by kernel_rfl
noncomputable def e9N:Code:=D6 Tryz.f117
noncomputable def e2f:Pl:=.d
noncomputable def c3i (cb:Cb) (N:Nat) (call:j4) (a0:Value) (a1:Value):M CR:=
 cb.bv CR (K7 a0) fun v0=>
 cb.bv CR (K7 a1) fun v1=>
 cb.bv CR (bn .geq 3 (.tmp 6) (.tmp 8) v0 v1) fun v2=>
 cb.bj CR (l8 (o7 true v2) (cb.bv R2 (K7 a1) fun v5=>
 cb.bv R2 (J4 a0 none (some v5)) fun v6=>
 cb.bv R2 (bn .eql 9 (.tmp 14) (.tmp 15) v6 a1) fun v7=>
 M.pure (.normal, [a0,a1,v5,v6,a1,v7])) (M.pure (.normal, [undef,undef,undef,undef,undef,undef]))) fun x3 vs4=>l7 x3 (cb.bv CR (q9 v2 (d9 vs4 5) (.bool false)) fun v8=>
 M.pure (.ret v8)) (fun _=>M.fail) M.fail l6
theorem d6o (cb:Cb) (N:Nat) (call:j4) (a0:Value) (a1:Value):D5 Tryz.prog A9 cb false N call Tryz.f117 e9N e2f [a0,a1]=c3i cb N call a0 a1:=by kernel_rfl
noncomputable def e0Y:Code:=D6 Tryz.f118
noncomputable def e6f:Pl:=(.s none .d (.s none .d (.s (some [15, 16, 17, 18, 19, 20, 21, 22, 23, 24, 5, 0]) .d (.s none .d (.s none (.s none .d (.s none (.l [28, 29, 9, 30, 31, 32, 33, 34, 35, 36, 37, 38, 39, 40, 10, 41, 42, 43, 44, 45, 46, 47, 48, 2, 3, 4, 50, 51, 52, 49, 53, 54, 11, 12, 56, 57, 58, 59, 55, 60, 61, 13, 14, 62, 63, 64, 65, 66, 67, 68, 7, 69, 6, 8, 70, 27] .d) .d)) .d)))))
noncomputable def a2Q:List Oper:=J7 e0Y 3
noncomputable def b5D (call:j4) (u0:Value) (u1:Value) (u2:Value):M R2:=
 M.bind (M.foot (M.pure u0)) fun y0=>
 M.bind (M.foot (J4 y0.1 (some (.int .i64 (.ofNat 2))) none)) fun y1=>
 M.bind (M.foot (M.pure (.int .u64 (.ofNat 16)))) fun y2=>
 M.bind (M.foot (M.pure y1.1)) fun y3=>
 M.guard (E9 a2Q (H9 a2Q [y0.2,y1.2,y2.2,y3.2]) [] [] 0) (M.pure (.normal, [y0.1,y1.1,y2.1,y3.1]))
theorem d2q (call:j4) (u0:Value) (u1:Value) (u2:Value):dr call a2Q 74 [0, 23, 24] [u0,u1,u2] [23, 24, 5, 0]=b5D call u0 u1 u2:=(F6 _ _ _ _ _ _ _ _).trans (by kernel_rfl)
noncomputable def b5U (cb:Cb) (N:Nat) (call:j4) (a0:Value) (v2:Value) (v3:Value) (vs5:List Value) (v8:Value):M R2:=
 cb.bj R2 (dr call a2Q 74 [0, 23, 24] [a0,undef,undef] [23, 24, 5, 0]) fun _ vs9=>
 M.pure (.normal, [a0,v2,v3,v3,(d9 vs5 0),(d9 vs5 1),(d9 vs5 2),v8,(d9 vs9 0),(d9 vs9 1),(d9 vs9 2),(d9 vs9 3)])
noncomputable def b2Q (cb:Cb) (N:Nat) (call:j4) (v3:Value) (a0:Value) (v2:Value):M R2:=
 cb.bj R2 (l8 (o7 true v3) (cb.bv R2 (J4 a0 none (some (.int .i64 (.ofNat 2)))) fun v6=>
 cb.bv R2 (bn .eql 9 (.tmp 20) (.const (.string ⟨⟨[48, 120]⟩⟩)) v6 (.string ⟨⟨[48, 120]⟩⟩)) fun v7=>
 M.pure (.normal, [a0,v6,v7])) (M.pure (.normal, [undef,undef,undef]))) fun x4 vs5=>l7 x4 (cb.bv R2 (q9 v3 (d9 vs5 2) (.bool false)) fun v8=>
 j6 v8 (
 b5U cb N call a0 v2 v3 vs5 v8) (
 M.pure (.normal, [a0,v2,v3,v3,(d9 vs5 0),(d9 vs5 1),(d9 vs5 2),v8,undef,undef,(.int .u64 (.ofNat 10)),a0]))) (fun _=>M.fail) M.fail l6
noncomputable def d1j (cb:Cb) (N:Nat) (call:j4) (v14:Value) (xs11:List Value) (vs1:List Value) (v15:Value) (v16:Value) (vs18:List Value) (v19:Value) (v20:Value):M R2:=
 M.pure (.normal, [v14,(d9 xs11 55),(d9 xs11 55),(d9 vs1 11),(d9 xs11 55),v15,v16,v16,(d9 vs18 0),v19,(d9 xs11 10),(d9 xs11 11),(d9 xs11 12),(d9 xs11 13),(d9 xs11 14),(d9 xs11 15),(d9 xs11 16),(d9 xs11 17),(d9 xs11 18),(d9 xs11 19),(d9 xs11 20),(d9 xs11 21),(d9 xs11 22),(d9 xs11 23),(d9 xs11 24),(d9 xs11 25),(d9 xs11 26),(d9 xs11 27),(d9 xs11 28),(d9 xs11 29),(d9 xs11 30),(d9 xs11 31),(d9 xs11 32),(d9 xs11 33),(d9 xs11 34),(d9 xs11 35),(d9 xs11 36),(d9 xs11 37),(d9 xs11 38),(d9 xs11 39),(d9 xs11 40),(d9 xs11 41),(d9 xs11 42),(d9 xs11 43),(d9 xs11 44),(d9 xs11 45),(d9 xs11 46),(d9 xs11 47),(d9 xs11 48),(d9 xs11 49),(d9 xs11 50),(d9 xs11 51),(d9 xs11 52),(.bool false),v20,v20])
noncomputable def b4I (cb:Cb) (N:Nat) (call:j4) (xs11:List Value) (v14:Value) (vs1:List Value) (v15:Value) (v16:Value) (vs18:List Value) (v19:Value):M R2:=
 cb.bv R2 (bn .add 3 (.tmp 27) (.const (.int .i64 (.ofNat 1))) (d9 xs11 55) (.int .i64 (.ofNat 1))) fun v20=>
 d1j cb N call v14 xs11 vs1 v15 v16 vs18 v19 v20
noncomputable def d0T (cb:Cb) (N:Nat) (call:j4) (v14:Value) (xs11:List Value) (vs1:List Value) (v15:Value) (v16:Value) (vs18:List Value) (v19:Value) (v21:Value) (v22:Value) (v23:Value) (vs25:List Value) (v28:Value):M R2:=
 M.pure (.ret, [v14,(d9 xs11 55),(d9 xs11 55),(d9 vs1 11),(d9 xs11 55),v15,v16,v16,(d9 vs18 0),v19,(d9 vs1 11),(d9 xs11 55),v21,v22,v22,v22,v23,v23,(d9 vs25 0),(d9 vs25 1),(d9 vs25 2),(d9 vs25 3),v28,(.int .u64 (.ofNat 0)),(.bool false),(.bool false),(d9 xs11 26),(d9 xs11 27),(d9 xs11 28),(d9 xs11 29),(d9 xs11 30),(d9 xs11 31),(d9 xs11 32),(d9 xs11 33),(d9 xs11 34),(d9 xs11 35),(d9 xs11 36),(d9 xs11 37),(d9 xs11 38),(d9 xs11 39),(d9 xs11 40),(d9 xs11 41),(d9 xs11 42),(d9 xs11 43),(d9 xs11 44),(d9 xs11 45),(d9 xs11 46),(d9 xs11 47),(d9 xs11 48),(d9 xs11 49),(d9 xs11 50),(d9 xs11 51),(d9 xs11 52),(d9 xs11 53),(d9 xs11 54),(d9 xs11 55)])
noncomputable def d2H (cb:Cb) (N:Nat) (call:j4) (v14:Value) (xs11:List Value) (vs1:List Value) (v15:Value) (v16:Value) (vs18:List Value) (v19:Value) (v21:Value) (v22:Value) (v23:Value) (vs25:List Value) (v28:Value) (v29:Value) (v30:Value) (v31:Value) (v32:Value) (v33:Value) (v34:Value) (v35:Value) (vs37:List Value) (v40:Value) (v41:Value):M R2:=
 M.pure (.normal, [v14,(d9 xs11 55),(d9 xs11 55),(d9 vs1 11),(d9 xs11 55),v15,v16,v16,(d9 vs18 0),v19,(d9 vs1 11),(d9 xs11 55),v21,v22,v22,v22,v23,v23,(d9 vs25 0),(d9 vs25 1),(d9 vs25 2),(d9 vs25 3),v28,(d9 xs11 23),(d9 xs11 24),(d9 xs11 25),(d9 xs11 52),(d9 vs1 10),v29,v29,v30,v31,v30,v31,v31,v22,v32,v33,v33,v34,v35,v34,v35,(d9 xs11 50),(d9 xs11 50),(d9 vs37 0),(d9 vs37 1),(d9 vs37 2),(d9 vs37 3),v40,v40,v34,v34,(.bool true),v41,v41])
noncomputable def b1x (cb:Cb) (N:Nat) (call:j4) (xs11:List Value) (v30:Value) (v35:Value) (v14:Value) (vs1:List Value) (v15:Value) (v16:Value) (vs18:List Value) (v19:Value) (v21:Value) (v22:Value) (v23:Value) (vs25:List Value) (v28:Value) (v29:Value) (v31:Value) (v32:Value) (v33:Value) (v34:Value):M R2:=
 cb.bj R2 (l8 (o7 false (d9 xs11 50)) (cb.bv R2 (bn .add 23 (.tmp 64) (.tmp 65) v30 v35) fun v38=>
 cb.bv R2 (bn .neq 23 (.tmp 66) (.const (.int .u64 (.ofNat 0))) v38 (.int .u64 (.ofNat 0))) fun v39=>
 M.pure (.normal, [v30,v35,v38,v39])) (M.pure (.normal, [undef,undef,undef,undef]))) fun x36 vs37=>l7 x36 (cb.bv R2 (q9 (d9 xs11 50) (.bool true) (d9 vs37 3)) fun v40=>
 cb.bv R2 (bn .add 3 (.tmp 27) (.const (.int .i64 (.ofNat 1))) (d9 xs11 55) (.int .i64 (.ofNat 1))) fun v41=>
 d2H cb N call v14 xs11 vs1 v15 v16 vs18 v19 v21 v22 v23 vs25 v28 v29 v30 v31 v32 v33 v34 v35 vs37 v40 v41) (fun _=>M.fail) M.fail l6
noncomputable def b6x (cb:Cb) (N:Nat) (call:j4) (xs11:List Value) (vs1:List Value) (v22:Value) (v14:Value) (v15:Value) (v16:Value) (vs18:List Value) (v19:Value) (v21:Value) (v23:Value) (vs25:List Value) (v28:Value):M R2:=
 cb.bc R2 (call 130 [(d9 xs11 52),(d9 vs1 10)]) (fun v29=>
 cb.bv R2 (z8 0 v29) fun v30=>
 cb.bv R2 (z8 1 v29) fun v31=>
 cb.bv R2 (I7 .u64 v22) fun v32=>
 cb.bc R2 (call 163 [v31,v32,(.int .u64 (.ofNat 0))]) (fun v33=>
 cb.bv R2 (z8 0 v33) fun v34=>
 cb.bv R2 (z8 1 v33) fun v35=>
 b1x cb N call xs11 v30 v35 v14 vs1 v15 v16 vs18 v19 v21 v22 v23 vs25 v28 v29 v31 v32 v33 v34) l6) l6
noncomputable def b1v (cb:Cb) (N:Nat) (call:j4) (v23:Value) (v22:Value) (vs1:List Value) (v14:Value) (xs11:List Value) (v15:Value) (v16:Value) (vs18:List Value) (v19:Value) (v21:Value):M R2:=
 cb.bj R2 (l8 (o7 false v23) (cb.bv R2 (I7 .u64 v22) fun v26=>
 cb.bv R2 (bn .geq 23 (.tmp 45) (.tmp 46) v26 (d9 vs1 10)) fun v27=>
 M.pure (.normal, [v22,v26,(d9 vs1 10),v27])) (M.pure (.normal, [undef,undef,undef,undef]))) fun x24 vs25=>l7 x24 (cb.bv R2 (q9 v23 (.bool true) (d9 vs25 3)) fun v28=>
 j6 v28 (
 d0T cb N call v14 xs11 vs1 v15 v16 vs18 v19 v21 v22 v23 vs25 v28) (
 b6x cb N call xs11 vs1 v22 v14 v15 v16 vs18 v19 v21 v23 vs25 v28)) (fun _=>M.fail) M.fail l6
noncomputable def b7N (cb:Cb) (N:Nat) (call:j4) (vs1:List Value) (xs11:List Value) (v14:Value) (v15:Value) (v16:Value) (vs18:List Value) (v19:Value):M R2:=
 cb.bv R2 (J5 (d9 vs1 11) (d9 xs11 55)) fun v21=>
 cb.bc R2 (call 162 [v21]) (fun v22=>
 cb.bv R2 (bn .lss 3 (.tmp 41) (.const (.int .i64 (.ofNat 0))) v22 (.int .i64 (.ofNat 0))) fun v23=>
 b1v cb N call v23 v22 vs1 v14 xs11 v15 v16 vs18 v19 v21) l6
noncomputable def a8j (cb:Cb) (N:Nat) (call:j4) (vs1:List Value) (xs11:List Value) (v14:Value):M R2:=
 cb.bv R2 (J5 (d9 vs1 11) (d9 xs11 55)) fun v15=>
 cb.bv R2 (bn .eql 5 (.tmp 32) (.const (.int .u8 (.ofNat 95))) v15 (.int .u8 (.ofNat 95))) fun v16=>
 cb.bj R2 (l8 (o7 true v16) (M.pure (.normal, [(d9 xs11 53)])) (M.pure (.normal, [undef]))) fun x17 vs18=>l7 x17 (cb.bv R2 (q9 v16 (d9 vs18 0) (.bool false)) fun v19=>
 j6 v19 (
 b4I cb N call xs11 v14 vs1 v15 v16 vs18 v19) (
 b7N cb N call vs1 xs11 v14 v15 v16 vs18 v19)) (fun _=>M.fail) M.fail l6
noncomputable def c0c (cb:Cb) (N:Nat) (call:j4) (v14:Value) (xs11:List Value):M R2:=
 M.pure (.exit 0, [v14,(d9 xs11 1),(d9 xs11 2),(d9 xs11 3),(d9 xs11 4),(d9 xs11 5),(d9 xs11 6),(d9 xs11 7),(d9 xs11 8),(d9 xs11 9),(d9 xs11 10),(d9 xs11 11),(d9 xs11 12),(d9 xs11 13),(d9 xs11 14),(d9 xs11 15),(d9 xs11 16),(d9 xs11 17),(d9 xs11 18),(d9 xs11 19),(d9 xs11 20),(d9 xs11 21),(d9 xs11 22),(d9 xs11 23),(d9 xs11 24),(d9 xs11 25),(d9 xs11 26),(d9 xs11 27),(d9 xs11 28),(d9 xs11 29),(d9 xs11 30),(d9 xs11 31),(d9 xs11 32),(d9 xs11 33),(d9 xs11 34),(d9 xs11 35),(d9 xs11 36),(d9 xs11 37),(d9 xs11 38),(d9 xs11 39),(d9 xs11 40),(d9 xs11 41),(d9 xs11 42),(d9 xs11 43),(d9 xs11 44),(d9 xs11 45),(d9 xs11 46),(d9 xs11 47),(d9 xs11 48),(d9 xs11 49),(d9 xs11 50),(d9 xs11 51),(d9 xs11 52),(d9 xs11 53),(d9 xs11 54),(d9 xs11 55)])
noncomputable def a9h (cb:Cb) (N:Nat) (call:j4) (v10:Value) (vs1:List Value) (xs11:List Value):M R2:=
 cb.bv R2 (bn .lss 3 (.tmp 27) (.tmp 26) (d9 xs11 55) v10) fun v14=>
 j6 v14 (
 a8j cb N call vs1 xs11 v14) (
 c0c cb N call v14 xs11)
noncomputable def a6i (cb:Cb) (N:Nat) (call:j4) (v10:Value) (vs1:List Value):M CR:=
 cb.bj CR (cb.lp (a9h cb N call v10 vs1) N [undef,undef,undef,undef,undef,undef,undef,undef,undef,undef,undef,undef,undef,undef,undef,undef,undef,undef,undef,undef,undef,undef,undef,(.int .u64 (.ofNat 0)),(.bool false),(.bool false),undef,undef,undef,undef,undef,undef,undef,undef,undef,undef,undef,undef,undef,undef,undef,undef,undef,undef,undef,undef,undef,undef,undef,undef,(.bool false),undef,(.int .u64 (.ofNat 0)),(.bool false),undef,(.int .i64 (.ofNat 0))]) fun x12 vs13=>
 l7 x12 (M.fail) (fun i42=>l8 (Nat.beq i42 0) (M.pure (.ret (.tuple ⟨[(d9 vs13 52),(d9 vs13 50),(d9 vs13 53)]⟩))) (l8 (Nat.beq i42 1) (M.fail) (M.fail))) (M.pure (.ret (.tuple ⟨[(d9 vs13 23),(d9 vs13 24),(d9 vs13 25)]⟩))) l6
noncomputable def c4b (cb:Cb) (N:Nat) (call:j4) (a0:Value):M CR:=
 cb.bj CR (cb.bv R2 (K7 a0) fun v2=>
 cb.bv R2 (bn .gtr 3 (.tmp 16) (.const (.int .i64 (.ofNat 2))) v2 (.int .i64 (.ofNat 2))) fun v3=>
 b2Q cb N call v3 a0 v2) fun x0 vs1=>
 l7 x0 (cb.bv CR (K7 (d9 vs1 11)) fun v10=>
 a6i cb N call v10 vs1) (fun _=>M.fail) (M.fail) l6
theorem d4i (cb:Cb) (N:Nat) (call:j4) (a0:Value):D5 Tryz.prog A9 cb false N call Tryz.f118 e0Y e6f [a0]=c4b cb N call a0:=by kernel_rfl
noncomputable def f0L:Code:=D6 Tryz.f124
noncomputable def e3C:Pl:=.d
noncomputable def b4N (cb:Cb) (N:Nat) (call:j4) (v0:Value) (a0:Value):M CR:=
 cb.bj CR (l8 (o7 true v0) (cb.bv R2 (bn .leq 22 (.tmp 6) (.const (.int .i64 (.ofNat 62))) a0 (.int .i64 (.ofNat 62))) fun v3=>
 M.pure (.normal, [a0,v3])) (M.pure (.normal, [undef,undef]))) fun x1 vs2=>l7 x1 (cb.bv CR (q9 v0 (d9 vs2 1) (.bool false)) fun v4=>
 cb.bj CR (l8 (o7 true v4) (cb.bc R2 (call 85 [a0]) (fun v7=>
 M.pure (.normal, [a0,v7])) l6) (M.pure (.normal, [undef,undef]))) fun x5 vs6=>l7 x5 (cb.bv CR (q9 v4 (d9 vs6 1) (.bool false)) fun v8=>
 M.pure (.ret v8)) (fun _=>M.fail) M.fail l6) (fun _=>M.fail) M.fail l6
noncomputable def c5c (cb:Cb) (N:Nat) (call:j4) (a0:Value):M CR:=
 cb.bv CR (bn .geq 22 (.tmp 3) (.const (.int .i64 (.ofNat 40))) a0 (.int .i64 (.ofNat 40))) fun v0=>
 b4N cb N call v0 a0
theorem d4J (cb:Cb) (N:Nat) (call:j4) (a0:Value):D5 Tryz.prog A9 cb false N call Tryz.f124 f0L e3C [a0]=c5c cb N call a0:=by kernel_rfl
noncomputable def e8W:Code:=D6 Tryz.f130
noncomputable def e4r:Pl:=.d
noncomputable def b8a (cb:Cb) (N:Nat) (call:j4) (v7:Value) (v0:Value) (v3:Value) (v8:Value) (v1:Value) (a0:Value) (a1:Value):M CR:=
 cb.bv CR (bn .shr 23 (.tmp 33) (.const (.int .u64 (.ofNat 32))) v7 (.int .u64 (.ofNat 32))) fun v9=>
 cb.bv CR (bn .mul 23 (.tmp 36) (.tmp 37) v0 v3) fun v10=>
 cb.bv CR (bn .add 23 (.tmp 35) (.tmp 38) v8 v10) fun v11=>
 cb.bv CR (bn .mul 23 (.tmp 40) (.tmp 41) v1 v3) fun v12=>
 cb.bv CR (bn .add 23 (.tmp 42) (.tmp 43) v12 v9) fun v13=>
 cb.bv CR (bn .shr 23 (.tmp 45) (.const (.int .u64 (.ofNat 32))) v11 (.int .u64 (.ofNat 32))) fun v14=>
 cb.bv CR (bn .add 23 (.tmp 44) (.tmp 46) v13 v14) fun v15=>
 cb.bv CR (bn .mul 23 (.tmp 48) (.tmp 49) a0 a1) fun v16=>
 M.pure (.ret (.tuple ⟨[v15,v16]⟩))
noncomputable def b3H (cb:Cb) (N:Nat) (call:j4) (a1:Value) (v0:Value) (v2:Value) (v1:Value) (a0:Value):M CR:=
 cb.bv CR (bn .shr 23 (.tmp 20) (.const (.int .u64 (.ofNat 32))) a1 (.int .u64 (.ofNat 32))) fun v3=>
 cb.bv CR (bn .mul 23 (.tmp 22) (.tmp 23) v0 v2) fun v4=>
 cb.bv CR (bn .mul 23 (.tmp 25) (.tmp 26) v1 v2) fun v5=>
 cb.bv CR (bn .shr 23 (.tmp 28) (.const (.int .u64 (.ofNat 32))) v4 (.int .u64 (.ofNat 32))) fun v6=>
 cb.bv CR (bn .add 23 (.tmp 27) (.tmp 29) v5 v6) fun v7=>
 cb.bv CR (bn .and 23 (.tmp 31) (.const (.int .u64 (.ofNat 4294967295))) v7 (.int .u64 (.ofNat 4294967295))) fun v8=>
 b8a cb N call v7 v0 v3 v8 v1 a0 a1
noncomputable def c6y (cb:Cb) (N:Nat) (call:j4) (a0:Value) (a1:Value):M CR:=
 cb.bv CR (bn .and 23 (.tmp 14) (.const (.int .u64 (.ofNat 4294967295))) a0 (.int .u64 (.ofNat 4294967295))) fun v0=>
 cb.bv CR (bn .shr 23 (.tmp 16) (.const (.int .u64 (.ofNat 32))) a0 (.int .u64 (.ofNat 32))) fun v1=>
 cb.bv CR (bn .and 23 (.tmp 18) (.const (.int .u64 (.ofNat 4294967295))) a1 (.int .u64 (.ofNat 4294967295))) fun v2=>
 b3H cb N call a1 v0 v2 v1 a0
theorem d5b (cb:Cb) (N:Nat) (call:j4) (a0:Value) (a1:Value):D5 Tryz.prog A9 cb false N call Tryz.f130 e8W e4r [a0,a1]=c6y cb N call a0 a1:=by kernel_rfl
noncomputable def e9f:Code:=D6 Tryz.f133
noncomputable def e6h:Pl:=(.s none .d (.s none (.s none (.l [5, 6, 7, 8, 9, 10, 11, 12, 13, 14, 15, 16, 1] .d) .d) .d))
noncomputable def b5A (cb:Cb) (N:Nat) (call:j4) (xs0:List Value) (a0:Value) (v3:Value) (v4:Value) (vs6:List Value) (v9:Value):M R2:=
 cb.bv R2 (bn .add 3 (.tmp 15) (.const (.int .i64 (.ofNat 1))) (d9 xs0 12) (.int .i64 (.ofNat 1))) fun v10=>
 M.pure (.normal, [(d9 xs0 12),a0,v3,v4,v4,(d9 vs6 0),(d9 vs6 1),(d9 vs6 2),(d9 vs6 3),v9,(d9 xs0 12),v10,v10])
noncomputable def c9M (cb:Cb) (N:Nat) (call:j4) (xs0:List Value) (a0:Value) (v3:Value) (v4:Value) (vs6:List Value) (v9:Value):M R2:=
 M.pure (.exit 0, [(d9 xs0 12),a0,v3,v4,v4,(d9 vs6 0),(d9 vs6 1),(d9 vs6 2),(d9 vs6 3),v9,(d9 xs0 10),(d9 xs0 11),(d9 xs0 12)])
noncomputable def b3M (cb:Cb) (N:Nat) (call:j4) (xs0:List Value) (v3:Value) (a0:Value):M R2:=
 cb.bv R2 (bn .lss 3 (.tmp 5) (.tmp 7) (d9 xs0 12) v3) fun v4=>
 cb.bj R2 (l8 (o7 true v4) (cb.bv R2 (J5 a0 (d9 xs0 12)) fun v7=>
 cb.bv R2 (bn .neq 5 (.tmp 12) (.const (.int .u8 (.ofNat 10))) v7 (.int .u8 (.ofNat 10))) fun v8=>
 M.pure (.normal, [a0,(d9 xs0 12),v7,v8])) (M.pure (.normal, [undef,undef,undef,undef]))) fun x5 vs6=>l7 x5 (cb.bv R2 (q9 v4 (d9 vs6 3) (.bool false)) fun v9=>
 j6 v9 (
 b5A cb N call xs0 a0 v3 v4 vs6 v9) (
 c9M cb N call xs0 a0 v3 v4 vs6 v9)) (fun _=>M.fail) M.fail l6
noncomputable def b1L (cb:Cb) (N:Nat) (call:j4) (a0:Value) (xs0:List Value):M R2:=
 cb.bv R2 (K7 a0) fun v3=>
 b3M cb N call xs0 v3 a0
noncomputable def c6d (cb:Cb) (N:Nat) (call:j4) (a0:Value) (a1:Value):M CR:=
 cb.bj CR (cb.lp (b1L cb N call a0) N [undef,undef,undef,undef,undef,undef,undef,undef,undef,undef,undef,undef,a1]) fun x1 vs2=>
 l7 x1 (M.fail) (fun i11=>l8 (Nat.beq i11 0) (M.pure (.ret (d9 vs2 12))) (M.fail)) (M.fail) l6
theorem d5w (cb:Cb) (N:Nat) (call:j4) (a0:Value) (a1:Value):D5 Tryz.prog A9 cb false N call Tryz.f133 e9f e6h [a0,a1]=c6d cb N call a0 a1:=by kernel_rfl
noncomputable def e9M:Code:=D6 Tryz.f134
noncomputable def e5C:Pl:=(.s none .d (.s none .d (.s none (.s none (.l [7, 8, 9, 10, 11, 12, 13, 14, 15, 16, 6, 17, 18, 19, 20, 21, 22, 23, 24, 25, 26, 5, 27, 28, 29, 30, 1, 31, 32, 33, 4] (.s none .d (.s none (.s none .d (.s (some [17, 18, 19, 20, 21, 22, 23, 24, 25, 26, 5, 27, 28, 29, 30, 1]) .d .d)) .d))) .d) .d)))
noncomputable def b4V (cb:Cb) (N:Nat) (call:j4) (xs0:List Value) (v7:Value) (v10:Value):M R2:=
 cb.bv R2 (bn .add 3 (.tmp 19) (.const (.int .i64 (.ofNat 1))) (d9 xs0 21) (.int .i64 (.ofNat 1))) fun v11=>
 cb.bv R2 (bn .add 3 (.tmp 21) (.const (.int .i64 (.ofNat 2))) (d9 xs0 26) (.int .i64 (.ofNat 2))) fun v12=>
 M.pure (.normal, [v7,v10,(d9 xs0 21),v11,(d9 xs0 26),v12,(d9 xs0 17),(d9 xs0 18),(d9 xs0 19),(d9 xs0 20),v11,(d9 xs0 22),(d9 xs0 23),(d9 xs0 24),(d9 xs0 25),v12])
noncomputable def b3F (cb:Cb) (N:Nat) (call:j4) (xs0:List Value) (v7:Value) (v10:Value) (v13:Value):M R2:=
 cb.bv R2 (bn .sub 3 (.tmp 25) (.const (.int .i64 (.ofNat 1))) (d9 xs0 21) (.int .i64 (.ofNat 1))) fun v14=>
 cb.bv R2 (bn .add 3 (.tmp 27) (.const (.int .i64 (.ofNat 2))) (d9 xs0 26) (.int .i64 (.ofNat 2))) fun v15=>
 M.pure (.normal, [v7,v10,(d9 xs0 13),(d9 xs0 14),(d9 xs0 15),(d9 xs0 16),v7,v13,(d9 xs0 21),v14,v14,(d9 xs0 26),v15,(d9 xs0 24),(d9 xs0 25),v15])
noncomputable def b5y (cb:Cb) (N:Nat) (call:j4) (xs0:List Value) (v7:Value) (v10:Value) (v13:Value):M R2:=
 cb.bv R2 (bn .add 3 (.tmp 29) (.const (.int .i64 (.ofNat 1))) (d9 xs0 26) (.int .i64 (.ofNat 1))) fun v16=>
 M.pure (.normal, [v7,v10,(d9 xs0 13),(d9 xs0 14),(d9 xs0 15),(d9 xs0 16),v7,v13,(d9 xs0 19),(d9 xs0 20),(d9 xs0 21),(d9 xs0 22),(d9 xs0 23),(d9 xs0 26),v16,v16])
noncomputable def b6r (cb:Cb) (N:Nat) (call:j4) (v7:Value) (xs0:List Value) (v10:Value):M R2:=
 cb.bv R2 (bn .eql 9 (.tmp 23) (.const (.string ⟨⟨[59, 41]⟩⟩)) v7 (.string ⟨⟨[59, 41]⟩⟩)) fun v13=>
 j6 v13 (
 b3F cb N call xs0 v7 v10 v13) (
 b5y cb N call xs0 v7 v10 v13)
noncomputable def d1I (cb:Cb) (N:Nat) (call:j4) (xs0:List Value) (v3:Value) (a0:Value) (v4:Value) (v5:Value) (v6:Value) (v7:Value) (vs9:List Value) (v17:Value):M R2:=
 M.pure (.ret, [(d9 xs0 26),v3,a0,v4,v5,a0,(d9 xs0 26),(d9 xs0 26),v6,v7,v7,(d9 vs9 0),(d9 vs9 1),(d9 vs9 2),(d9 vs9 3),(d9 vs9 4),(d9 vs9 5),(d9 vs9 6),(d9 vs9 7),(d9 vs9 8),(d9 vs9 9),(d9 vs9 10),(d9 vs9 11),(d9 vs9 12),(d9 vs9 13),(d9 vs9 14),(d9 vs9 15),(d9 vs9 10),v17,(d9 vs9 15),(d9 vs9 15)])
noncomputable def d2a (cb:Cb) (N:Nat) (call:j4) (xs0:List Value) (v3:Value) (a0:Value) (v4:Value) (v5:Value) (v6:Value) (v7:Value) (vs9:List Value) (v17:Value):M R2:=
 M.pure (.normal, [(d9 xs0 26),v3,a0,v4,v5,a0,(d9 xs0 26),(d9 xs0 26),v6,v7,v7,(d9 vs9 0),(d9 vs9 1),(d9 vs9 2),(d9 vs9 3),(d9 vs9 4),(d9 vs9 5),(d9 vs9 6),(d9 vs9 7),(d9 vs9 8),(d9 vs9 9),(d9 vs9 10),(d9 vs9 11),(d9 vs9 12),(d9 vs9 13),(d9 vs9 14),(d9 vs9 15),(d9 vs9 10),v17,(d9 xs0 29),(d9 xs0 30)])
noncomputable def b5E (cb:Cb) (N:Nat) (call:j4) (a0:Value) (xs0:List Value) (v6:Value) (v3:Value) (v4:Value) (v5:Value):M R2:=
 cb.bv R2 (J4 a0 (some (d9 xs0 26)) (some v6)) fun v7=>
 cb.bj R2 (cb.bv R2 (bn .eql 9 (.tmp 17) (.const (.string ⟨⟨[40, 59]⟩⟩)) v7 (.string ⟨⟨[40, 59]⟩⟩)) fun v10=>
 j6 v10 (
 b4V cb N call xs0 v7 v10) (
 b6r cb N call v7 xs0 v10)) fun x8 vs9=>
 l7 x8 (cb.bv R2 (bn .eql 3 (.tmp 31) (.const (.int .i64 (.ofNat 0))) (d9 vs9 10) (.int .i64 (.ofNat 0))) fun v17=>
 j6 v17 (
 d1I cb N call xs0 v3 a0 v4 v5 v6 v7 vs9 v17) (
 d2a cb N call xs0 v3 a0 v4 v5 v6 v7 vs9 v17)) (fun _=>M.fail) (M.fail) l6
noncomputable def d1G (cb:Cb) (N:Nat) (call:j4) (xs0:List Value) (v3:Value) (a0:Value) (v4:Value) (v5:Value):M R2:=
 M.pure (.exit 0, [(d9 xs0 26),v3,a0,v4,v5,(d9 xs0 5),(d9 xs0 6),(d9 xs0 7),(d9 xs0 8),(d9 xs0 9),(d9 xs0 10),(d9 xs0 11),(d9 xs0 12),(d9 xs0 13),(d9 xs0 14),(d9 xs0 15),(d9 xs0 16),(d9 xs0 17),(d9 xs0 18),(d9 xs0 19),(d9 xs0 20),(d9 xs0 21),(d9 xs0 22),(d9 xs0 23),(d9 xs0 24),(d9 xs0 25),(d9 xs0 26),(d9 xs0 27),(d9 xs0 28),(d9 xs0 29),(d9 xs0 30)])
noncomputable def b3G (cb:Cb) (N:Nat) (call:j4) (a0:Value) (xs0:List Value):M R2:=
 cb.bv R2 (bn .add 3 (.tmp 7) (.const (.int .i64 (.ofNat 1))) (d9 xs0 26) (.int .i64 (.ofNat 1))) fun v3=>
 cb.bv R2 (K7 a0) fun v4=>
 cb.bv R2 (bn .lss 3 (.tmp 8) (.tmp 10) v3 v4) fun v5=>
 j6 v5 (
 cb.bv R2 (bn .add 3 (.tmp 14) (.const (.int .i64 (.ofNat 2))) (d9 xs0 26) (.int .i64 (.ofNat 2))) fun v6=>
 b5E cb N call a0 xs0 v6 v3 v4 v5) (
 d1G cb N call xs0 v3 a0 v4 v5)
noncomputable def c6X (cb:Cb) (N:Nat) (call:j4) (a0:Value) (a1:Value):M CR:=
 cb.bj CR (cb.lp (b3G cb N call a0) N [undef,undef,undef,undef,undef,undef,undef,undef,undef,undef,undef,undef,undef,undef,undef,undef,undef,undef,undef,undef,undef,(.int .i64 (.ofNat 0)),undef,undef,undef,undef,a1,undef,undef,undef,(.int .i64 (.ofNat 0))]) fun x1 vs2=>
 l7 x1 (M.fail) (fun i18=>l8 (Nat.beq i18 0) (M.pure (.ret (.int .i64 (.negSucc 0)))) (M.fail)) (M.pure (.ret (d9 vs2 30))) l6
theorem d3Q (cb:Cb) (N:Nat) (call:j4) (a0:Value) (a1:Value):D5 Tryz.prog A9 cb false N call Tryz.f134 e9M e5C [a0,a1]=c6X cb N call a0 a1:=by kernel_rfl
noncomputable def e8S:Code:=D6 Tryz.f135
noncomputable def e5g:Pl:=(.s none .d (.s none .d (.s none (.s none (.l [10, 11, 12, 13, 14, 15, 16, 7, 17, 18, 19, 20, 21, 22, 23, 24, 25, 26, 27, 4, 5, 28, 29, 30, 31, 32, 33, 34, 35, 36, 37, 38, 39, 40, 41, 42, 43, 44, 45, 46, 47, 48, 49, 50, 51, 52, 53, 54, 6] (.s none .d (.s none (.s none .d (.s none .d (.s none .d (.s (some [28, 29, 30, 31, 32, 33, 34, 35, 36, 37, 38, 39, 40, 41, 42, 43, 44, 45, 46, 47, 48, 49, 50, 51, 52, 6]) .d .d)))) .d))) .d) .d)))
noncomputable def d1p (cb:Cb) (N:Nat) (call:j4) (xs1:List Value) (a0:Value) (v4:Value) (v5:Value) (v6:Value) (v7:Value) (vs9:List Value) (v11:Value):M R2:=
 M.pure (.ret, [(d9 xs1 48),a0,v4,v5,a0,(d9 xs1 48),v6,v6,v6,v7,v7,(d9 vs9 0),(d9 vs9 1),v11,(d9 xs1 48),(d9 xs1 15),(d9 xs1 16),(d9 xs1 17),(d9 xs1 18),(d9 xs1 48),(.int .i64 (.ofNat 4)),(d9 xs1 21),(d9 xs1 22),(d9 xs1 23),(d9 xs1 24),(d9 xs1 25),(d9 xs1 26),(d9 xs1 27),(d9 xs1 28),(d9 xs1 29),(d9 xs1 30),(d9 xs1 31),(d9 xs1 32),(d9 xs1 33),(d9 xs1 34),(d9 xs1 35),(d9 xs1 36),(d9 xs1 37),(d9 xs1 38),(d9 xs1 39),(d9 xs1 40),(d9 xs1 41),(d9 xs1 42),(d9 xs1 43),(d9 xs1 44),(d9 xs1 45),(d9 xs1 46),(d9 xs1 47),(d9 xs1 48)])
noncomputable def d0J (cb:Cb) (N:Nat) (call:j4) (xs1:List Value) (a0:Value) (v4:Value) (v5:Value) (v6:Value) (v7:Value) (vs9:List Value) (v11:Value) (v12:Value) (v13:Value):M R2:=
 M.pure (.ret, [(d9 xs1 48),a0,v4,v5,a0,(d9 xs1 48),v6,v6,v6,v7,v7,(d9 vs9 0),(d9 vs9 1),v11,(d9 xs1 14),v6,v12,(d9 xs1 48),v13,v13,(.int .i64 (.ofNat 0)),(d9 xs1 21),(d9 xs1 22),(d9 xs1 23),(d9 xs1 24),(d9 xs1 25),(d9 xs1 26),(d9 xs1 27),(d9 xs1 28),(d9 xs1 29),(d9 xs1 30),(d9 xs1 31),(d9 xs1 32),(d9 xs1 33),(d9 xs1 34),(d9 xs1 35),(d9 xs1 36),(d9 xs1 37),(d9 xs1 38),(d9 xs1 39),(d9 xs1 40),(d9 xs1 41),(d9 xs1 42),(d9 xs1 43),(d9 xs1 44),(d9 xs1 45),(d9 xs1 46),(d9 xs1 47),(d9 xs1 48)])
noncomputable def b2r (cb:Cb) (N:Nat) (call:j4) (xs1:List Value) (a0:Value) (v4:Value) (v5:Value) (v6:Value) (v7:Value) (vs9:List Value) (v11:Value) (v12:Value):M R2:=
 cb.bv R2 (bn .add 3 (.tmp 26) (.const (.int .i64 (.ofNat 1))) (d9 xs1 48) (.int .i64 (.ofNat 1))) fun v13=>
 d0J cb N call xs1 a0 v4 v5 v6 v7 vs9 v11 v12 v13
noncomputable def b6h (cb:Cb) (N:Nat) (call:j4) (xs1:List Value) (v6:Value) (v16:Value) (vs18:List Value) (v22:Value) (vs24:List Value) (v28:Value) (vs30:List Value) (v34:Value):M R2:=
 cb.bv R2 (bn .add 3 (.tmp 51) (.const (.int .i64 (.ofNat 1))) (d9 xs1 48) (.int .i64 (.ofNat 1))) fun v35=>
 M.pure (.normal, [v6,v16,v16,(d9 vs18 0),(d9 vs18 1),(d9 vs18 2),(d9 vs18 3),(d9 vs18 4),v22,v22,(d9 vs24 0),(d9 vs24 1),(d9 vs24 2),(d9 vs24 3),(d9 vs24 4),v28,v28,(d9 vs30 0),(d9 vs30 1),(d9 vs30 2),(d9 vs30 3),(d9 vs30 4),v34,(d9 xs1 48),v35,v35])
noncomputable def c8g (cb:Cb) (N:Nat) (call:j4) (v6:Value) (v16:Value) (vs18:List Value) (v22:Value) (vs24:List Value) (v28:Value) (vs30:List Value) (v34:Value) (xs1:List Value):M R2:=
 M.pure (.normal, [v6,v16,v16,(d9 vs18 0),(d9 vs18 1),(d9 vs18 2),(d9 vs18 3),(d9 vs18 4),v22,v22,(d9 vs24 0),(d9 vs24 1),(d9 vs24 2),(d9 vs24 3),(d9 vs24 4),v28,v28,(d9 vs30 0),(d9 vs30 1),(d9 vs30 2),(d9 vs30 3),(d9 vs30 4),v34,(d9 xs1 44),(d9 xs1 45),(d9 xs1 48)])
noncomputable def b5a (cb:Cb) (N:Nat) (call:j4) (v28:Value) (xs1:List Value) (a0:Value) (v6:Value) (v16:Value) (vs18:List Value) (v22:Value) (vs24:List Value):M R2:=
 cb.bj R2 (l8 (o7 true v28) (cb.bv R2 (bn .add 3 (.tmp 46) (.const (.int .i64 (.ofNat 1))) (d9 xs1 48) (.int .i64 (.ofNat 1))) fun v31=>
 cb.bv R2 (J5 a0 v31) fun v32=>
 cb.bv R2 (bn .neq 5 (.tmp 48) (.const (.int .u8 (.ofNat 127))) v32 (.int .u8 (.ofNat 127))) fun v33=>
 M.pure (.normal, [a0,(d9 xs1 48),v31,v32,v33])) (M.pure (.normal, [undef,undef,undef,undef,undef]))) fun x29 vs30=>l7 x29 (cb.bv R2 (q9 v28 (d9 vs30 4) (.bool false)) fun v34=>
 j6 v34 (
 b6h cb N call xs1 v6 v16 vs18 v22 vs24 v28 vs30 v34) (
 c8g cb N call v6 v16 vs18 v22 vs24 v28 vs30 v34 xs1)) (fun _=>M.fail) M.fail l6
noncomputable def b1U (cb:Cb) (N:Nat) (call:j4) (v22:Value) (xs1:List Value) (a0:Value) (v6:Value) (v16:Value) (vs18:List Value):M R2:=
 cb.bj R2 (l8 (o7 true v22) (cb.bv R2 (bn .add 3 (.tmp 39) (.const (.int .i64 (.ofNat 1))) (d9 xs1 48) (.int .i64 (.ofNat 1))) fun v25=>
 cb.bv R2 (J5 a0 v25) fun v26=>
 cb.bv R2 (bn .geq 5 (.tmp 41) (.const (.int .u8 (.ofNat 32))) v26 (.int .u8 (.ofNat 32))) fun v27=>
 M.pure (.normal, [a0,(d9 xs1 48),v25,v26,v27])) (M.pure (.normal, [undef,undef,undef,undef,undef]))) fun x23 vs24=>l7 x23 (cb.bv R2 (q9 v22 (d9 vs24 4) (.bool false)) fun v28=>
 b5a cb N call v28 xs1 a0 v6 v16 vs18 v22 vs24) (fun _=>M.fail) M.fail l6
noncomputable def b2X (cb:Cb) (N:Nat) (call:j4) (v16:Value) (xs1:List Value) (a0:Value) (v6:Value):M R2:=
 cb.bj R2 (l8 (o7 true v16) (cb.bv R2 (bn .add 3 (.tmp 31) (.const (.int .i64 (.ofNat 1))) (d9 xs1 48) (.int .i64 (.ofNat 1))) fun v19=>
 cb.bv R2 (K7 a0) fun v20=>
 cb.bv R2 (bn .lss 3 (.tmp 32) (.tmp 34) v19 v20) fun v21=>
 M.pure (.normal, [(d9 xs1 48),v19,a0,v20,v21])) (M.pure (.normal, [undef,undef,undef,undef,undef]))) fun x17 vs18=>l7 x17 (cb.bv R2 (q9 v16 (d9 vs18 4) (.bool false)) fun v22=>
 b1U cb N call v22 xs1 a0 v6 v16 vs18) (fun _=>M.fail) M.fail l6
noncomputable def d1s (cb:Cb) (N:Nat) (call:j4) (xs1:List Value) (a0:Value) (v4:Value) (v5:Value) (v6:Value) (v7:Value) (vs9:List Value) (v11:Value) (v12:Value) (vs15:List Value) (v36:Value):M R2:=
 M.pure (.normal, [(d9 xs1 48),a0,v4,v5,a0,(d9 xs1 48),v6,v6,v6,v7,v7,(d9 vs9 0),(d9 vs9 1),v11,(d9 xs1 14),v6,v12,(d9 xs1 17),(d9 xs1 18),(d9 xs1 19),(d9 xs1 20),(d9 vs15 0),(d9 vs15 1),(d9 vs15 2),(d9 vs15 3),(d9 vs15 4),(d9 vs15 5),(d9 vs15 6),(d9 vs15 7),(d9 vs15 8),(d9 vs15 9),(d9 vs15 10),(d9 vs15 11),(d9 vs15 12),(d9 vs15 13),(d9 vs15 14),(d9 vs15 15),(d9 vs15 16),(d9 vs15 17),(d9 vs15 18),(d9 vs15 19),(d9 vs15 20),(d9 vs15 21),(d9 vs15 22),(d9 vs15 23),(d9 vs15 24),(d9 vs15 25),v36,v36])
noncomputable def b5m (cb:Cb) (N:Nat) (call:j4) (v6:Value) (xs1:List Value) (a0:Value) (v4:Value) (v5:Value) (v7:Value) (vs9:List Value) (v11:Value) (v12:Value):M R2:=
 cb.bj R2 (cb.bv R2 (bn .eql 5 (.tmp 28) (.const (.int .u8 (.ofNat 92))) v6 (.int .u8 (.ofNat 92))) fun v16=>
 b2X cb N call v16 xs1 a0 v6) fun x14 vs15=>
 l7 x14 (cb.bv R2 (bn .add 3 (.tmp 53) (.const (.int .i64 (.ofNat 1))) (d9 vs15 25) (.int .i64 (.ofNat 1))) fun v36=>
 d1s cb N call xs1 a0 v4 v5 v6 v7 vs9 v11 v12 vs15 v36) (fun _=>M.fail) (M.fail) l6
noncomputable def a7j (cb:Cb) (N:Nat) (call:j4) (v6:Value) (xs1:List Value) (a0:Value) (v4:Value) (v5:Value) (v7:Value) (vs9:List Value) (v11:Value):M R2:=
 cb.bv R2 (bn .eql 5 (.tmp 24) (.const (.int .u8 (.ofNat 34))) v6 (.int .u8 (.ofNat 34))) fun v12=>
 j6 v12 (
 b2r cb N call xs1 a0 v4 v5 v6 v7 vs9 v11 v12) (
 b5m cb N call v6 xs1 a0 v4 v5 v7 vs9 v11 v12)
noncomputable def a9B (cb:Cb) (N:Nat) (call:j4) (v6:Value) (xs1:List Value) (a0:Value) (v4:Value) (v5:Value):M R2:=
 cb.bv R2 (bn .lss 5 (.tmp 17) (.const (.int .u8 (.ofNat 32))) v6 (.int .u8 (.ofNat 32))) fun v7=>
 cb.bj R2 (l8 (o7 false v7) (cb.bv R2 (bn .eql 5 (.tmp 20) (.const (.int .u8 (.ofNat 127))) v6 (.int .u8 (.ofNat 127))) fun v10=>
 M.pure (.normal, [v6,v10])) (M.pure (.normal, [undef,undef]))) fun x8 vs9=>l7 x8 (cb.bv R2 (q9 v7 (.bool true) (d9 vs9 1)) fun v11=>
 j6 v11 (
 d1p cb N call xs1 a0 v4 v5 v6 v7 vs9 v11) (
 a7j cb N call v6 xs1 a0 v4 v5 v7 vs9 v11)) (fun _=>M.fail) M.fail l6
noncomputable def c0m (cb:Cb) (N:Nat) (call:j4) (xs1:List Value) (a0:Value) (v4:Value) (v5:Value):M R2:=
 M.pure (.exit 0, [(d9 xs1 48),a0,v4,v5,(d9 xs1 4),(d9 xs1 5),(d9 xs1 6),(d9 xs1 7),(d9 xs1 8),(d9 xs1 9),(d9 xs1 10),(d9 xs1 11),(d9 xs1 12),(d9 xs1 13),(d9 xs1 14),(d9 xs1 15),(d9 xs1 16),(d9 xs1 17),(d9 xs1 18),(d9 xs1 19),(d9 xs1 20),(d9 xs1 21),(d9 xs1 22),(d9 xs1 23),(d9 xs1 24),(d9 xs1 25),(d9 xs1 26),(d9 xs1 27),(d9 xs1 28),(d9 xs1 29),(d9 xs1 30),(d9 xs1 31),(d9 xs1 32),(d9 xs1 33),(d9 xs1 34),(d9 xs1 35),(d9 xs1 36),(d9 xs1 37),(d9 xs1 38),(d9 xs1 39),(d9 xs1 40),(d9 xs1 41),(d9 xs1 42),(d9 xs1 43),(d9 xs1 44),(d9 xs1 45),(d9 xs1 46),(d9 xs1 47),(d9 xs1 48)])
noncomputable def a6X (cb:Cb) (N:Nat) (call:j4) (a0:Value) (xs1:List Value):M R2:=
 cb.bv R2 (K7 a0) fun v4=>
 cb.bv R2 (bn .lss 3 (.tmp 10) (.tmp 12) (d9 xs1 48) v4) fun v5=>
 j6 v5 (
 cb.bv R2 (J5 a0 (d9 xs1 48)) fun v6=>
 a9B cb N call v6 xs1 a0 v4 v5) (
 c0m cb N call xs1 a0 v4 v5)
noncomputable def a6G (cb:Cb) (N:Nat) (call:j4) (a0:Value) (v0:Value) (a1:Value):M CR:=
 cb.bj CR (cb.lp (a6X cb N call a0) N [undef,undef,undef,undef,undef,undef,undef,undef,undef,undef,undef,undef,undef,undef,undef,undef,undef,undef,undef,(.int .i64 (.ofNat 0)),(.int .i64 (.ofNat 0)),undef,undef,undef,undef,undef,undef,undef,undef,undef,undef,undef,undef,undef,undef,undef,undef,undef,undef,undef,undef,undef,undef,undef,undef,undef,undef,undef,v0]) fun x2 vs3=>
 l7 x2 (M.fail) (fun i37=>l8 (Nat.beq i37 0) (M.pure (.ret (.tuple ⟨[a1,(.int .i64 (.ofNat 3))]⟩))) (M.fail)) (M.pure (.ret (.tuple ⟨[(d9 vs3 19),(d9 vs3 20)]⟩))) l6
noncomputable def c6g (cb:Cb) (N:Nat) (call:j4) (a0:Value) (a1:Value):M CR:=
 cb.bv CR (bn .add 3 (.tmp 8) (.const (.int .i64 (.ofNat 1))) a1 (.int .i64 (.ofNat 1))) fun v0=>
 a6G cb N call a0 v0 a1
theorem d5L (cb:Cb) (N:Nat) (call:j4) (a0:Value) (a1:Value):D5 Tryz.prog A9 cb false N call Tryz.f135 e8S e5g [a0,a1]=c6g cb N call a0 a1:=by kernel_rfl
noncomputable def f0t:Code:=D6 Tryz.f136
noncomputable def e4C:Pl:=.d
noncomputable def b8b (cb:Cb) (N:Nat) (call:j4) (v16:Value) (a0:Value):M CR:=
 cb.bj CR (l8 (o7 true v16) (cb.bv R2 (bn .neq 5 (.tmp 22) (.const (.int .u8 (.ofNat 59))) a0 (.int .u8 (.ofNat 59))) fun v19=>
 M.pure (.normal, [a0,v19])) (M.pure (.normal, [undef,undef]))) fun x17 vs18=>l7 x17 (cb.bv CR (q9 v16 (d9 vs18 1) (.bool false)) fun v20=>
 cb.bj CR (l8 (o7 true v20) (cb.bv R2 (bn .neq 5 (.tmp 26) (.const (.int .u8 (.ofNat 44))) a0 (.int .u8 (.ofNat 44))) fun v23=>
 M.pure (.normal, [a0,v23])) (M.pure (.normal, [undef,undef]))) fun x21 vs22=>l7 x21 (cb.bv CR (q9 v20 (d9 vs22 1) (.bool false)) fun v24=>
 M.pure (.ret v24)) (fun _=>M.fail) M.fail l6) (fun _=>M.fail) M.fail l6
noncomputable def b8s (cb:Cb) (N:Nat) (call:j4) (v8:Value) (a0:Value):M CR:=
 cb.bj CR (l8 (o7 true v8) (cb.bv R2 (bn .neq 5 (.tmp 14) (.const (.int .u8 (.ofNat 41))) a0 (.int .u8 (.ofNat 41))) fun v11=>
 M.pure (.normal, [a0,v11])) (M.pure (.normal, [undef,undef]))) fun x9 vs10=>l7 x9 (cb.bv CR (q9 v8 (d9 vs10 1) (.bool false)) fun v12=>
 cb.bj CR (l8 (o7 true v12) (cb.bv R2 (bn .neq 5 (.tmp 18) (.const (.int .u8 (.ofNat 34))) a0 (.int .u8 (.ofNat 34))) fun v15=>
 M.pure (.normal, [a0,v15])) (M.pure (.normal, [undef,undef]))) fun x13 vs14=>l7 x13 (cb.bv CR (q9 v12 (d9 vs14 1) (.bool false)) fun v16=>
 b8b cb N call v16 a0) (fun _=>M.fail) M.fail l6) (fun _=>M.fail) M.fail l6
noncomputable def b6S (cb:Cb) (N:Nat) (call:j4) (v0:Value) (a0:Value):M CR:=
 cb.bj CR (l8 (o7 true v0) (cb.bv R2 (bn .leq 5 (.tmp 6) (.const (.int .u8 (.ofNat 126))) a0 (.int .u8 (.ofNat 126))) fun v3=>
 M.pure (.normal, [a0,v3])) (M.pure (.normal, [undef,undef]))) fun x1 vs2=>l7 x1 (cb.bv CR (q9 v0 (d9 vs2 1) (.bool false)) fun v4=>
 cb.bj CR (l8 (o7 true v4) (cb.bv R2 (bn .neq 5 (.tmp 10) (.const (.int .u8 (.ofNat 40))) a0 (.int .u8 (.ofNat 40))) fun v7=>
 M.pure (.normal, [a0,v7])) (M.pure (.normal, [undef,undef]))) fun x5 vs6=>l7 x5 (cb.bv CR (q9 v4 (d9 vs6 1) (.bool false)) fun v8=>
 b8s cb N call v8 a0) (fun _=>M.fail) M.fail l6) (fun _=>M.fail) M.fail l6
noncomputable def c5G (cb:Cb) (N:Nat) (call:j4) (a0:Value):M CR:=
 cb.bv CR (bn .geq 5 (.tmp 3) (.const (.int .u8 (.ofNat 33))) a0 (.int .u8 (.ofNat 33))) fun v0=>
 b6S cb N call v0 a0
theorem d4X (cb:Cb) (N:Nat) (call:j4) (a0:Value):D5 Tryz.prog A9 cb false N call Tryz.f136 f0t e4C [a0]=c5G cb N call a0:=by kernel_rfl
noncomputable def e8C:Code:=D6 Tryz.f137
noncomputable def e3n:Pl:=(.s none .d (.s (some [3, 5, 6, 7, 8, 9, 4, 2]) .d .d))
noncomputable def c8y (cb:Cb) (N:Nat) (call:j4) (v2:Value) (a0:Value):M R2:=
 j6 v2 (
 M.pure (.ret, [a0,v2,undef,undef,undef,undef,v2,(.bool false)])) (
 M.pure (.normal, [a0,v2,undef,undef,undef,undef,v2,(.bool false)]))
noncomputable def d2v (cb:Cb) (N:Nat) (call:j4) (v3:Value) (a0:Value) (v2:Value):M R2:=
 j6 v3 (
 M.pure (.ret, [a0,v2,v3,undef,undef,undef,v3,(.bool false)])) (
 M.pure (.normal, [a0,v2,v3,undef,undef,undef,v3,(.bool false)]))
noncomputable def b7L (cb:Cb) (N:Nat) (call:j4) (a0:Value) (v2:Value) (v3:Value) (v4:Value) (v5:Value):M R2:=
 cb.bv R2 (bn .eql 5 (.tmp 3) (.const (.int .u8 (.ofNat 44))) a0 (.int .u8 (.ofNat 44))) fun v6=>
 j6 v6 (
 M.pure (.ret, [a0,v2,v3,v4,v5,v6,v6,(.bool false)])) (
 M.pure (.normal, [a0,v2,v3,v4,v5,v6,v6,(.bool false)]))
noncomputable def b6y (cb:Cb) (N:Nat) (call:j4) (a0:Value) (v2:Value) (v3:Value) (v4:Value):M R2:=
 cb.bv R2 (bn .eql 5 (.tmp 3) (.const (.int .u8 (.ofNat 59))) a0 (.int .u8 (.ofNat 59))) fun v5=>
 j6 v5 (
 j6 v5 (
 M.pure (.ret, [a0,v2,v3,v4,v5,undef,v5,(.bool false)])) (
 M.pure (.normal, [a0,v2,v3,v4,v5,undef,v5,(.bool false)]))) (
 b7L cb N call a0 v2 v3 v4 v5)
noncomputable def b6D (cb:Cb) (N:Nat) (call:j4) (a0:Value) (v2:Value) (v3:Value):M R2:=
 cb.bv R2 (bn .eql 5 (.tmp 3) (.const (.int .u8 (.ofNat 34))) a0 (.int .u8 (.ofNat 34))) fun v4=>
 j6 v4 (
 j6 v4 (
 M.pure (.ret, [a0,v2,v3,v4,undef,undef,v4,(.bool false)])) (
 M.pure (.normal, [a0,v2,v3,v4,undef,undef,v4,(.bool false)]))) (
 b6y cb N call a0 v2 v3 v4)
noncomputable def b8k (cb:Cb) (N:Nat) (call:j4) (a0:Value) (v2:Value):M R2:=
 cb.bv R2 (bn .eql 5 (.tmp 3) (.const (.int .u8 (.ofNat 41))) a0 (.int .u8 (.ofNat 41))) fun v3=>
 j6 v3 (
 d2v cb N call v3 a0 v2) (
 b6D cb N call a0 v2 v3)
noncomputable def c2c (cb:Cb) (N:Nat) (call:j4) (a0:Value):M CR:=
 cb.bj CR (cb.bv R2 (bn .eql 5 (.tmp 3) (.const (.int .u8 (.ofNat 40))) a0 (.int .u8 (.ofNat 40))) fun v2=>
 j6 v2 (
 c8y cb N call v2 a0) (
 b8k cb N call a0 v2)) fun x0 vs1=>
 l7 x0 (cb.bv CR (bn .geq 5 (.tmp 10) (.const (.int .u8 (.ofNat 33))) a0 (.int .u8 (.ofNat 33))) fun v7=>
 cb.bj CR (l8 (o7 true v7) (cb.bv R2 (bn .leq 5 (.tmp 13) (.const (.int .u8 (.ofNat 126))) a0 (.int .u8 (.ofNat 126))) fun v10=>
 M.pure (.normal, [a0,v10])) (M.pure (.normal, [undef,undef]))) fun x8 vs9=>l7 x8 (cb.bv CR (q9 v7 (d9 vs9 1) (.bool false)) fun v11=>
 M.pure (.ret v11)) (fun _=>M.fail) M.fail l6) (fun _=>M.fail) (M.pure (.ret (d9 vs1 7))) l6
theorem d3P (cb:Cb) (N:Nat) (call:j4) (a0:Value):D5 Tryz.prog A9 cb false N call Tryz.f137 e8C e3n [a0]=c2c cb N call a0:=by kernel_rfl
noncomputable def d5i:Code:=D6 Tryz.f138
noncomputable def e2m:Pl:=.d
noncomputable def a3l:List Oper:=J7 d5i 1
noncomputable def a3P:List Oper:=J7 d5i 3
noncomputable def b5u (call:j4) (u0:Value) (u1:Value) (u2:Value) (u3:Value) (u4:Value) (u5:Value) (u6:Value) (u7:Value) (u8:Value) (u9:Value):M R2:=
 M.bind (M.foot (M.pure u3)) fun y0=>
 M.bind (M.foot (q8 y0.1)) fun y1=>
 M.bind (M.foot (l9 2 y1.1)) fun y2=>
 M.bind (M.foot (j5 y2.1)) fun y3=>
 M.bind (M.foot (M.pure u3)) fun y4=>
 M.bind (M.foot (q8 y4.1)) fun y5=>
 M.bind (M.foot (l9 1 y5.1)) fun y6=>
 M.bind (M.foot (j5 y6.1)) fun y7=>
 M.bind (M.foot (H6 y7.1)) fun y8=>
 M.bind (M.foot (bn .geq 3 (.tmp 7) (.tmp 12) y3.1 y8.1)) fun y9=>
 M.guard (E9 a3l (H9 a3l [y0.2,y1.2,y2.2,y3.2,y4.2,y5.2,y6.2,y7.2,y8.2,y9.2]) [] [] 0) (M.pure (.normal, [y0.1,y1.1,y2.1,y3.1,y4.1,y5.1,y6.1,y7.1,y8.1,y9.1]))
theorem c9J (call:j4) (u0:Value) (u1:Value) (u2:Value) (u3:Value) (u4:Value) (u5:Value) (u6:Value) (u7:Value) (u8:Value) (u9:Value):dr call a3l 25 [4, 5, 6, 0, 8, 9, 10, 11, 7, 12] [u0,u1,u2,u3,u4,u5,u6,u7,u8,u9] [4, 5, 6, 7, 8, 9, 10, 11, 12, 13]=b5u call u0 u1 u2 u3 u4 u5 u6 u7 u8 u9:=(F6 _ _ _ _ _ _ _ _).trans (by kernel_rfl)
noncomputable def b8z (call:j4) (u0:Value) (u1:Value) (u2:Value) (u3:Value) (u4:Value) (u5:Value) (u6:Value) (u7:Value) (u8:Value) (u9:Value) (u10:Value) (u11:Value):M R2:=
 M.bind (M.foot (M.pure u3)) fun y0=>
 M.bind (M.foot (q8 y0.1)) fun y1=>
 M.bind (M.foot (l9 1 y1.1)) fun y2=>
 M.bind (M.foot (j5 y2.1)) fun y3=>
 M.bind (M.foot (M.pure u3)) fun y4=>
 M.bind (M.foot (q8 y4.1)) fun y5=>
 M.bind (M.foot (l9 2 y5.1)) fun y6=>
 M.bind (M.foot (j5 y6.1)) fun y7=>
 M.bind (M.foot (F3 4 y3.1 y7.1)) fun y8=>
 M.bind (M.foot (E8 4 y8.1)) fun y9=>
 M.bind (M.foot (r9 4 u10 y9.1)) fun y10=>
 M.bind (M.foot (M.pure (.bool true))) fun y11=>
 M.guard (E9 a3P (H9 a3P [y0.2,y1.2,y2.2,y3.2,y4.2,y5.2,y6.2,y7.2,y8.2,y9.2,y10.2,y11.2]) [] [] 0) (M.pure (.normal, [y0.1,y1.1,y2.1,y3.1,y4.1,y5.1,y6.1,y7.1,y8.1,y9.1,y11.1]))
theorem d1W (call:j4) (u0:Value) (u1:Value) (u2:Value) (u3:Value) (u4:Value) (u5:Value) (u6:Value) (u7:Value) (u8:Value) (u9:Value) (u10:Value) (u11:Value):dr call a3P 25 [15, 16, 17, 0, 19, 20, 21, 18, 22, 23, 2, 24] [u0,u1,u2,u3,u4,u5,u6,u7,u8,u9,u10,u11] [15, 16, 17, 18, 19, 20, 21, 22, 23, 24, 3]=b8z call u0 u1 u2 u3 u4 u5 u6 u7 u8 u9 u10 u11:=(F6 _ _ _ _ _ _ _ _).trans (by kernel_rfl)
noncomputable def d2k (cb:Cb) (N:Nat) (call:j4) (v0:Value):M CR:=
 cb.bv CR (H7 [] [] [(.int .i64 (.ofNat 0)),(.int .i64 (.ofNat 0)),(.string ⟨⟨[]⟩⟩),(.slice none 0 0)]) fun v2=>
 cb.bv CR (r9 4 v0 v2) fun v3=>
 K5 v0 fun ad5=>cb.bv CR (M.bind (loadN ad5 4) fun q=>M.pure (.agg ⟨q⟩)) fun v4=>
 M.pure (.ret (.tuple ⟨[v4,(.bool false)]⟩))
noncomputable def b3c (cb:Cb) (N:Nat) (call:j4) (a0:Value) (v0:Value):M CR:=
 cb.bj CR (dr call a3P 25 [15, 16, 17, 0, 19, 20, 21, 18, 22, 23, 2, 24] [undef,undef,undef,a0,undef,undef,undef,undef,undef,undef,v0,undef] [15, 16, 17, 18, 19, 20, 21, 22, 23, 24, 3]) fun _ vs6=>
 K5 v0 fun ad8=>cb.bv CR (M.bind (loadN ad8 4) fun q=>M.pure (.agg ⟨q⟩)) fun v7=>
 M.pure (.ret (.tuple ⟨[v7,(d9 vs6 10)]⟩))
noncomputable def c3b (cb:Cb) (N:Nat) (call:j4) (a0:Value):M CR:=
 cb.bv CR (J6 [(.int .i64 (.ofNat 0)),(.int .i64 (.ofNat 0)),(.string ⟨⟨[]⟩⟩),(.slice none 0 0)]) fun v0=>
 cb.bj CR (dr call a3l 25 [4, 5, 6, 0, 8, 9, 10, 11, 7, 12] [undef,undef,undef,a0,undef,undef,undef,undef,undef,undef] [4, 5, 6, 7, 8, 9, 10, 11, 12, 13]) fun _ vs1=>
 j6 (d9 vs1 9) (
 d2k cb N call v0) (
 b3c cb N call a0 v0)
theorem d3v (cb:Cb) (N:Nat) (call:j4) (a0:Value):D5 Tryz.prog A9 cb false N call Tryz.f138 d5i e2m [a0]=c3b cb N call a0:=by kernel_rfl
noncomputable def d4R:Code:=D6 Tryz.f139
noncomputable def e6a:Pl:=.d
noncomputable def a3h:List Oper:=J7 d4R 1
noncomputable def a3a:List Oper:=J7 d4R 6
noncomputable def b3E (call:j4) (u0:Value) (u1:Value) (u2:Value) (u3:Value) (u4:Value) (u5:Value) (u6:Value) (u7:Value) (u8:Value) (u9:Value) (u10:Value) (u11:Value):M R2:=
 M.bind (M.foot (M.pure u3)) fun y0=>
 M.bind (M.foot (q8 y0.1)) fun y1=>
 M.bind (M.foot (l9 1 y1.1)) fun y2=>
 M.bind (M.foot (j5 y2.1)) fun y3=>
 M.bind (M.foot (M.pure u3)) fun y4=>
 M.bind (M.foot (q8 y4.1)) fun y5=>
 M.bind (M.foot (l9 2 y5.1)) fun y6=>
 M.bind (M.foot (j5 y6.1)) fun y7=>
 M.bind (M.foot (F3 4 y3.1 y7.1)) fun y8=>
 M.bind (M.foot (l9 3 y8.1)) fun y9=>
 M.bind (M.foot (j5 y9.1)) fun y10=>
 M.bind (M.foot (M.pure y10.1)) fun y11=>
 M.guard (E9 a3h (H9 a3h [y0.2,y1.2,y2.2,y3.2,y4.2,y5.2,y6.2,y7.2,y8.2,y9.2,y10.2,y11.2]) [] [] 0) (M.pure (.normal, [y0.1,y1.1,y2.1,y3.1,y4.1,y5.1,y6.1,y7.1,y8.1,y9.1,y10.1,y11.1]))
theorem d0u (call:j4) (u0:Value) (u1:Value) (u2:Value) (u3:Value) (u4:Value) (u5:Value) (u6:Value) (u7:Value) (u8:Value) (u9:Value) (u10:Value) (u11:Value):dr call a3h 64 [7, 8, 9, 0, 11, 12, 13, 10, 14, 15, 16, 17] [u0,u1,u2,u3,u4,u5,u6,u7,u8,u9,u10,u11] [7, 8, 9, 10, 11, 12, 13, 14, 15, 16, 17, 4]=b3E call u0 u1 u2 u3 u4 u5 u6 u7 u8 u9 u10 u11:=(F6 _ _ _ _ _ _ _ _).trans (by kernel_rfl)
noncomputable def b4z (call:j4) (u0:Value) (u1:Value) (u2:Value) (u3:Value) (u4:Value) (u5:Value) (u6:Value) (u7:Value) (u8:Value) (u9:Value) (u10:Value):M R2:=
 M.bind (M.foot (M.pure u0)) fun y0=>
 M.bind (M.foot (q8 y0.1)) fun y1=>
 M.bind (M.foot (l9 0 y1.1)) fun y2=>
 M.bind (M.foot (j5 y2.1)) fun y3=>
 M.bind (M.foot (M.pure u4)) fun y4=>
 M.bind (M.foot (F3 4 y4.1 (.int .i64 (.ofNat 1)))) fun y5=>
 M.bind (M.foot (l9 1 y5.1)) fun y6=>
 M.bind (M.foot (j5 y6.1)) fun y7=>
 M.bind (M.foot (D7 call 72 [y3.1,y7.1,(.int .i64 (.ofNat 24))])) fun y8=>
 M.bind (M.foot (M.pure (.int .i64 (.ofNat 0)))) fun y9=>
 M.bind (M.foot (M.pure y8.1)) fun y10=>
 M.guard (E9 a3a (H9 a3a [y0.2,y1.2,y2.2,y3.2,y4.2,y5.2,y6.2,y7.2,y8.2,y9.2,y10.2]) [] [] 0) (M.pure (.normal, [y0.1,y1.1,y2.1,y3.1,y4.1,y5.1,y6.1,y7.1,y8.1,y9.1,y10.1]))
theorem d1w (call:j4) (u0:Value) (u1:Value) (u2:Value) (u3:Value) (u4:Value) (u5:Value) (u6:Value) (u7:Value) (u8:Value) (u9:Value) (u10:Value):dr call a3a 64 [0, 41, 42, 43, 4, 45, 46, 47, 44, 48, 49] [u0,u1,u2,u3,u4,u5,u6,u7,u8,u9,u10] [41, 42, 43, 44, 45, 46, 47, 48, 49, 2, 3]=b4z call u0 u1 u2 u3 u4 u5 u6 u7 u8 u9 u10:=(F6 _ _ _ _ _ _ _ _).trans (by kernel_rfl)
noncomputable def b6L (cb:Cb) (N:Nat) (call:j4) (a0:Value) (vs0:List Value):M CR:=
 cb.bj CR (dr call a3a 64 [0, 41, 42, 43, 4, 45, 46, 47, 44, 48, 49] [a0,undef,undef,undef,(d9 vs0 11),undef,undef,undef,undef,undef,undef] [41, 42, 43, 44, 45, 46, 47, 48, 49, 2, 3]) fun _ vs18=>
 M.pure (.ret (.tuple ⟨[(d9 vs18 9),(d9 vs18 10)]⟩))
noncomputable def b7D (cb:Cb) (N:Nat) (call:j4) (a0:Value) (v15:Value):M CR:=
 cb.bv CR (q8 a0) fun v22=>
 cb.bv CR (l9 2 v22) fun v23=>
 cb.bv CR (j5 v23) fun v24=>
 cb.bv CR (bn .add 3 (.tmp 59) (.const (.int .i64 (.ofNat 1))) v24 (.int .i64 (.ofNat 1))) fun v25=>
 cb.bv CR (q8 a0) fun v26=>
 cb.bv CR (l9 2 v26) fun v27=>
 cb.bv CR (r9 1 v27 v25) fun v28=>
 M.pure (.ret (.tuple ⟨[v15,(.bool true)]⟩))
noncomputable def b6t (cb:Cb) (N:Nat) (call:j4) (vs0:List Value) (a0:Value) (v15:Value):M CR:=
 cb.bv CR (H6 (d9 vs0 11)) fun v19=>
 cb.bv CR (bn .gtr 3 (.tmp 51) (.const (.int .i64 (.ofNat 2))) v19 (.int .i64 (.ofNat 2))) fun v20=>
 j6 v20 (
 cb.bc CR (call 181 [a0,(d9 vs0 11),(.int .i64 (.ofNat 2))]) (fun v21=>
 M.pure (.ret (.tuple ⟨[(.int .i64 (.ofNat 0)),v21]⟩))) l6) (
 b7D cb N call a0 v15)
noncomputable def b7V (cb:Cb) (N:Nat) (call:j4) (vs0:List Value) (a0:Value):M CR:=
 cb.bv CR (F3 4 (d9 vs0 11) (.int .i64 (.ofNat 1))) fun v11=>
 cb.bv CR (l9 2 v11) fun v12=>
 cb.bv CR (j5 v12) fun v13=>
 cb.bc CR (call 182 [v13]) (fun v14=>
 cb.bv CR (z8 0 v14) fun v15=>
 cb.bv CR (z8 1 v14) fun v16=>
 cb.bv CR (un .not v16) fun v17=>
 j6 v17 (
 b6L cb N call a0 vs0) (
 b6t cb N call vs0 a0 v15)) l6
noncomputable def b7f (cb:Cb) (N:Nat) (call:j4) (v2:Value) (vs0:List Value) (a0:Value):M CR:=
 cb.bj CR (l8 (o7 false v2) (cb.bv R2 (F3 4 (d9 vs0 11) (.int .i64 (.ofNat 1))) fun v5=>
 cb.bv R2 (l9 0 v5) fun v6=>
 cb.bv R2 (j5 v6) fun v7=>
 cb.bv R2 (bn .neq 117 (.tmp 25) (.const (.int .i64 (.ofNat 2))) v7 (.int .i64 (.ofNat 2))) fun v8=>
 M.pure (.normal, [(d9 vs0 11),v5,v6,v7,v8])) (M.pure (.normal, [undef,undef,undef,undef,undef]))) fun x3 vs4=>l7 x3 (cb.bv CR (q9 v2 (.bool true) (d9 vs4 4)) fun v9=>
 j6 v9 (
 cb.bc CR (call 181 [a0,(d9 vs0 11),(.int .i64 (.ofNat 1))]) (fun v10=>
 M.pure (.ret (.tuple ⟨[(.int .i64 (.ofNat 0)),v10]⟩))) l6) (
 b7V cb N call vs0 a0)) (fun _=>M.fail) M.fail l6
noncomputable def c0N (cb:Cb) (N:Nat) (call:j4) (a0:Value):M CR:=
 cb.bj CR (dr call a3h 64 [7, 8, 9, 0, 11, 12, 13, 10, 14, 15, 16, 17] [undef,undef,undef,a0,undef,undef,undef,undef,undef,undef,undef,undef] [7, 8, 9, 10, 11, 12, 13, 14, 15, 16, 17, 4]) fun _ vs0=>
 cb.bv CR (H6 (d9 vs0 11)) fun v1=>
 cb.bv CR (bn .lss 3 (.tmp 19) (.const (.int .i64 (.ofNat 2))) v1 (.int .i64 (.ofNat 2))) fun v2=>
 b7f cb N call v2 vs0 a0
theorem d3l (cb:Cb) (N:Nat) (call:j4) (a0:Value):D5 Tryz.prog A9 cb false N call Tryz.f139 d4R e6a [a0]=c0N cb N call a0:=by kernel_rfl
noncomputable def f0r:Code:=D6 Tryz.f140
noncomputable def e5i:Pl:=(.s none .d (.s (some [10, 11, 9, 12, 13, 3, 4, 14, 15, 16, 17, 18, 19, 20, 21, 22, 23, 24, 25, 26, 27, 28, 29, 30, 31, 32, 33, 34, 35, 36]) .d .d))
noncomputable def b1R (cb:Cb) (N:Nat) (call:j4) (a0:Value) (v2:Value) (v3:Value) (v4:Value) (v5:Value) (vs8:List Value) (v12:Value) (vs14:List Value) (v18:Value) (v19:Value) (v20:Value) (v21:Value) (v22:Value):M R2:=
 cb.bv R2 (q8 a0) fun v24=>
 cb.bv R2 (l9 2 v24) fun v25=>
 cb.bv R2 (j5 v25) fun v26=>
 cb.bv R2 (bn .add 3 (.tmp 33) (.const (.int .i64 (.ofNat 1))) v26 (.int .i64 (.ofNat 1))) fun v27=>
 cb.bv R2 (q8 a0) fun v28=>
 cb.bv R2 (l9 2 v28) fun v29=>
 cb.bv R2 (r9 1 v29 v27) fun v30=>
 M.pure (.normal, [a0,v2,v2,v3,v4,v5,v4,v4,v4,(d9 vs8 0),(d9 vs8 1),(d9 vs8 2),v12,v12,(d9 vs14 0),(d9 vs14 1),(d9 vs14 2),v18,a0,v19,v20,v21,v22,a0,v24,v25,v26,v27,v28,v29])
noncomputable def b7x (cb:Cb) (N:Nat) (call:j4) (v5:Value) (a0:Value) (v2:Value) (v3:Value) (v4:Value) (vs8:List Value) (v12:Value) (vs14:List Value) (v18:Value):M R2:=
 cb.bv R2 (l9 2 v5) fun v19=>
 cb.bv R2 (j5 v19) fun v20=>
 cb.bv R2 (q8 a0) fun v21=>
 cb.bv R2 (l9 13 v21) fun v22=>
 cb.bv R2 (r9 1 v22 v20) fun v23=>
 b1R cb N call a0 v2 v3 v4 v5 vs8 v12 vs14 v18 v19 v20 v21 v22
noncomputable def d0y (cb:Cb) (N:Nat) (call:j4) (a0:Value) (v2:Value) (v3:Value) (v4:Value) (v5:Value) (vs8:List Value) (v12:Value) (vs14:List Value) (v18:Value):M R2:=
 M.pure (.normal, [a0,v2,v2,v3,v4,v5,v4,v4,v4,(d9 vs8 0),(d9 vs8 1),(d9 vs8 2),v12,v12,(d9 vs14 0),(d9 vs14 1),(d9 vs14 2),v18,undef,undef,undef,undef,undef,undef,undef,undef,undef,undef,undef,undef])
noncomputable def b1p (cb:Cb) (N:Nat) (call:j4) (v4:Value) (vs8:List Value) (v5:Value) (a0:Value) (v2:Value) (v3:Value):M R2:=
 cb.bv R2 (q9 v4 (d9 vs8 2) (.bool false)) fun v12=>
 cb.bj R2 (l8 (o7 true v12) (cb.bv R2 (l9 2 v5) fun v15=>
 cb.bv R2 (j5 v15) fun v16=>
 cb.bc R2 (call 107 [v16]) (fun v17=>
 M.pure (.normal, [v15,v16,v17])) l6) (M.pure (.normal, [undef,undef,undef]))) fun x13 vs14=>l7 x13 (cb.bv R2 (q9 v12 (d9 vs14 2) (.bool false)) fun v18=>
 j6 v18 (
 b7x cb N call v5 a0 v2 v3 v4 vs8 v12 vs14 v18) (
 d0y cb N call a0 v2 v3 v4 v5 vs8 v12 vs14 v18)) (fun _=>M.fail) M.fail l6
noncomputable def b7O (cb:Cb) (N:Nat) (call:j4) (v3:Value) (v4:Value) (a0:Value) (v2:Value):M R2:=
 cb.bv R2 (J6 [(.int .i64 (.ofNat 0)),(.int .i64 (.ofNat 0)),(.string ⟨⟨[]⟩⟩),(.slice none 0 0)]) fun v5=>
 cb.bv R2 (r9 4 v5 v3) fun v6=>
 cb.bj R2 (l8 (o7 true v4) (cb.bv R2 (l9 0 v5) fun v9=>
 cb.bv R2 (j5 v9) fun v10=>
 cb.bv R2 (bn .eql 117 (.tmp 17) (.const (.int .i64 (.ofNat 2))) v10 (.int .i64 (.ofNat 2))) fun v11=>
 M.pure (.normal, [v9,v10,v11])) (M.pure (.normal, [undef,undef,undef]))) fun x7 vs8=>l7 x7 (b1p cb N call v4 vs8 v5 a0 v2 v3) (fun _=>M.fail) M.fail l6
noncomputable def e0d (cb:Cb) (N:Nat) (call:j4) (a0:Value):M CR:=
 cb.bc CR (call 139 [a0]) (fun v41=>
 cb.bv CR (z8 0 v41) fun v42=>
 cb.bv CR (z8 1 v41) fun v43=>
 cb.bv CR (H7 [(0, 1),(1, 1)] [(.int .i64 (.ofNat 1)),v42] [(.int .i64 (.ofNat 0)),(.int .i64 (.ofNat 0)),(.int .i64 (.ofNat 0))]) fun v44=>
 cb.bv CR (q8 a0) fun v45=>
 cb.bv CR (l9 4 v45) fun v46=>
 cb.bv CR (l9 4 v46) fun v47=>
 cb.bv CR (r9 3 v47 v44) fun v48=>
 M.pure (.ret v43)) l6
noncomputable def d9N (cb:Cb) (N:Nat) (call:j4) (a0:Value):M CR:=
 cb.bv CR (q8 a0) fun v54=>
 cb.bv CR (l9 4 v54) fun v55=>
 cb.bv CR (l9 4 v55) fun v56=>
 cb.bv CR (l9 0 v56) fun v57=>
 cb.bv CR (r9 1 v57 (.int .i64 (.ofNat 2))) fun v58=>
 cb.bv CR (q8 a0) fun v59=>
 cb.bv CR (l9 4 v59) fun v60=>
 cb.bv CR (l9 4 v60) fun v61=>
 cb.bv CR (l9 2 v61) fun v62=>
 cb.bc CR (call 144 [a0,v62]) (fun v63=>
 M.pure (.ret v63)) l6
noncomputable def d9P (cb:Cb) (N:Nat) (call:j4) (v33:Value) (v34:Value) (a0:Value):M CR:=
 cb.bj CR (l8 (o7 true v33) (cb.bv R2 (E8 4 v34) fun v51=>
 cb.bc R2 (call 113 [v51,(.string ⟨⟨[116, 121, 112, 101]⟩⟩)]) (fun v52=>
 M.pure (.normal, [v51,v52])) l6) (M.pure (.normal, [undef,undef]))) fun x49 vs50=>l7 x49 (cb.bv CR (q9 v33 (d9 vs50 1) (.bool false)) fun v53=>
 j6 v53 (
 d9N cb N call a0) (
 M.pure (.ret (.bool true)))) (fun _=>M.fail) M.fail l6
noncomputable def d1T (cb:Cb) (N:Nat) (call:j4) (v32:Value) (v33:Value) (a0:Value):M CR:=
 cb.bv CR (J6 [(.int .i64 (.ofNat 0)),(.int .i64 (.ofNat 0)),(.string ⟨⟨[]⟩⟩),(.slice none 0 0)]) fun v34=>
 cb.bv CR (r9 4 v34 v32) fun v35=>
 cb.bj CR (l8 (o7 true v33) (cb.bv R2 (E8 4 v34) fun v38=>
 cb.bc R2 (call 113 [v38,(.string ⟨⟨[114, 101, 115, 117, 108, 116]⟩⟩)]) (fun v39=>
 M.pure (.normal, [v38,v39])) l6) (M.pure (.normal, [undef,undef]))) fun x36 vs37=>l7 x36 (cb.bv CR (q9 v33 (d9 vs37 1) (.bool false)) fun v40=>
 j6 v40 (
 e0d cb N call a0) (
 d9P cb N call v33 v34 a0)) (fun _=>M.fail) M.fail l6
noncomputable def c5N (cb:Cb) (N:Nat) (call:j4) (a0:Value):M CR:=
 cb.bj CR (cb.bc R2 (call 138 [a0]) (fun v2=>
 cb.bv R2 (z8 0 v2) fun v3=>
 cb.bv R2 (z8 1 v2) fun v4=>
 b7O cb N call v3 v4 a0 v2) l6) fun x0 vs1=>
 l7 x0 (cb.bc CR (call 138 [a0]) (fun v31=>
 cb.bv CR (z8 0 v31) fun v32=>
 cb.bv CR (z8 1 v31) fun v33=>
 d1T cb N call v32 v33 a0) l6) (fun _=>M.fail) (M.fail) l6
theorem d4W (cb:Cb) (N:Nat) (call:j4) (a0:Value):D5 Tryz.prog A9 cb false N call Tryz.f140 f0r e5i [a0]=c5N cb N call a0:=by kernel_rfl
noncomputable def e8d:Code:=D6 Tryz.f141
noncomputable def e4G:Pl:=(.s none .d (.s none .d (.s (some [4, 5, 6, 7, 8, 9, 11, 10, 13, 12, 15, 14, 17, 16, 19, 18, 3]) .d .d)))
noncomputable def b7q (cb:Cb) (N:Nat) (call:j4) (v6:Value) (a0:Value) (v2:Value) (v3:Value) (v4:Value) (v5:Value) (v7:Value) (v8:Value) (v9:Value) (v10:Value):M R2:=
 cb.bv R2 (bn .eql 76 (.tmp 9) (.const (.int .i64 (.ofNat 16))) v6 (.int .i64 (.ofNat 16))) fun v11=>
 j6 v11 (
 M.pure (.normal, [a0,v2,v3,v4,v5,v6,v7,v7,v8,v8,v9,v9,v10,v10,v11,v11,(.int .i64 (.ofNat 6))])) (
 M.pure (.normal, [a0,v2,v3,v4,v5,v6,v7,v7,v8,v8,v9,v9,v10,v10,v11,v11,(.int .i64 (.negSucc 0))]))
noncomputable def b6c (cb:Cb) (N:Nat) (call:j4) (v6:Value) (a0:Value) (v2:Value) (v3:Value) (v4:Value) (v5:Value) (v7:Value) (v8:Value) (v9:Value):M R2:=
 cb.bv R2 (bn .eql 76 (.tmp 9) (.const (.int .i64 (.ofNat 12))) v6 (.int .i64 (.ofNat 12))) fun v10=>
 j6 v10 (
 M.pure (.normal, [a0,v2,v3,v4,v5,v6,v7,v7,v8,v8,v9,v9,v10,v10,undef,undef,(.int .i64 (.ofNat 5))])) (
 b7q cb N call v6 a0 v2 v3 v4 v5 v7 v8 v9 v10)
noncomputable def b8A (cb:Cb) (N:Nat) (call:j4) (v6:Value) (a0:Value) (v2:Value) (v3:Value) (v4:Value) (v5:Value) (v7:Value) (v8:Value):M R2:=
 cb.bv R2 (bn .eql 76 (.tmp 9) (.const (.int .i64 (.ofNat 8))) v6 (.int .i64 (.ofNat 8))) fun v9=>
 j6 v9 (
 M.pure (.normal, [a0,v2,v3,v4,v5,v6,v7,v7,v8,v8,v9,v9,undef,undef,undef,undef,(.int .i64 (.ofNat 4))])) (
 b6c cb N call v6 a0 v2 v3 v4 v5 v7 v8 v9)
noncomputable def b1D (cb:Cb) (N:Nat) (call:j4) (v6:Value) (a0:Value) (v2:Value) (v3:Value) (v4:Value) (v5:Value) (v7:Value):M R2:=
 cb.bv R2 (bn .eql 76 (.tmp 9) (.const (.int .i64 (.ofNat 7))) v6 (.int .i64 (.ofNat 7))) fun v8=>
 j6 v8 (
 M.pure (.normal, [a0,v2,v3,v4,v5,v6,v7,v7,v8,v8,undef,undef,undef,undef,undef,undef,(.int .i64 (.ofNat 7))])) (
 b8A cb N call v6 a0 v2 v3 v4 v5 v7 v8)
noncomputable def c4a (cb:Cb) (N:Nat) (call:j4) (a0:Value):M CR:=
 cb.bj CR (cb.bv R2 (q8 a0) fun v2=>
 cb.bv R2 (l9 4 v2) fun v3=>
 cb.bv R2 (l9 0 v3) fun v4=>
 cb.bv R2 (j5 v4) fun v5=>
 cb.bc R2 (call 39 [v5]) (fun v6=>
 cb.bv R2 (bn .eql 76 (.tmp 9) (.const (.int .i64 (.ofNat 4))) v6 (.int .i64 (.ofNat 4))) fun v7=>
 j6 v7 (
 M.pure (.normal, [a0,v2,v3,v4,v5,v6,v7,v7,undef,undef,undef,undef,undef,undef,undef,undef,(.int .i64 (.ofNat 1))])) (
 b1D cb N call v6 a0 v2 v3 v4 v5 v7)) l6) fun x0 vs1=>
 l7 x0 (cb.bv CR (q8 a0) fun v12=>
 cb.bv CR (l9 4 v12) fun v13=>
 cb.bv CR (l9 1 v13) fun v14=>
 cb.bc CR (call 183 [a0,(d9 vs1 16),v14]) (fun v15=>
 M.pure (.ret v15)) l6) (fun _=>M.fail) (M.fail) l6
theorem d5E (cb:Cb) (N:Nat) (call:j4) (a0:Value):D5 Tryz.prog A9 cb false N call Tryz.f141 e8d e4G [a0]=c4a cb N call a0:=by kernel_rfl
noncomputable def e0o:Code:=D6 Tryz.f142
noncomputable def e6d:Pl:=(.s none .d (.s none .d (.s none (.s none (.l [4, 7, 8, 9, 2, 10, 11, 12, 13, 3, 15, 16, 14, 17, 18, 5, 6, 19, 20, 21, 22, 23, 24, 25] .d) .d) .d)))
noncomputable def a2Y:List Oper:=J7 e0o 8
noncomputable def b6X (call:j4) (u0:Value) (u1:Value) (u2:Value) (u3:Value) (u4:Value) (u5:Value) (u6:Value) (u7:Value) (u8:Value) (u9:Value) (u10:Value) (u11:Value) (u12:Value) (u13:Value) (u14:Value) (u15:Value) (u16:Value) (u17:Value) (u18:Value) (u19:Value) (u20:Value):M R2:=
 M.bind (M.foot (M.pure u0)) fun y0=>
 M.bind (M.foot (M.pure u0)) fun y1=>
 M.bind (M.foot (M.pure u6)) fun y2=>
 M.bind (M.foot (M.pure u6)) fun y3=>
 M.bind (M.foot (H6 y3.1)) fun y4=>
 M.bind (M.foot (bn .sub 3 (.tmp 30) (.const (.int .i64 (.ofNat 1))) y4.1 (.int .i64 (.ofNat 1)))) fun y5=>
 M.bind (M.foot (F3 1 y2.1 y5.1)) fun y6=>
 M.bind (M.foot (j5 y6.1)) fun y7=>
 M.bind (M.foot (M.pure u6)) fun y8=>
 M.bind (M.foot (M.pure u6)) fun y9=>
 M.bind (M.foot (H6 y9.1)) fun y10=>
 M.bind (M.foot (bn .sub 3 (.tmp 36) (.const (.int .i64 (.ofNat 1))) y10.1 (.int .i64 (.ofNat 1)))) fun y11=>
 M.bind (M.foot (Q8 1 y8.1 none (some y11.1))) fun y12=>
 M.bind (M.foot (q8 y0.1)) fun y13=>
 M.bind (M.foot (l9 4 y13.1)) fun y14=>
 M.bind (M.foot (l9 1 y14.1)) fun y15=>
 M.bind (M.foot (r9 1 y15.1 y7.1)) fun y16=>
 M.bind (M.foot (q8 y1.1)) fun y17=>
 M.bind (M.foot (l9 4 y17.1)) fun y18=>
 M.bind (M.foot (l9 8 y18.1)) fun y19=>
 M.bind (M.foot (r9 1 y19.1 y12.1)) fun y20=>
 M.guard (E9 a2Y (H9 a2Y [y0.2,y1.2,y2.2,y3.2,y4.2,y5.2,y6.2,y7.2,y8.2,y9.2,y10.2,y11.2,y12.2,y13.2,y14.2,y15.2,y16.2,y17.2,y18.2,y19.2,y20.2]) [] [] 0) (M.pure (.normal, [y0.1,y1.1,y2.1,y3.1,y4.1,y5.1,y6.1,y7.1,y8.1,y9.1,y10.1,y11.1,y12.1,y13.1,y14.1,y15.1,y17.1,y18.1,y19.1]))
theorem d2N (call:j4) (u0:Value) (u1:Value) (u2:Value) (u3:Value) (u4:Value) (u5:Value) (u6:Value) (u7:Value) (u8:Value) (u9:Value) (u10:Value) (u11:Value) (u12:Value) (u13:Value) (u14:Value) (u15:Value) (u16:Value) (u17:Value) (u18:Value) (u19:Value) (u20:Value):dr call a2Y 45 [0, 29, 30, 28, 31, 32, 3, 35, 36, 34, 37, 26, 39, 40, 41, 33, 27, 42, 43, 44, 38] [u0,u1,u2,u3,u4,u5,u6,u7,u8,u9,u10,u11,u12,u13,u14,u15,u16,u17,u18,u19,u20] [26, 27, 28, 29, 30, 31, 32, 33, 34, 35, 36, 37, 38, 39, 40, 41, 42, 43, 44]=b6X call u0 u1 u2 u3 u4 u5 u6 u7 u8 u9 u10 u11 u12 u13 u14 u15 u16 u17 u18 u19 u20:=(F6 _ _ _ _ _ _ _ _).trans (by kernel_rfl)
noncomputable def d9S (cb:Cb) (N:Nat) (call:j4) (v3:Value) (a0:Value) (v5:Value) (v6:Value) (xs0:List Value):M R2:=
 M.pure (.ret, [v3,a0,v5,v6,(.bool false),(d9 xs0 5),(d9 xs0 6),(d9 xs0 7),(d9 xs0 8),(d9 xs0 9),(d9 xs0 10),(d9 xs0 11),(d9 xs0 12),(d9 xs0 13),(d9 xs0 14),(d9 xs0 15),(d9 xs0 16),(d9 xs0 17),(d9 xs0 18),(d9 xs0 19),(d9 xs0 20),(d9 xs0 21),(d9 xs0 22),(d9 xs0 23)])
noncomputable def d9W (cb:Cb) (N:Nat) (call:j4) (v3:Value) (a0:Value) (v5:Value) (v6:Value) (xs0:List Value) (v7:Value) (v8:Value) (v9:Value) (v10:Value) (v11:Value) (v12:Value) (v13:Value) (v15:Value) (vs17:List Value) (v21:Value):M R2:=
 M.pure (.exit 0, [v3,a0,v5,v6,(d9 xs0 4),(d9 xs0 9),v7,v8,v9,v9,a0,v10,v10,v11,v12,v13,v12,v12,v15,v15,(d9 vs17 0),(d9 vs17 1),(d9 vs17 2),v21])
noncomputable def e0a (cb:Cb) (N:Nat) (call:j4) (v3:Value) (a0:Value) (v5:Value) (v6:Value) (xs0:List Value) (v7:Value) (v8:Value) (v9:Value) (v10:Value) (v11:Value) (v12:Value) (v13:Value) (v15:Value) (vs17:List Value) (v21:Value):M R2:=
 M.pure (.normal, [v3,a0,v5,v6,(d9 xs0 4),(d9 xs0 9),v7,v8,v9,v9,a0,v10,v10,v11,v12,v13,v12,v12,v15,v15,(d9 vs17 0),(d9 vs17 1),(d9 vs17 2),v21])
noncomputable def d9X (cb:Cb) (N:Nat) (call:j4) (v12:Value) (v13:Value) (v3:Value) (a0:Value) (v5:Value) (v6:Value) (xs0:List Value) (v7:Value) (v8:Value) (v9:Value) (v10:Value) (v11:Value):M R2:=
 cb.bv R2 (un .not v12) fun v15=>
 cb.bj R2 (l8 (o7 false v15) (cb.bv R2 (E8 4 v13) fun v18=>
 cb.bc R2 (call 184 [v18]) (fun v19=>
 cb.bv R2 (un .not v19) fun v20=>
 M.pure (.normal, [v18,v19,v20])) l6) (M.pure (.normal, [undef,undef,undef]))) fun x16 vs17=>l7 x16 (cb.bv R2 (q9 v15 (.bool true) (d9 vs17 2)) fun v21=>
 j6 v21 (
 d9W cb N call v3 a0 v5 v6 xs0 v7 v8 v9 v10 v11 v12 v13 v15 vs17 v21) (
 e0a cb N call v3 a0 v5 v6 xs0 v7 v8 v9 v10 v11 v12 v13 v15 vs17 v21)) (fun _=>M.fail) M.fail l6
noncomputable def e1R (cb:Cb) (N:Nat) (call:j4) (v3:Value) (xs0:List Value) (a0:Value) (v5:Value) (v6:Value):M R2:=
 cb.bv R2 (j5 v3) fun v7=>
 cb.bv R2 (H8 1 1 [(0, 1)] [v7] [(.int .i64 (.ofNat 0))]) fun v8=>
 cb.bv R2 (Q9 ti3 (d9 xs0 9) v8) fun v9=>
 cb.bc R2 (call 138 [a0]) (fun v10=>
 cb.bv R2 (z8 0 v10) fun v11=>
 cb.bv R2 (z8 1 v10) fun v12=>
 cb.bv R2 (J6 [(.int .i64 (.ofNat 0)),(.int .i64 (.ofNat 0)),(.string ⟨⟨[]⟩⟩),(.slice none 0 0)]) fun v13=>
 cb.bv R2 (r9 4 v13 v11) fun v14=>
 d9X cb N call v12 v13 v3 a0 v5 v6 xs0 v7 v8 v9 v10 v11) l6
noncomputable def c8U (cb:Cb) (N:Nat) (call:j4) (a0:Value) (xs0:List Value):M R2:=
 cb.bv R2 (J6 [(.int .i64 (.ofNat 0))]) fun v3=>
 cb.bv R2 (r9 1 v3 (.int .i64 (.ofNat 0))) fun v4=>
 cb.bc R2 (call 183 [a0,(.int .i64 (.negSucc 0)),v3]) (fun v5=>
 cb.bv R2 (un .not v5) fun v6=>
 j6 v6 (
 d9S cb N call v3 a0 v5 v6 xs0) (
 e1R cb N call v3 xs0 a0 v5 v6)) l6
noncomputable def c1Y (cb:Cb) (N:Nat) (call:j4) (a0:Value):M CR:=
 cb.bj CR (cb.lp (c8U cb N call a0) N [undef,undef,undef,undef,(.bool false),undef,undef,undef,undef,(.slice none 0 0),undef,undef,undef,undef,undef,undef,undef,undef,undef,undef,undef,undef,undef,undef]) fun x1 vs2=>
 l7 x1 (M.fail) (fun i22=>l8 (Nat.beq i22 0) (cb.bj CR (dr call a2Y 45 [0, 29, 30, 28, 31, 32, 3, 35, 36, 34, 37, 26, 39, 40, 41, 33, 27, 42, 43, 44, 38] [a0,undef,undef,undef,undef,undef,(d9 vs2 9),undef,undef,undef,undef,undef,undef,undef,undef,undef,undef,undef,undef,undef,undef] [26, 27, 28, 29, 30, 31, 32, 33, 34, 35, 36, 37, 38, 39, 40, 41, 42, 43, 44]) fun _ vs23=>
 M.pure (.ret (.bool true))) (M.fail)) (M.pure (.ret (d9 vs2 4))) l6
theorem d5T (cb:Cb) (N:Nat) (call:j4) (a0:Value):D5 Tryz.prog A9 cb false N call Tryz.f142 e0o e6d [a0]=c1Y cb N call a0:=by kernel_rfl
noncomputable def e9b:Code:=D6 Tryz.f143
noncomputable def e4N:Pl:=.d
noncomputable def d9E (cb:Cb) (N:Nat) (call:j4) (v3:Value) (v1:Value) (v2:Value) (a0:Value) (a1:Value) (a2:Value):M CR:=
 cb.bv CR (r9 4 v3 v1) fun v4=>
 cb.bv CR (un .not v2) fun v5=>
 cb.bj CR (l8 (o7 false v5) (cb.bv R2 (E8 4 v3) fun v8=>
 cb.bc R2 (call 184 [v8]) (fun v9=>
 cb.bv R2 (un .not v9) fun v10=>
 M.pure (.normal, [v8,v9,v10])) l6) (M.pure (.normal, [undef,undef,undef]))) fun x6 vs7=>l7 x6 (cb.bv CR (q9 v5 (.bool true) (d9 vs7 2)) fun v11=>
 j6 v11 (
 M.pure (.ret (.bool true))) (
 cb.bc CR (call 183 [a0,a1,a2]) (fun v12=>
 M.pure (.ret v12)) l6)) (fun _=>M.fail) M.fail l6
noncomputable def d6H (cb:Cb) (N:Nat) (call:j4) (a0:Value) (a1:Value) (a2:Value):M CR:=
 cb.bc CR (call 138 [a0]) (fun v0=>
 cb.bv CR (z8 0 v0) fun v1=>
 cb.bv CR (z8 1 v0) fun v2=>
 cb.bv CR (J6 [(.int .i64 (.ofNat 0)),(.int .i64 (.ofNat 0)),(.string ⟨⟨[]⟩⟩),(.slice none 0 0)]) fun v3=>
 d9E cb N call v3 v1 v2 a0 a1 a2) l6
theorem d3K (cb:Cb) (N:Nat) (call:j4) (a0:Value) (a1:Value) (a2:Value):D5 Tryz.prog A9 cb false N call Tryz.f143 e9b e4N [a0,a1,a2]=d6H cb N call a0 a1 a2:=by kernel_rfl
noncomputable def d6c:Code:=D6 Tryz.f144
noncomputable def e5y:Pl:=.d
noncomputable def a3D:List Oper:=J7 d6c 3
noncomputable def a3F:List Oper:=J7 d6c 4
noncomputable def b4H (call:j4) (u0:Value) (u1:Value) (u2:Value) (u3:Value) (u4:Value) (u5:Value) (u6:Value) (u7:Value) (u8:Value) (u9:Value) (u10:Value):M R2:=
 M.bind (M.foot (M.pure u3)) fun y0=>
 M.bind (M.foot (M.pure u3)) fun y1=>
 M.bind (M.foot (q8 y1.1)) fun y2=>
 M.bind (M.foot (l9 1 y2.1)) fun y3=>
 M.bind (M.foot (j5 y3.1)) fun y4=>
 M.bind (M.foot (M.pure u3)) fun y5=>
 M.bind (M.foot (q8 y5.1)) fun y6=>
 M.bind (M.foot (l9 2 y6.1)) fun y7=>
 M.bind (M.foot (j5 y7.1)) fun y8=>
 M.bind (M.foot (D7 call 181 [y0.1,y4.1,y8.1])) fun y9=>
 M.bind (M.foot (M.pure y9.1)) fun y10=>
 M.guard (E9 a3D (H9 a3D [y0.2,y1.2,y2.2,y3.2,y4.2,y5.2,y6.2,y7.2,y8.2,y9.2,y10.2]) [] [] 0) (M.pure (.normal, [y0.1,y1.1,y2.1,y3.1,y4.1,y5.1,y6.1,y7.1,y8.1,y9.1,y10.1]))
theorem d1n (call:j4) (u0:Value) (u1:Value) (u2:Value) (u3:Value) (u4:Value) (u5:Value) (u6:Value) (u7:Value) (u8:Value) (u9:Value) (u10:Value):dr call a3D 82 [23, 24, 25, 0, 27, 28, 29, 22, 26, 30, 31] [u0,u1,u2,u3,u4,u5,u6,u7,u8,u9,u10] [22, 23, 24, 25, 26, 27, 28, 29, 30, 31, 4]=b4H call u0 u1 u2 u3 u4 u5 u6 u7 u8 u9 u10:=(F6 _ _ _ _ _ _ _ _).trans (by kernel_rfl)
noncomputable def b8n (call:j4) (u0:Value) (u1:Value) (u2:Value) (u3:Value) (u4:Value) (u5:Value) (u6:Value) (u7:Value) (u8:Value) (u9:Value) (u10:Value) (u11:Value):M R2:=
 M.bind (M.foot (M.pure u3)) fun y0=>
 M.bind (M.foot (q8 y0.1)) fun y1=>
 M.bind (M.foot (l9 1 y1.1)) fun y2=>
 M.bind (M.foot (j5 y2.1)) fun y3=>
 M.bind (M.foot (M.pure u3)) fun y4=>
 M.bind (M.foot (q8 y4.1)) fun y5=>
 M.bind (M.foot (l9 2 y5.1)) fun y6=>
 M.bind (M.foot (j5 y6.1)) fun y7=>
 M.bind (M.foot (F3 4 y3.1 y7.1)) fun y8=>
 M.bind (M.foot (l9 3 y8.1)) fun y9=>
 M.bind (M.foot (j5 y9.1)) fun y10=>
 M.bind (M.foot (M.pure y10.1)) fun y11=>
 M.guard (E9 a3F (H9 a3F [y0.2,y1.2,y2.2,y3.2,y4.2,y5.2,y6.2,y7.2,y8.2,y9.2,y10.2,y11.2]) [] [] 0) (M.pure (.normal, [y0.1,y1.1,y2.1,y3.1,y4.1,y5.1,y6.1,y7.1,y8.1,y9.1,y10.1,y11.1]))
theorem c9j (call:j4) (u0:Value) (u1:Value) (u2:Value) (u3:Value) (u4:Value) (u5:Value) (u6:Value) (u7:Value) (u8:Value) (u9:Value) (u10:Value) (u11:Value):dr call a3F 82 [32, 33, 34, 0, 36, 37, 38, 35, 39, 40, 41, 42] [u0,u1,u2,u3,u4,u5,u6,u7,u8,u9,u10,u11] [32, 33, 34, 35, 36, 37, 38, 39, 40, 41, 42, 7]=b8n call u0 u1 u2 u3 u4 u5 u6 u7 u8 u9 u10 u11:=(F6 _ _ _ _ _ _ _ _).trans (by kernel_rfl)
noncomputable def b4q (cb:Cb) (N:Nat) (call:j4) (a0:Value):M CR:=
 cb.bj CR (dr call a3D 82 [23, 24, 25, 0, 27, 28, 29, 22, 26, 30, 31] [undef,undef,undef,a0,undef,undef,undef,undef,undef,undef,undef] [22, 23, 24, 25, 26, 27, 28, 29, 30, 31, 4]) fun _ vs12=>
 M.pure (.ret (d9 vs12 10))
noncomputable def b8h (cb:Cb) (N:Nat) (call:j4) (a1:Value) (v27:Value) (a0:Value):M CR:=
 cb.bv CR (q8 a1) fun v33=>
 cb.bv CR (r9 1 v33 v27) fun v34=>
 cb.bv CR (q8 a0) fun v35=>
 cb.bv CR (l9 2 v35) fun v36=>
 cb.bv CR (j5 v36) fun v37=>
 cb.bv CR (bn .add 3 (.tmp 78) (.const (.int .i64 (.ofNat 1))) v37 (.int .i64 (.ofNat 1))) fun v38=>
 cb.bv CR (q8 a0) fun v39=>
 cb.bv CR (l9 2 v39) fun v40=>
 cb.bv CR (r9 1 v40 v38) fun v41=>
 M.pure (.ret (.bool true))
noncomputable def b4D (cb:Cb) (N:Nat) (call:j4) (vs13:List Value) (a0:Value) (a1:Value) (v27:Value):M CR:=
 cb.bv CR (H6 (d9 vs13 11)) fun v30=>
 cb.bv CR (bn .gtr 3 (.tmp 67) (.const (.int .i64 (.ofNat 2))) v30 (.int .i64 (.ofNat 2))) fun v31=>
 j6 v31 (
 cb.bc CR (call 181 [a0,(d9 vs13 11),(.int .i64 (.ofNat 2))]) (fun v32=>
 M.pure (.ret v32)) l6) (
 b8h cb N call a1 v27 a0)
noncomputable def b2Y (cb:Cb) (N:Nat) (call:j4) (vs13:List Value) (a0:Value) (a1:Value):M CR:=
 cb.bv CR (F3 4 (d9 vs13 11) (.int .i64 (.ofNat 1))) fun v24=>
 cb.bv CR (E8 4 v24) fun v25=>
 cb.bc CR (call 185 [a0,v25,(.int .i64 (.ofNat 0))]) (fun v26=>
 cb.bv CR (z8 0 v26) fun v27=>
 cb.bv CR (z8 1 v26) fun v28=>
 cb.bv CR (un .not v28) fun v29=>
 j6 v29 (
 M.pure (.ret (.bool false))) (
 b4D cb N call vs13 a0 a1 v27)) l6
noncomputable def b1N (cb:Cb) (N:Nat) (call:j4) (v15:Value) (vs13:List Value) (a0:Value) (a1:Value):M CR:=
 cb.bj CR (l8 (o7 false v15) (cb.bv R2 (F3 4 (d9 vs13 11) (.int .i64 (.ofNat 1))) fun v18=>
 cb.bv R2 (E8 4 v18) fun v19=>
 cb.bc R2 (call 184 [v19]) (fun v20=>
 cb.bv R2 (un .not v20) fun v21=>
 M.pure (.normal, [(d9 vs13 11),v18,v19,v20,v21])) l6) (M.pure (.normal, [undef,undef,undef,undef,undef]))) fun x16 vs17=>l7 x16 (cb.bv CR (q9 v15 (.bool true) (d9 vs17 4)) fun v22=>
 j6 v22 (
 cb.bc CR (call 181 [a0,(d9 vs13 11),(.int .i64 (.ofNat 1))]) (fun v23=>
 M.pure (.ret v23)) l6) (
 b2Y cb N call vs13 a0 a1)) (fun _=>M.fail) M.fail l6
noncomputable def b4J (cb:Cb) (N:Nat) (call:j4) (a0:Value) (a1:Value):M CR:=
 cb.bj CR (dr call a3F 82 [32, 33, 34, 0, 36, 37, 38, 35, 39, 40, 41, 42] [undef,undef,undef,a0,undef,undef,undef,undef,undef,undef,undef,undef] [32, 33, 34, 35, 36, 37, 38, 39, 40, 41, 42, 7]) fun _ vs13=>
 cb.bv CR (H6 (d9 vs13 11)) fun v14=>
 cb.bv CR (bn .lss 3 (.tmp 44) (.const (.int .i64 (.ofNat 2))) v14 (.int .i64 (.ofNat 2))) fun v15=>
 b1N cb N call v15 vs13 a0 a1
noncomputable def b4v (cb:Cb) (N:Nat) (call:j4) (v1:Value) (v2:Value) (a0:Value) (a1:Value):M CR:=
 cb.bv CR (J6 [(.int .i64 (.ofNat 0)),(.int .i64 (.ofNat 0)),(.string ⟨⟨[]⟩⟩),(.slice none 0 0)]) fun v3=>
 cb.bv CR (r9 4 v3 v1) fun v4=>
 cb.bv CR (un .not v2) fun v5=>
 cb.bj CR (l8 (o7 false v5) (cb.bv R2 (E8 4 v3) fun v8=>
 cb.bc R2 (call 113 [v8,(.string ⟨⟨[116, 121, 112, 101]⟩⟩)]) (fun v9=>
 cb.bv R2 (un .not v9) fun v10=>
 M.pure (.normal, [v8,v9,v10])) l6) (M.pure (.normal, [undef,undef,undef]))) fun x6 vs7=>l7 x6 (cb.bv CR (q9 v5 (.bool true) (d9 vs7 2)) fun v11=>
 j6 v11 (
 b4q cb N call a0) (
 b4J cb N call a0 a1)) (fun _=>M.fail) M.fail l6
noncomputable def c4G (cb:Cb) (N:Nat) (call:j4) (a0:Value) (a1:Value):M CR:=
 cb.bc CR (call 138 [a0]) (fun v0=>
 cb.bv CR (z8 0 v0) fun v1=>
 cb.bv CR (z8 1 v0) fun v2=>
 b4v cb N call v1 v2 a0 a1) l6
theorem d4D (cb:Cb) (N:Nat) (call:j4) (a0:Value) (a1:Value):D5 Tryz.prog A9 cb false N call Tryz.f144 d6c e5y [a0,a1]=c4G cb N call a0 a1:=by kernel_rfl
noncomputable def e9m:Code:=D6 Tryz.f145
noncomputable def e5d:Pl:=.d
noncomputable def d9C (cb:Cb) (N:Nat) (call:j4) (v13:Value) (a0:Value) (a1:Value):M CR:=
 cb.bv CR (l9 1 v13) fun v14=>
 cb.bc CR (call 183 [a0,a1,v14]) (fun v15=>
 cb.bj CR (l8 (o7 true v15) (cb.bv R2 (q8 a0) fun v18=>
 cb.bv R2 (l9 4 v18) fun v19=>
 cb.bv R2 (l9 2 v19) fun v20=>
 cb.bc R2 (call 183 [a0,a1,v20]) (fun v21=>
 M.pure (.normal, [a0,a1,a0,v18,v19,v20,v21])) l6) (M.pure (.normal, [undef,undef,undef,undef,undef,undef,undef]))) fun x16 vs17=>l7 x16 (cb.bv CR (q9 v15 (d9 vs17 6) (.bool false)) fun v22=>
 M.pure (.ret v22)) (fun _=>M.fail) M.fail l6) l6
noncomputable def e0B (cb:Cb) (N:Nat) (call:j4) (v3:Value) (v1:Value) (v2:Value) (a0:Value) (a1:Value):M CR:=
 cb.bv CR (r9 4 v3 v1) fun v4=>
 cb.bv CR (un .not v2) fun v5=>
 cb.bj CR (l8 (o7 false v5) (cb.bv R2 (E8 4 v3) fun v8=>
 cb.bc R2 (call 184 [v8]) (fun v9=>
 cb.bv R2 (un .not v9) fun v10=>
 M.pure (.normal, [v8,v9,v10])) l6) (M.pure (.normal, [undef,undef,undef]))) fun x6 vs7=>l7 x6 (cb.bv CR (q9 v5 (.bool true) (d9 vs7 2)) fun v11=>
 j6 v11 (
 M.pure (.ret (.bool true))) (
 cb.bv CR (q8 a0) fun v12=>
 cb.bv CR (l9 4 v12) fun v13=>
 d9C cb N call v13 a0 a1)) (fun _=>M.fail) M.fail l6
noncomputable def d7B (cb:Cb) (N:Nat) (call:j4) (a0:Value) (a1:Value):M CR:=
 cb.bc CR (call 138 [a0]) (fun v0=>
 cb.bv CR (z8 0 v0) fun v1=>
 cb.bv CR (z8 1 v0) fun v2=>
 cb.bv CR (J6 [(.int .i64 (.ofNat 0)),(.int .i64 (.ofNat 0)),(.string ⟨⟨[]⟩⟩),(.slice none 0 0)]) fun v3=>
 e0B cb N call v3 v1 v2 a0 a1) l6
theorem d6d (cb:Cb) (N:Nat) (call:j4) (a0:Value) (a1:Value):D5 Tryz.prog A9 cb false N call Tryz.f145 e9m e5d [a0,a1]=d7B cb N call a0 a1:=by kernel_rfl
noncomputable def d9V:Code:=D6 Tryz.f146
noncomputable def e3L:Pl:=.d
noncomputable def a2N:List Oper:=J7 d9V 1
noncomputable def b2Z (call:j4) (u0:Value) (u1:Value) (u2:Value) (u3:Value) (u4:Value) (u5:Value) (u6:Value) (u7:Value) (u8:Value) (u9:Value) (u10:Value) (u11:Value) (u12:Value) (u13:Value) (u14:Value) (u15:Value) (u16:Value) (u17:Value) (u18:Value) (u19:Value) (u20:Value) (u21:Value) (u22:Value) (u23:Value) (u24:Value) (u25:Value) (u26:Value) (u27:Value) (u28:Value) (u29:Value) (u30:Value) (u31:Value) (u32:Value) (u33:Value) (u34:Value) (u35:Value) (u36:Value) (u37:Value):M R2:=
 M.bind (M.foot (M.pure u27)) fun y0=>
 M.bind (M.foot (q8 y0.1)) fun y1=>
 M.bind (M.foot (l9 2 y1.1)) fun y2=>
 M.bind (M.foot (j5 y2.1)) fun y3=>
 M.bind (M.foot (bn .add 3 (.tmp 10) (.const (.int .i64 (.ofNat 1))) y3.1 (.int .i64 (.ofNat 1)))) fun y4=>
 M.bind (M.foot (M.pure u27)) fun y5=>
 M.bind (M.foot (q8 y5.1)) fun y6=>
 M.bind (M.foot (l9 1 y6.1)) fun y7=>
 M.bind (M.foot (j5 y7.1)) fun y8=>
 M.bind (M.foot (H6 y8.1)) fun y9=>
 M.bind (M.foot (bn .lss 3 (.tmp 11) (.tmp 16) y4.1 y9.1)) fun y10=>
 M.bind (M.foot (M.pure y10.1)) fun y11=>
 M.bind (l8 (o7 true y11.1) (M.foot (M.pure u27)) (M.pure (undef,([], [])))) fun y12=>
 M.bind (l8 (o7 true y11.1) (M.foot (q8 y12.1)) (M.pure (undef,([], [])))) fun y13=>
 M.bind (l8 (o7 true y11.1) (M.foot (l9 1 y13.1)) (M.pure (undef,([], [])))) fun y14=>
 M.bind (l8 (o7 true y11.1) (M.foot (j5 y14.1)) (M.pure (undef,([], [])))) fun y15=>
 M.bind (l8 (o7 true y11.1) (M.foot (M.pure u27)) (M.pure (undef,([], [])))) fun y16=>
 M.bind (l8 (o7 true y11.1) (M.foot (q8 y16.1)) (M.pure (undef,([], [])))) fun y17=>
 M.bind (l8 (o7 true y11.1) (M.foot (l9 2 y17.1)) (M.pure (undef,([], [])))) fun y18=>
 M.bind (l8 (o7 true y11.1) (M.foot (j5 y18.1)) (M.pure (undef,([], [])))) fun y19=>
 M.bind (l8 (o7 true y11.1) (M.foot (F3 4 y15.1 y19.1)) (M.pure (undef,([], [])))) fun y20=>
 M.bind (l8 (o7 true y11.1) (M.foot (E8 4 y20.1)) (M.pure (undef,([], [])))) fun y21=>
 M.bind (l8 (o7 true y11.1) (M.foot (D7 call 184 [y21.1])) (M.pure (undef,([], [])))) fun y22=>
 M.bind (M.foot (q9 y11.1 y22.1 (.bool false))) fun y23=>
 M.bind (M.foot (M.pure y23.1)) fun y24=>
 M.bind (l8 (o7 true y24.1) (M.foot (M.pure u27)) (M.pure (undef,([], [])))) fun y25=>
 M.bind (l8 (o7 true y24.1) (M.foot (q8 y25.1)) (M.pure (undef,([], [])))) fun y26=>
 M.bind (l8 (o7 true y24.1) (M.foot (l9 1 y26.1)) (M.pure (undef,([], [])))) fun y27=>
 M.bind (l8 (o7 true y24.1) (M.foot (j5 y27.1)) (M.pure (undef,([], [])))) fun y28=>
 M.bind (l8 (o7 true y24.1) (M.foot (M.pure u27)) (M.pure (undef,([], [])))) fun y29=>
 M.bind (l8 (o7 true y24.1) (M.foot (q8 y29.1)) (M.pure (undef,([], [])))) fun y30=>
 M.bind (l8 (o7 true y24.1) (M.foot (l9 2 y30.1)) (M.pure (undef,([], [])))) fun y31=>
 M.bind (l8 (o7 true y24.1) (M.foot (j5 y31.1)) (M.pure (undef,([], [])))) fun y32=>
 M.bind (l8 (o7 true y24.1) (M.foot (bn .add 3 (.tmp 39) (.const (.int .i64 (.ofNat 1))) y32.1 (.int .i64 (.ofNat 1)))) (M.pure (undef,([], [])))) fun y33=>
 M.bind (l8 (o7 true y24.1) (M.foot (F3 4 y28.1 y33.1)) (M.pure (undef,([], [])))) fun y34=>
 M.bind (l8 (o7 true y24.1) (M.foot (E8 4 y34.1)) (M.pure (undef,([], [])))) fun y35=>
 M.bind (l8 (o7 true y24.1) (M.foot (D7 call 184 [y35.1])) (M.pure (undef,([], [])))) fun y36=>
 M.bind (M.foot (q9 y24.1 y36.1 (.bool false))) fun y37=>
 M.guard (E9 a2N (H9 a2N [y0.2,y1.2,y2.2,y3.2,y4.2,y5.2,y6.2,y7.2,y8.2,y9.2,y10.2,y11.2,y12.2,y13.2,y14.2,y15.2,y16.2,y17.2,y18.2,y19.2,y20.2,y21.2,y22.2,y23.2,y24.2,y25.2,y26.2,y27.2,y28.2,y29.2,y30.2,y31.2,y32.2,y33.2,y34.2,y35.2,y36.2,y37.2]) [] [] 0) (M.pure (.normal, [y0.1,y1.1,y2.1,y3.1,y4.1,y5.1,y6.1,y7.1,y8.1,y9.1,y10.1,y11.1,y12.1,y13.1,y14.1,y15.1,y16.1,y17.1,y18.1,y19.1,y20.1,y21.1,y22.1,y23.1,y24.1,y25.1,y26.1,y27.1,y28.1,y29.1,y30.1,y31.1,y32.1,y33.1,y34.1,y35.1,y36.1,y37.1]))
theorem d1e (call:j4) (u0:Value) (u1:Value) (u2:Value) (u3:Value) (u4:Value) (u5:Value) (u6:Value) (u7:Value) (u8:Value) (u9:Value) (u10:Value) (u11:Value) (u12:Value) (u13:Value) (u14:Value) (u15:Value) (u16:Value) (u17:Value) (u18:Value) (u19:Value) (u20:Value) (u21:Value) (u22:Value) (u23:Value) (u24:Value) (u25:Value) (u26:Value) (u27:Value) (u28:Value) (u29:Value) (u30:Value) (u31:Value) (u32:Value) (u33:Value) (u34:Value) (u35:Value) (u36:Value) (u37:Value):dr call a2N 68 [7, 8, 9, 10, 12, 13, 14, 15, 11, 16, 17, 19, 20, 21, 23, 24, 25, 22, 26, 27, 28, 18, 29, 30, 32, 33, 34, 0, 36, 37, 38, 39, 35, 40, 41, 42, 31, 43] [u0,u1,u2,u3,u4,u5,u6,u7,u8,u9,u10,u11,u12,u13,u14,u15,u16,u17,u18,u19,u20,u21,u22,u23,u24,u25,u26,u27,u28,u29,u30,u31,u32,u33,u34,u35,u36,u37] [7, 8, 9, 10, 11, 12, 13, 14, 15, 16, 17, 18, 19, 20, 21, 22, 23, 24, 25, 26, 27, 28, 29, 30, 31, 32, 33, 34, 35, 36, 37, 38, 39, 40, 41, 42, 43, 44]=b2Z call u0 u1 u2 u3 u4 u5 u6 u7 u8 u9 u10 u11 u12 u13 u14 u15 u16 u17 u18 u19 u20 u21 u22 u23 u24 u25 u26 u27 u28 u29 u30 u31 u32 u33 u34 u35 u36 u37:=(F6 _ _ _ _ _ _ _ _).trans (by kernel_rfl)
noncomputable def d2B (cb:Cb) (N:Nat) (call:j4) (v2:Value) (a0:Value) (a1:Value) (a2:Value):M CR:=
 cb.bv CR (l9 2 v2) fun v3=>
 cb.bc CR (call 183 [a0,a1,v3]) (fun v4=>
 cb.bj CR (l8 (o7 true v4) (cb.bv R2 (q8 a0) fun v7=>
 cb.bv R2 (l9 4 v7) fun v8=>
 cb.bv R2 (l9 1 v8) fun v9=>
 cb.bc R2 (call 183 [a0,a2,v9]) (fun v10=>
 M.pure (.normal, [a0,a2,a0,v7,v8,v9,v10])) l6) (M.pure (.normal, [undef,undef,undef,undef,undef,undef,undef]))) fun x5 vs6=>l7 x5 (cb.bv CR (q9 v4 (d9 vs6 6) (.bool false)) fun v11=>
 M.pure (.ret v11)) (fun _=>M.fail) M.fail l6) l6
noncomputable def c8k (cb:Cb) (N:Nat) (call:j4) (a0:Value) (a2:Value):M CR:=
 cb.bv CR (q8 a0) fun v12=>
 cb.bv CR (l9 4 v12) fun v13=>
 cb.bv CR (l9 1 v13) fun v14=>
 cb.bc CR (call 183 [a0,a2,v14]) (fun v15=>
 M.pure (.ret v15)) l6
noncomputable def c4q (cb:Cb) (N:Nat) (call:j4) (a0:Value) (a1:Value) (a2:Value):M CR:=
 cb.bj CR (dr call a2N 68 [7, 8, 9, 10, 12, 13, 14, 15, 11, 16, 17, 19, 20, 21, 23, 24, 25, 22, 26, 27, 28, 18, 29, 30, 32, 33, 34, 0, 36, 37, 38, 39, 35, 40, 41, 42, 31, 43] [undef,undef,undef,undef,undef,undef,undef,undef,undef,undef,undef,undef,undef,undef,undef,undef,undef,undef,undef,undef,undef,undef,undef,undef,undef,undef,undef,a0,undef,undef,undef,undef,undef,undef,undef,undef,undef,undef] [7, 8, 9, 10, 11, 12, 13, 14, 15, 16, 17, 18, 19, 20, 21, 22, 23, 24, 25, 26, 27, 28, 29, 30, 31, 32, 33, 34, 35, 36, 37, 38, 39, 40, 41, 42, 43, 44]) fun _ vs0=>
 j6 (d9 vs0 37) (
 cb.bv CR (q8 a0) fun v1=>
 cb.bv CR (l9 4 v1) fun v2=>
 d2B cb N call v2 a0 a1 a2) (
 c8k cb N call a0 a2)
theorem d4B (cb:Cb) (N:Nat) (call:j4) (a0:Value) (a1:Value) (a2:Value):D5 Tryz.prog A9 cb false N call Tryz.f146 d9V e3L [a0,a1,a2]=c4q cb N call a0 a1 a2:=by kernel_rfl
end Go.Proofs.YtmomonnlmbljoaaGreatDoor
end
