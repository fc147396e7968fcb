import Derived.Test.YtmomonnlmbljoaaGreatDoorQat
section
namespace Go.Proofs.YtmomonnlmbljoaaGreatDoor
open Go.V Go.RowKit Go.Shelf Go.Proofs
set_option maxRecDepth 1000000
set_option maxHeartbeats 2000000
set_option linter.unusedVariables false
attribute [local congr] a0b Z9 a0A a0B a0M a0T
variable {mL:Int}
theorem c9g (N:Nat) (call:j5) (X:Ins) (tv lv:Value) (a b:Nat) (hA:X.A=.ofNat a) (hB:X.B=.ofNat b) (ha:a < 4294967296) (hb:b < 4294967296) (hN:X.N < 18446744073709551616) (h53:call 53 [.int .u64 (.ofNat X.N),.int .i64 (.ofNat 64)]=M.pure (.ret (.string ⟨⟨Lib.itoa (sgn 64 X.N)⟩⟩)))
 (c:Nat) (h:Trie VObj) (h19:∀ hh,(∀ b,b < c → hh.get b=h.get b) → ∃ z:List Nat → List Nat, ∀ r w,go (call 19 [H7 X tv lv]) ⟨c + 1,hh,r,w⟩=some (.ret (.bool true),⟨c + 1,hh,z r,w⟩))
 (h45:call 45 [.int .i64 X.op]=M.pure (.ret (.string ⟨⟨V7 X.op⟩⟩))) (h46:call 46 [.int .i64 X.op]=M.pure (.ret (.int .i64 (.ofNat 19))))
 (Ht:P6 c h tv (O9 X.types)) (Hl:P6 c h lv (O9 X.labels)) (r w:List Nat) :
 I6 (go (a0Y G8 N call (H7 X tv lv)) ⟨c,h,r,w⟩) fun x s=>x=.ret (.string ⟨⟨M6 (V7 X.op) (32 :: Lib.itoa (sgn 64 X.N))⟩⟩) ∧ ∀ i,i < c → s.h.get i=h.get i:=by
 obtain ⟨z,h19'⟩:=h19 (upd h c (.cells [(.int .i64 X.op, 0),(.int .i64 X.A, 0),(.int .i64 X.B, 0),(.int .u64 (Int.ofNat X.N), 0),(.int .i64 X.k, 0),(.int .i64 X.v, 0),(.int .i64 X.i, 0),(tv, 0),(lv, 0)] 0 false)) (fun b hb=>E8 (by omega))
 have Ht2:=Ht
 have Hl2:=Hl
 obtain ⟨ta,te,rfl,_⟩:=Ht
 obtain ⟨la,le,rfl,_⟩:=Hl
 simp only [H7,hA,hB,List.length_map] at h19'
 have nl:=a0e X.op
 have q2:=a7o (sgn 64 X.N) (by unfold sgn; split <;> omega) (by unfold sgn; split <;> omega)
 simp (config:={ maxSteps:=10000000 }) (disch:=first | assumption | omega | (simp only [q9,C8,G7,F7,l8,D6,q8,F6,F3,Bool.not_false,Bool.not_true,Bool.and_true,Bool.true_and,Bool.and_self,r9,D5,Nat.zero_add,Nat.reduceAdd,j4,F8,Nat.reduceBEq,G9,H6,E5,j6,A8,l7,l6,l9,C9,j4,F4,G6,G5,F9,H8,H9,D7,z8,D9,w9,o8,o9,F5,D8,I7,IntKind.bits,E9,A9,o7] <;> omega) | assumption) only [a0Y,a4t,a4x,a4u,a4z,a4v,a4F,a4A,a4C,a4B,a4w,a3M,a3D,a3I,a3S,a3A,a3J,a3x,a3T,a3v,a3R,a3K,a3z,a3U,a3O,a3P,a3G,a3y,a3W,a3L,a3V,a3F,a3Q,a3w,a2D,a3C,a2C,a3H,H7,hA,hB,List.length_map,h19',h45,h46,decide_true,K4,J4,V9,G6,G5,F9,h53,Bool.not_true,bn,un,U6,a0d,V6,K6,I8,M0,J8,O5,O4,K4,J4,l_0,l_s,P5,L9,V.d9Z,Q7,U3,a0n,Q0,K8,M9,P8,K7,N9,I5,I9,K9,N8,O6,Q9,J6,J7,Nat.zero_add,Nat.add_zero]
 exact I6.done ⟨by simp only [M7,List.append_assoc,List.cons_append,List.nil_append],fun i hi=>by simp (config:={ maxSteps:=10000000 }) (disch:=first | assumption | omega | (simp only [q9,C8,G7,F7,l8,D6,q8,F6,F3,Bool.not_false,Bool.not_true,Bool.and_true,Bool.true_and,Bool.and_self,r9,D5,Nat.zero_add,Nat.reduceAdd,j4,F8,Nat.reduceBEq,G9,H6,E5,j6,A8,l7,l6,l9,C9,j4,F4,G6,G5,F9,H8,H9,D7,z8,D9,w9,o8,o9,F5,D8,I7,IntKind.bits,E9,A9,o7] <;> omega) | assumption) only [E8]⟩
theorem d0K (N:Nat) (call:j5) (X:Ins) (tv lv:Value) (a b c:Nat) (h:Trie VObj) (T:List UInt8) (hT:M4 T ≤ 100) (hA:X.A=.ofNat a) (hB:X.B=.ofNat b) (ha:a < 4294967296) (hb:b < 4294967296) (h52:∀ hh,(∀ b,b < c → hh.get b=h.get b) → ∃ z:List Nat → List Nat, ∀ r w,go (call 52 [H7 X tv lv]) ⟨c + 1,hh,r,w⟩=some (.ret (.string ⟨⟨T⟩⟩),⟨c + 1,hh,z r,w⟩))
 (h19:∀ hh,(∀ b,b < c → hh.get b=h.get b) → ∃ z:List Nat → List Nat, ∀ r w,go (call 19 [H7 X tv lv]) ⟨c + 1,hh,r,w⟩=some (.ret (.bool true),⟨c + 1,hh,z r,w⟩))
 (h45:call 45 [.int .i64 X.op]=M.pure (.ret (.string ⟨⟨V7 X.op⟩⟩))) (h46:call 46 [.int .i64 X.op]=M.pure (.ret (.int .i64 (.ofNat 17))))
 (Ht:P6 c h tv (O9 X.types)) (Hl:P6 c h lv (O9 X.labels)) (r w:List Nat) :
 I6 (go (a0Y G8 N call (H7 X tv lv)) ⟨c,h,r,w⟩) fun x s=>x=.ret (.string ⟨⟨M6 (V7 X.op) T⟩⟩) ∧ ∀ i,i < c → s.h.get i=h.get i:=by
 obtain ⟨z,h19'⟩:=h19 (upd h c (.cells [(.int .i64 X.op, 0),(.int .i64 X.A, 0),(.int .i64 X.B, 0),(.int .u64 (Int.ofNat X.N), 0),(.int .i64 X.k, 0),(.int .i64 X.v, 0),(.int .i64 X.i, 0),(tv, 0),(lv, 0)] 0 false)) (fun b hb=>E8 (by omega))
 obtain ⟨z2,h52'⟩:=h52 (upd h c (.cells [(.int .i64 X.op, 0),(.int .i64 X.A, 0),(.int .i64 X.B, 0),(.int .u64 (Int.ofNat X.N), 0),(.int .i64 X.k, 0),(.int .i64 X.v, 0),(.int .i64 X.i, 0),(tv, 0),(lv, 0)] 0 false)) (fun b hb=>E8 (by omega))
 have Ht2:=Ht
 have Hl2:=Hl
 obtain ⟨ta,te,rfl,_⟩:=Ht
 obtain ⟨la,le,rfl,_⟩:=Hl
 simp only [H7,hA,hB,List.length_map] at h19' h52'
 have nl:=a0e X.op
 simp (config:={ maxSteps:=10000000 }) (disch:=first | assumption | omega | (simp only [q9,C8,G7,F7,l8,D6,q8,F6,F3,Bool.not_false,Bool.not_true,Bool.and_true,Bool.true_and,Bool.and_self,r9,D5,Nat.zero_add,Nat.reduceAdd,j4,F8,Nat.reduceBEq,G9,H6,E5,j6,A8,l7,l6,l9,C9,j4,F4,G6,G5,F9,H8,H9,D7,z8,D9,w9,o8,o9,F5,D8,I7,IntKind.bits,E9,A9,o7] <;> omega) | assumption) only [a0Y,a4t,a4x,a4u,a4z,a4v,a4F,a4A,a4C,a4B,a4w,a3M,a3D,a3I,a3S,a3A,a3J,a3x,a3T,a3v,a3R,a3K,a3z,a3U,a3O,a3P,a3G,a3y,a3W,a3L,a3V,a3F,a3Q,a3w,a2D,a3C,a2C,a3H,H7,hA,hB,List.length_map,h19',h45,h46,decide_true,K4,J4,V9,G6,G5,F9,h52',Bool.not_true,bn,un,U6,a0d,V6,K6,I8,M0,J8,O5,O4,K4,J4,l_0,l_s,P5,L9,V.d9Z,Q7,U3,a0n,Q0,K8,M9,P8,K7,N9,I5,I9,K9,N8,O6,J6,J7,Nat.zero_add,Nat.add_zero]
 exact I6.done ⟨by simp only [M7],fun i hi=>by simp (config:={ maxSteps:=10000000 }) (disch:=first | assumption | omega | (simp only [q9,C8,G7,F7,l8,D6,q8,F6,F3,Bool.not_false,Bool.not_true,Bool.and_true,Bool.true_and,Bool.and_self,r9,D5,Nat.zero_add,Nat.reduceAdd,j4,F8,Nat.reduceBEq,G9,H6,E5,j6,A8,l7,l6,l9,C9,j4,F4,G6,G5,F9,H8,H9,D7,z8,D9,w9,o8,o9,F5,D8,I7,IntKind.bits,E9,A9,o7] <;> omega) | assumption) only [E8]⟩
theorem d4e (N:Nat) (call:j5) (X:Ins) (tv lv:Value) (a b c:Nat) (h:Trie VObj) (T:List UInt8) (hT:M4 T ≤ 100000) (hA:X.A=.ofNat a) (hB:X.B=.ofNat b) (ha:a < 4294967296) (hb:b < 4294967296) (h48:∀ hh,(∀ b,b < c → hh.get b=h.get b) → ∃ z:List Nat → List Nat, ∀ r w,go (call 48 [H7 X tv lv]) ⟨c + 1,hh,r,w⟩=some (.ret (.string ⟨⟨T⟩⟩),⟨c + 1,hh,z r,w⟩))
 (h19:∀ hh,(∀ b,b < c → hh.get b=h.get b) → ∃ z:List Nat → List Nat, ∀ r w,go (call 19 [H7 X tv lv]) ⟨c + 1,hh,r,w⟩=some (.ret (.bool true),⟨c + 1,hh,z r,w⟩))
 (h45:call 45 [.int .i64 X.op]=M.pure (.ret (.string ⟨⟨V7 X.op⟩⟩))) (h46:call 46 [.int .i64 X.op]=M.pure (.ret (.int .i64 (.ofNat 3))))
 (Ht:P6 c h tv (O9 X.types)) (Hl:P6 c h lv (O9 X.labels)) (r w:List Nat) :
 I6 (go (a0Y G8 N call (H7 X tv lv)) ⟨c,h,r,w⟩) fun x s=>x=.ret (.string ⟨⟨M6 (V7 X.op) T⟩⟩) ∧ ∀ i,i < c → s.h.get i=h.get i:=by
 obtain ⟨z,h19'⟩:=h19 (upd h c (.cells [(.int .i64 X.op, 0),(.int .i64 X.A, 0),(.int .i64 X.B, 0),(.int .u64 (Int.ofNat X.N), 0),(.int .i64 X.k, 0),(.int .i64 X.v, 0),(.int .i64 X.i, 0),(tv, 0),(lv, 0)] 0 false)) (fun b hb=>E8 (by omega))
 obtain ⟨z2,h48'⟩:=h48 (upd h c (.cells [(.int .i64 X.op, 0),(.int .i64 X.A, 0),(.int .i64 X.B, 0),(.int .u64 (Int.ofNat X.N), 0),(.int .i64 X.k, 0),(.int .i64 X.v, 0),(.int .i64 X.i, 0),(tv, 0),(lv, 0)] 0 false)) (fun b hb=>E8 (by omega))
 have Ht2:=Ht
 have Hl2:=Hl
 obtain ⟨ta,te,rfl,_⟩:=Ht
 obtain ⟨la,le,rfl,_⟩:=Hl
 simp only [H7,hA,hB,List.length_map] at h19' h48'
 have nl:=a0e X.op
 simp (config:={ maxSteps:=10000000 }) (disch:=first | assumption | omega | (simp only [q9,C8,G7,F7,l8,D6,q8,F6,F3,Bool.not_false,Bool.not_true,Bool.and_true,Bool.true_and,Bool.and_self,r9,D5,Nat.zero_add,Nat.reduceAdd,j4,F8,Nat.reduceBEq,G9,H6,E5,j6,A8,l7,l6,l9,C9,j4,F4,G6,G5,F9,H8,H9,D7,z8,D9,w9,o8,o9,F5,D8,I7,IntKind.bits,E9,A9,o7] <;> omega) | assumption) only [a0Y,a4t,a4x,a4u,a4z,a4v,a4F,a4A,a4C,a4B,a4w,a3M,a3D,a3I,a3S,a3A,a3J,a3x,a3T,a3v,a3R,a3K,a3z,a3U,a3O,a3P,a3G,a3y,a3W,a3L,a3V,a3F,a3Q,a3w,a2D,a3C,a2C,a3H,H7,hA,hB,List.length_map,h19',h45,h46,decide_true,K4,J4,V9,G6,G5,F9,h48',Bool.not_true,bn,un,U6,a0d,V6,K6,I8,M0,J8,O5,O4,K4,J4,l_0,l_s,P5,L9,V.d9Z,Q7,U3,a0n,Q0,K8,M9,P8,K7,N9,I5,I9,K9,N8,O6,J6,J7,Nat.zero_add,Nat.add_zero]
 exact I6.done ⟨by simp only [M7],fun i hi=>by simp (config:={ maxSteps:=10000000 }) (disch:=first | assumption | omega | (simp only [q9,C8,G7,F7,l8,D6,q8,F6,F3,Bool.not_false,Bool.not_true,Bool.and_true,Bool.true_and,Bool.and_self,r9,D5,Nat.zero_add,Nat.reduceAdd,j4,F8,Nat.reduceBEq,G9,H6,E5,j6,A8,l7,l6,l9,C9,j4,F4,G6,G5,F9,H8,H9,D7,z8,D9,w9,o8,o9,F5,D8,I7,IntKind.bits,E9,A9,o7] <;> omega) | assumption) only [E8]⟩
theorem c8d (N:Nat) (call:j5) (X:Ins) (tv lv:Value) (a b:Nat) (hA:X.A=.ofNat a) (hB:X.B=.ofNat b) (ha:a < 4294967296) (hb:b < 4294967296)
 (c:Nat) (h:Trie VObj) (h19:∀ hh,(∀ b,b < c → hh.get b=h.get b) → ∃ z:List Nat → List Nat, ∀ r w,go (call 19 [H7 X tv lv]) ⟨c + 1,hh,r,w⟩=some (.ret (.bool true),⟨c + 1,hh,z r,w⟩))
 (h45:call 45 [.int .i64 X.op]=M.pure (.ret (.string ⟨⟨V7 X.op⟩⟩))) (h46:call 46 [.int .i64 X.op]=M.pure (.ret (.int .i64 (.ofNat 20))))
 (Ht:P6 c h tv (O9 X.types)) (Hl:P6 c h lv (O9 X.labels)) (r w:List Nat) :
 I6 (go (a0Y G8 N call (H7 X tv lv)) ⟨c,h,r,w⟩) fun x s=>x=.ret (.string ⟨⟨M6 (V7 X.op) (bcase (decide (X.A=3)) [32, 102, 117, 110, 99] [32, 101, 120, 116, 101, 114, 110])⟩⟩) ∧ ∀ i,i < c → s.h.get i=h.get i:=by
 obtain ⟨z,h19'⟩:=h19 (upd h c (.cells [(.int .i64 X.op, 0),(.int .i64 X.A, 0),(.int .i64 X.B, 0),(.int .u64 (Int.ofNat X.N), 0),(.int .i64 X.k, 0),(.int .i64 X.v, 0),(.int .i64 X.i, 0),(tv, 0),(lv, 0)] 0 false)) (fun b hb=>E8 (by omega))
 have Ht2:=Ht
 have Hl2:=Hl
 obtain ⟨ta,te,rfl,_⟩:=Ht
 obtain ⟨la,le,rfl,_⟩:=Hl
 simp only [H7,hA,hB,List.length_map] at h19'
 have nl:=a0e X.op
 simp (config:={ maxSteps:=10000000 }) (disch:=first | assumption | omega | (simp only [q9,C8,G7,F7,l8,D6,q8,F6,F3,Bool.not_false,Bool.not_true,Bool.and_true,Bool.true_and,Bool.and_self,r9,D5,Nat.zero_add,Nat.reduceAdd,j4,F8,Nat.reduceBEq,G9,H6,E5,j6,A8,l7,l6,l9,C9,j4,F4,G6,G5,F9,H8,H9,D7,z8,D9,w9,o8,o9,F5,D8,I7,IntKind.bits,E9,A9,o7] <;> omega) | assumption) only [a0Y,a4t,a4x,a4u,a4z,a4v,a4F,a4A,a4C,a4B,a4w,a3M,a3D,a3I,a3S,a3A,a3J,a3x,a3T,a3v,a3R,a3K,a3z,a3U,a3O,a3P,a3G,a3y,a3W,a3L,a3V,a3F,a3Q,a3w,a2D,a3C,a2C,a3H,H7,hA,hB,List.length_map,h19',h45,h46,decide_true,K4,J4,V9,G6,F9,Bool.not_true,bn,un,U6,a0d,V6,K6,I8,M0,J8,O5,O4,K4,J4,a3n,l_0,l_s,P5,L9,V.d9Z,a6Q,a8m,Q7,U3,a0n,Q0,K8,M9,P8,K7,N9,I5,I9,K9,N8,O6,Q9,J6,J7,Nat.zero_add,Nat.add_zero]
 refine I6.done ⟨?_,fun i hi=>by simp (config:={ maxSteps:=10000000 }) (disch:=first | assumption | omega | (simp only [q9,C8,G7,F7,l8,D6,q8,F6,F3,Bool.not_false,Bool.not_true,Bool.and_true,Bool.true_and,Bool.and_self,r9,D5,Nat.zero_add,Nat.reduceAdd,j4,F8,Nat.reduceBEq,G9,H6,E5,j6,A8,l7,l6,l9,C9,j4,F4,G6,G5,F9,H8,H9,D7,z8,D9,w9,o8,o9,F5,D8,I7,IntKind.bits,E9,A9,o7] <;> omega) | assumption) only [E8]⟩
 try rw [show (decide (Int.ofNat a=(3:Int)))=a.beq 3 from V9 a 3]
 cases a.beq 3 <;> rfl
theorem d5G (N:Nat) (call:j5) (X:Ins) (tv lv:Value) (a b:Nat) (hA:X.A=.ofNat a) (hB:X.B=.ofNat b) (ha:a < 4294967296) (hb:b < 4294967296) (hi1:-9223372036854775808 ≤ X.i) (hi2:X.i ≤ 9223372036854775807) (h15:call 15 [.agg ⟨[.int .i64 X.k,.int .i64 X.v,.int .i64 X.i]⟩]=M.pure (.ret (.string ⟨⟨a5J X.k X.v X.i⟩⟩)))
 (c:Nat) (h:Trie VObj) (h19:∀ hh,(∀ b,b < c → hh.get b=h.get b) → ∃ z:List Nat → List Nat, ∀ r w,go (call 19 [H7 X tv lv]) ⟨c + 1,hh,r,w⟩=some (.ret (.bool true),⟨c + 1,hh,z r,w⟩))
 (h45:call 45 [.int .i64 X.op]=M.pure (.ret (.string ⟨⟨V7 X.op⟩⟩))) (h46:call 46 [.int .i64 X.op]=M.pure (.ret (.int .i64 (.ofNat 1))))
 (Ht:P6 c h tv (O9 X.types)) (Hl:P6 c h lv (O9 X.labels)) (r w:List Nat) :
 I6 (go (a0Y G8 N call (H7 X tv lv)) ⟨c,h,r,w⟩) fun x s=>x=.ret (.string ⟨⟨M6 (V7 X.op) (bcase (decide (X.k=0)) [] (32 :: a5J X.k X.v X.i))⟩⟩) ∧ ∀ i,i < c → s.h.get i=h.get i:=by
 obtain ⟨z,h19'⟩:=h19 (upd h c (.cells [(.int .i64 X.op, 0),(.int .i64 X.A, 0),(.int .i64 X.B, 0),(.int .u64 (Int.ofNat X.N), 0),(.int .i64 X.k, 0),(.int .i64 X.v, 0),(.int .i64 X.i, 0),(tv, 0),(lv, 0)] 0 false)) (fun b hb=>E8 (by omega))
 have Ht2:=Ht
 have Hl2:=Hl
 obtain ⟨ta,te,rfl,_⟩:=Ht
 obtain ⟨la,le,rfl,_⟩:=Hl
 simp only [H7,hA,hB,List.length_map] at h19'
 have nl:=a0e X.op
 have q2:=b6f X.k X.v X.i hi1 hi2
 have dk:decide (X.k=Int.ofNat 0)=decide (X.k=0):=rfl
 simp (config:={ maxSteps:=10000000 }) (disch:=first | assumption | omega | (simp only [q9,C8,G7,F7,l8,D6,q8,F6,F3,Bool.not_false,Bool.not_true,Bool.and_true,Bool.true_and,Bool.and_self,r9,D5,Nat.zero_add,Nat.reduceAdd,j4,F8,Nat.reduceBEq,G9,H6,E5,j6,A8,l7,l6,l9,C9,j4,F4,G6,G5,F9,H8,H9,D7,z8,D9,w9,o8,o9,F5,D8,I7,IntKind.bits,E9,A9,o7] <;> omega) | assumption) only [a0Y,a4t,a4x,a4u,a4z,a4v,a4F,a4A,a4C,a4B,a4w,a3M,a3D,a3I,a3S,a3A,a3J,a3x,a3T,a3v,a3R,a3K,a3z,a3U,a3O,a3P,a3G,a3y,a3W,a3L,a3V,a3F,a3Q,a3w,a2D,a3C,a2C,a3H,H7,hA,hB,List.length_map,h19',h45,h46,decide_true,K4,J4,V9,G5,F9,h15,dk,Bool.not_true,bn,un,U6,a0d,V6,K6,I8,M0,J8,a4b,a5X,U5,O5,O4,K4,J4,a7k,l_0,l_s,P5,L9,V.d9Z,a6Q,a8m,Q7,a0S,U3,a0n,Q0,K8,M9,P8,K7,N9,I5,I9,K9,N8,O6,Q9,J6,J7,Nat.zero_add,Nat.add_zero]
 refine I6.done ⟨?_,fun i hi=>by simp (config:={ maxSteps:=10000000 }) (disch:=first | assumption | omega | (simp only [q9,C8,G7,F7,l8,D6,q8,F6,F3,Bool.not_false,Bool.not_true,Bool.and_true,Bool.true_and,Bool.and_self,r9,D5,Nat.zero_add,Nat.reduceAdd,j4,F8,Nat.reduceBEq,G9,H6,E5,j6,A8,l7,l6,l9,C9,j4,F4,G6,G5,F9,H8,H9,D7,z8,D9,w9,o8,o9,F5,D8,I7,IntKind.bits,E9,A9,o7] <;> omega) | assumption) only [E8]⟩
 cases decide (X.k=0) <;> simp [M7,bcase]
theorem d6B (N:Nat) (call:j5) (X:Ins) (tv lv:Value) (a b:Nat) (hA:X.A=.ofNat a) (hB:X.B=.ofNat b) (ha:a < 4294967296) (hb:b < 4294967296) (t:Int) (ht:X.types=[t]) (h50:∀ n,call 50 [.int .i64 n]=M.pure (.ret (.string ⟨⟨a2k n⟩⟩)))
 (c:Nat) (h:Trie VObj) (h19:∀ hh,(∀ b,b < c → hh.get b=h.get b) → ∃ z:List Nat → List Nat, ∀ r w,go (call 19 [H7 X tv lv]) ⟨c + 1,hh,r,w⟩=some (.ret (.bool true),⟨c + 1,hh,z r,w⟩))
 (h45:call 45 [.int .i64 X.op]=M.pure (.ret (.string ⟨⟨V7 X.op⟩⟩))) (h46:call 46 [.int .i64 X.op]=M.pure (.ret (.int .i64 (.ofNat 6))))
 (Ht:P6 c h tv (O9 X.types)) (Hl:P6 c h lv (O9 X.labels)) (r w:List Nat) :
 I6 (go (a0Y G8 N call (H7 X tv lv)) ⟨c,h,r,w⟩) fun x s=>x=.ret (.string ⟨⟨M6 (V7 X.op) (M6 [32, 40, 114, 101, 115, 117, 108, 116, 32] (M6 (a2k t) [41]))⟩⟩) ∧ ∀ i,i < c → s.h.get i=h.get i:=by
 obtain ⟨z,h19'⟩:=h19 (upd h c (.cells [(.int .i64 X.op, 0),(.int .i64 X.A, 0),(.int .i64 X.B, 0),(.int .u64 (Int.ofNat X.N), 0),(.int .i64 X.k, 0),(.int .i64 X.v, 0),(.int .i64 X.i, 0),(tv, 0),(lv, 0)] 0 false)) (fun b hb=>E8 (by omega))
 obtain ⟨p,bb,_,e1,e2⟩:=Ht.read (Nat.le_succ c) (h':=upd h c (.cells [(.int .i64 X.op, 0),(.int .i64 X.A, 0),(.int .i64 X.B, 0),(.int .u64 (Int.ofNat X.N), 0),(.int .i64 X.k, 0),(.int .i64 X.v, 0),(.int .i64 X.i, 0),(tv, 0),(lv, 0)] 0 false)) (fun b hb=>E8 (by omega)) (i:=0) (x:=.int .i64 t) (by rw [ht]; rfl)
 have Ht2:=Ht
 have Hl2:=Hl
 obtain ⟨ta,te,rfl,_⟩:=Ht
 obtain ⟨la,le,rfl,_⟩:=Hl
 simp only [H7,hA,hB,List.length_map] at h19' e1 e2
 have nl:=a0e X.op
 have q2:=a7f t
 simp (config:={ maxSteps:=10000000 }) (disch:=first | assumption | omega | (simp only [q9,C8,G7,F7,l8,D6,q8,F6,F3,Bool.not_false,Bool.not_true,Bool.and_true,Bool.true_and,Bool.and_self,r9,D5,Nat.zero_add,Nat.reduceAdd,j4,F8,Nat.reduceBEq,G9,H6,E5,j6,A8,l7,l6,l9,C9,j4,F4,G6,G5,F9,H8,H9,D7,z8,D9,w9,o8,o9,F5,D8,I7,IntKind.bits,E9,A9,o7] <;> omega) | assumption) only [a0Y,a4t,a4x,a4u,a4z,a4v,a4F,a4A,a4C,a4B,a4w,a3M,a3D,a3I,a3S,a3A,a3J,a3x,a3T,a3v,a3R,a3K,a3z,a3U,a3O,a3P,a3G,a3y,a3W,a3L,a3V,a3F,a3Q,a3w,a2D,a3C,a2C,a3H,H7,hA,hB,List.length_map,h19',h45,h46,decide_true,K4,J4,V9,G6,G5,F9,h50,e1,e2,Bool.not_true,bn,un,U6,a0d,V6,K6,I8,M0,J8,O5,O4,A9,o7,K4,J4,l_0,l_s,P5,L9,V.d9Z,Q7,U3,a0n,Q0,K8,M9,P8,K7,N9,I5,I9,K9,N8,O6,Q9,J6,J7,Nat.zero_add,Nat.add_zero]
 exact I6.done ⟨by simp only [M7,List.append_assoc,List.cons_append,List.nil_append],fun i hi=>by simp (config:={ maxSteps:=10000000 }) (disch:=first | assumption | omega | (simp only [q9,C8,G7,F7,l8,D6,q8,F6,F3,Bool.not_false,Bool.not_true,Bool.and_true,Bool.true_and,Bool.and_self,r9,D5,Nat.zero_add,Nat.reduceAdd,j4,F8,Nat.reduceBEq,G9,H6,E5,j6,A8,l7,l6,l9,C9,j4,F4,G6,G5,F9,H8,H9,D7,z8,D9,w9,o8,o9,F5,D8,I7,IntKind.bits,E9,A9,o7] <;> omega) | assumption) only [E8]⟩
end Go.Proofs.YtmomonnlmbljoaaGreatDoor
end
section
namespace Go.Proofs.YtmomonnlmbljoaaGreatDoor
open Go.V Go.RowKit Go.Shelf Go.Proofs
set_option maxRecDepth 1000000
set_option linter.unusedVariables false
attribute [local congr] a0b Z9 a0A a0B a0M a0T
variable {mL:Int}
theorem O1 {z:Int} (h:idxB z=true):∃ a:Nat,z=.ofNat a ∧ a < 4294967296:=by
 unfold idxB at h
 rw [Bool.and_eq_true,decide_eq_true_eq,decide_eq_true_eq] at h
 exact ⟨z.toNat,by simp; omega,by omega⟩
theorem b0r:∀ {l:List Int},idxAll l=true → l=(l.map Int.toNat).map Int.ofNat ∧ ∀ m ∈ l.map Int.toNat,m < 4294967296:=by
 intro l
 induction l with
 | nil=>intro _; exact ⟨rfl,fun m h=>by cases h⟩
 | cons z l ih=>
   intro h
   have h':=(a1a _ _).1 (show a0N idxB (z :: l)=true from h)
   obtain ⟨a,rfl,ha⟩:=O1 (h' z List.mem_cons_self)
   obtain ⟨q1,q2⟩:=ih (show a0N idxB l=true from (a1a _ _).2 fun x hx=>h' x (List.mem_cons_of_mem _ hx))
   refine ⟨?_, ?_⟩
   · rw [List.map_cons,List.map_cons, ← q1]; rfl
   · intro m hm
     rw [List.map_cons,List.mem_cons] at hm
     rcases hm with rfl | hm
     · exact ha
     · exact q2 m hm
structure PlainF (K:Nat) (X:Ins):Prop where
 A:idxB X.A=true
 B:idxB X.B=true
 N:K.beq 19=false → X.N < 4294967296
 rest:a3f K X=true
theorem c2H {K:Nat} {X:Ins} (h:pK K X=true):PlainF K X:=by
 unfold pK a2N at h
 cases h1:a4K (uA K) (uB K) (uN K) X with
 | true=>rw [h1] at h; cases h
 | false=>
   cases h2:a4S K X with
   | true=>rw [h1,h2] at h; cases h
   | false=>
     rw [h1,h2] at h
     unfold a4K at h1
     unfold a4S at h2
     simp only [Bool.or_eq_false_iff,Bool.not_eq_false'] at h1
     refine ⟨h1.1.2,h1.2,fun hk=>?_,h⟩
     simp only [Bool.or_eq_false_iff] at h2
     have h3:=h2.1.1.1
     rw [hk] at h3
     simpa [Nat.blt_eq] using h3
theorem c3P:a0N (fun r:a5r=>!(r.2.2.beq 17) || (a4G a4O (Int.ofNat r.1)).isSome) a0E=true:=by kernel_rfl
theorem c5c {z:Int} (h:a0K z=17):∃ al,a4G a4O z=some al:=by
 unfold a0K at h
 cases hf:a0X z a0E with
 | none=>rw [hf] at h; cases h
 | some r=>
   rw [hf] at h
   obtain ⟨h1,h2⟩:=a7b z a0E r hf
   have h3:=(a1a _ _).1 c3P r h1
   rw [show r.2.2=17 from h, ← h2] at h3
   exact Option.isSome_iff_exists.1 h3
noncomputable def e5:Nat → Option (List Value → M Value):=a0H (a0H (a0H (a0H e4 34 (XI fun X=>some (.bool (a4N X)))) 19 (XI fun X=>some (.bool (a4N X)))) 15 (XB a7Z)) 98 (X1 .i64 a6p)
noncomputable def s5:a2i:=a2h (a2h (a2h (a2h s4 34 (XI fun X=>some (.bool (a4N X)))) 19 (XI fun X=>some (.bool (a4N X)))) 15 (XB a7Z)) 98 (X1 .i64 a6p)
theorem L5:Shelf' Tryz.prog Q6 (W9 mL) NN e5 s5:=(((L4.add d8V).add d1z).add d4B).add d1U
theorem d4f (n m:Nat) (h:m < 18446744073709551616):J9 s5 (n + 1) 47 [.int .i64 (.ofNat m)]=M.pure (.ret (.string ⟨⟨Z8 m⟩⟩)):=a2P (q:=q47) (by kernel_rfl) n (b6T m h)
theorem d6X (n m:Nat) (h:m < 18446744073709551616):J9 s5 (n + 1) 49 [.int .i64 (.ofNat m)]=M.pure (.ret (.string ⟨⟨a0V m⟩⟩)):=a2P (q:=q49) (by kernel_rfl) n (c1v m h)
theorem d6G (n m:Nat) (h:m < 18446744073709551616):J9 s5 (n + 1) 25 [.int .u64 (.ofNat m)]=M.pure (.ret (.string ⟨⟨Lib.decDigits m⟩⟩)):=a2P (q:=q25) (by kernel_rfl) n (c2P m h)
theorem d2t (n:Nat) (z:Int) (al:Nat) (h:a4G a4O z=some al):J9 s5 (n + 1) 98 [.int .i64 z]=M.pure (.ret (.int .i64 (.ofNat al))):=a2P (q:=a6p) (by kernel_rfl) n (by unfold a6p; rw [h])
noncomputable def q48 (X:Ins):Option Value:=bcase (idxAll X.labels && idxB X.A) (some (.string ⟨⟨M6 (a7q (X.labels.map Int.toNat)) (Z8 X.A.toNat)⟩⟩)) none
theorem c7g {X:Ins} {v:Value} (h:q48 X=some v):idxAll X.labels=true ∧ idxB X.A=true ∧ v=.string ⟨⟨M6 (a7q (X.labels.map Int.toNat)) (Z8 X.A.toNat)⟩⟩:=by
 obtain ⟨h1,rfl⟩:=a3d h
 rw [Bool.and_eq_true] at h1
 exact ⟨h1.1,h1.2,rfl⟩
theorem d7U:a0f Tryz.prog Q6 (W9 mL) 48 (XI q48):=b3Q L5 Tryz.func48 (by kernel_rfl) rfl fun X x y c hp H e=>by
 obtain ⟨h1,h2,rfl⟩:=c7g e
 obtain ⟨⟨tv,lv,rfl,Ht,Hl⟩,h3,h4⟩:=H
 obtain ⟨a,hA,ha⟩:=O1 h2
 obtain ⟨q1,q2⟩:=b0r h1
 refine ⟨rfl, 2,fun r w=>?_⟩
 rw [a3g (q:=b8d) (N:=NN) (by kernel_rfl) 1,hA]
 exact t48 NN (by decide) _ (d4f 0) X tv lv a _ hA ha q1 q2 (by rw [List.length_map]; exact h4) c hp Ht Hl r w
noncomputable def q52 (X:Ins):Option Value:=bcase ((idxB X.A && idxB X.B) && (decide (X.A ≤ 63) && (X.N.blt 4294967296 && (a4G a4O X.op).isSome))) (some (.string ⟨⟨M6 (M6 (a0V X.B.toNat) (a5p X.N)) (a5t X.A.toNat ((a4G a4O X.op).getD 0))⟩⟩)) none
theorem c6y {X:Ins} {v:Value} (h:q52 X=some v):idxB X.A=true ∧ idxB X.B=true ∧ X.A ≤ 63 ∧ X.N < 4294967296 ∧ (∃ al,a4G a4O X.op=some al) ∧ v=.string ⟨⟨M6 (M6 (a0V X.B.toNat) (a5p X.N)) (a5t X.A.toNat ((a4G a4O X.op).getD 0))⟩⟩:=by
 obtain ⟨h1,rfl⟩:=a3d h
 simp only [Bool.and_eq_true,decide_eq_true_eq,Nat.blt_eq] at h1
 exact ⟨h1.1.1,h1.1.2,h1.2.1,h1.2.2.1,Option.isSome_iff_exists.1 h1.2.2.2,rfl⟩
theorem d2e:a0f Tryz.prog Q6 (W9 mL) 52 (XI q52):=b3Q L5 Tryz.func52 (by kernel_rfl) rfl fun X x y c hp H e=>by
 obtain ⟨h1,h2,h5,h6,⟨al,hal⟩,rfl⟩:=c6y e
 obtain ⟨⟨tv,lv,rfl,Ht,Hl⟩,h3,h4⟩:=H
 obtain ⟨a,hA,ha⟩:=O1 h1
 obtain ⟨b,hB,hb⟩:=O1 h2
 refine ⟨rfl, 2,fun r w=>?_⟩
 obtain ⟨ta,te,rfl,_⟩:=Ht
 obtain ⟨la,le,rfl,_⟩:=Hl
 rw [a3g (q:=b1t) (N:=NN) (by kernel_rfl) 1,hA,hB,hal]
 unfold H7
 rw [hA,hB]
 exact t52 NN _ X.op a b X.N al X.k X.v X.i _ _ ⟨rfl,rfl⟩ (by rw [hA] at h5; simp only [Int.ofNat_eq_natCast] at h5; omega) hb h6 (d6X 0 b (by omega)) (d6G 0) (d2t 0 _ al hal) c hp r w _ _ _ _ _ _ rfl rfl
noncomputable def e6:Nat → Option (List Value → M Value):=a0H (a0H e5 48 (XI q48)) 52 (XI q52)
noncomputable def s6:a2i:=a2h (a2h s5 48 (XI q48)) 52 (XI q52)
theorem L6:Shelf' Tryz.prog Q6 (W9 mL) NN e6 s6:=(L5.add d7U).add d2e
theorem a4Y (n:Nat) (z:Int):J9 s6 (n + 1) 45 [.int .i64 z]=M.pure (.ret (.string ⟨⟨V7 z⟩⟩)):=a2P (q:=fun z=>some (.string ⟨⟨V7 z⟩⟩)) (by kernel_rfl) n rfl
theorem a4V (n:Nat) (z:Int):J9 s6 (n + 1) 46 [.int .i64 z]=M.pure (.ret (.int .i64 (.ofNat (a0K z)))):=a2P (q:=fun z=>some (.int .i64 (.ofNat (a0K z)))) (by kernel_rfl) n rfl
theorem a8F (n m:Nat) (h:m < 18446744073709551616):J9 s6 (n + 1) 47 [.int .i64 (.ofNat m)]=M.pure (.ret (.string ⟨⟨Z8 m⟩⟩)):=a2P (q:=q47) (by kernel_rfl) n (b6T m h)
theorem b3n (n m:Nat) (h:m < 18446744073709551616):J9 s6 (n + 1) 49 [.int .i64 (.ofNat m)]=M.pure (.ret (.string ⟨⟨a0V m⟩⟩)):=a2P (q:=q49) (by kernel_rfl) n (c1v m h)
theorem c4H (n m k:Nat) (h:m < 18446744073709551616) (h':k < 18446744073709551616):J9 s6 (n + 1) 51 [.int .i64 (.ofNat m),.int .i64 (.ofNat k)]=M.pure (.ret (.string ⟨⟨a4L m k⟩⟩)):=a0D (q:=q51) (by kernel_rfl) n (c9v m k h h')
theorem c9S (n m:Nat) (h:m < 4294967296):J9 s6 (n + 1) 53 [.int .u64 (.ofNat m),.int .i64 (.ofNat 32)]=M.pure (.ret (.string ⟨⟨Lib.itoa (sgn 32 m)⟩⟩)):=a0D (q:=a6l) (by kernel_rfl) n (b7X m h)
theorem d0v (n m:Nat) (h:m < 18446744073709551616):J9 s6 (n + 1) 53 [.int .u64 (.ofNat m),.int .i64 (.ofNat 64)]=M.pure (.ret (.string ⟨⟨Lib.itoa (sgn 64 m)⟩⟩)):=a0D (q:=a6l) (by kernel_rfl) n (b2E m h)
theorem d3t (n:Nat) (z:Int):J9 s6 (n + 1) 50 [.int .i64 z]=M.pure (.ret (.string ⟨⟨a2k z⟩⟩)):=a2P (q:=fun z=>some (.string ⟨⟨a2k z⟩⟩)) (by kernel_rfl) n rfl
theorem d6W (n:Nat) (k v i:Int) (h1:-9223372036854775808 ≤ i) (h2:i ≤ 9223372036854775807):J9 s6 (n + 1) 15 [.agg ⟨[.int .i64 k,.int .i64 v,.int .i64 i]⟩]=M.pure (.ret (.string ⟨⟨a5J k v i⟩⟩)):=b1L (q:=a7Z) (by kernel_rfl) n (b1G k v i h1 h2)
theorem cI {q:Ins → Option Value} {sh:a2i} {f:Nat} (hf:sh.get f=some (arX (XI q))) {c:Nat} {h:Trie VObj} {X:Ins} {x y:Value} (H:InsAt c h X x) (e:q X=some y) (hh:Trie VObj) (hb:∀ b,b < c → hh.get b=h.get b) :
 ∃ z:List Nat → List Nat, ∀ r w,go (J9 sh 1 f [x]) ⟨c + 1,hh,r,w⟩=some (.ret y,⟨c + 1,hh,z r,w⟩):=by
 obtain ⟨z,hz⟩:=b8g H (Nat.le_succ c) hb e
 exact ⟨z,fun r w=>b5q hf 0 (hz r w)⟩
theorem c2t {k v i:Int} (h:a5c k v i=true):-9223372036854775808 ≤ i ∧ i ≤ 9223372036854775807:=by
 unfold a5c at h
 cases h0:decide (k=0) with
 | true=>
   rw [h0] at h
   have h':(decide (v=0) && decide (i=0))=true:=h
   simp only [Bool.and_eq_true,decide_eq_true_eq] at h'
   omega
 | false=>
   rw [h0] at h
   cases h1:decide (k=1) with
   | true=>
     rw [h1] at h
     have h':(a2X v && decide (i=0))=true:=h
     simp only [Bool.and_eq_true,decide_eq_true_eq] at h'
     omega
   | false=>
     rw [h1] at h
     have h':(decide (k=2) && decide (v=0) && idxB i)=true:=h
     rw [Bool.and_eq_true] at h'
     obtain ⟨a,rfl,ha⟩:=O1 h'.2
     simp only [Int.ofNat_eq_natCast]
     omega
theorem a0I {X:Ins} {K:Nat} (hk:a0K X.op=K) {T:List UInt8} (h:a2O K X=T):M6 (V7 X.op) T=a2a X:=by
 unfold a2a; rw [hk,h]
theorem d3C (X:Ins) (tv lv:Value) (hk:a0K X.op=0) (F:PlainF 0 X) (hN:X.N < 18446744073709551616) (c:Nat) (h:Trie VObj) (h19:∀ hh,(∀ b,b < c → hh.get b=h.get b) → ∃ z:List Nat → List Nat, ∀ r w,go (J9 s6 1 19 [H7 X tv lv]) ⟨c + 1,hh,r,w⟩=some (.ret (.bool true),⟨c + 1,hh,z r,w⟩))
 (H:InsAt c h X (H7 X tv lv)) (Ht:P6 c h tv (O9 X.types)) (Hl:P6 c h lv (O9 X.labels)) (r w:List Nat) :
 I6 (go (a0Y G8 NN (J9 s6 1) (H7 X tv lv)) ⟨c,h,r,w⟩) fun x s=>x=.ret (.string ⟨⟨a2a X⟩⟩) ∧ ∀ i,i < c → s.h.get i=h.get i:=by
 obtain ⟨a,hA,ha⟩:=O1 F.A
 obtain ⟨b,hB,hb⟩:=O1 F.B
 have h46:J9 s6 1 46 [.int .i64 X.op]=M.pure (.ret (.int .i64 (.ofNat 0))):=by rw [a4V 0,hk]
 exact (d2E NN _ X tv lv a b hA hB ha hb  c h h19 (a4Y 0 _) h46 Ht Hl r w).mono fun x s ⟨q,q'⟩=>⟨by rw [q,a0I hk (by rfl)],q'⟩
theorem d3c (X:Ins) (tv lv:Value) (hk:a0K X.op=2) (F:PlainF 2 X) (hN:X.N < 18446744073709551616) (c:Nat) (h:Trie VObj) (h19:∀ hh,(∀ b,b < c → hh.get b=h.get b) → ∃ z:List Nat → List Nat, ∀ r w,go (J9 s6 1 19 [H7 X tv lv]) ⟨c + 1,hh,r,w⟩=some (.ret (.bool true),⟨c + 1,hh,z r,w⟩))
 (H:InsAt c h X (H7 X tv lv)) (Ht:P6 c h tv (O9 X.types)) (Hl:P6 c h lv (O9 X.labels)) (r w:List Nat) :
 I6 (go (a0Y G8 NN (J9 s6 1) (H7 X tv lv)) ⟨c,h,r,w⟩) fun x s=>x=.ret (.string ⟨⟨a2a X⟩⟩) ∧ ∀ i,i < c → s.h.get i=h.get i:=by
 obtain ⟨a,hA,ha⟩:=O1 F.A
 obtain ⟨b,hB,hb⟩:=O1 F.B
 have h46:J9 s6 1 46 [.int .i64 X.op]=M.pure (.ret (.int .i64 (.ofNat 2))):=by rw [a4V 0,hk]
 exact (d8D NN _ X tv lv a b hA hB ha hb (a8F 0) c h h19 (a4Y 0 _) h46 Ht Hl r w).mono fun x s ⟨q,q'⟩=>⟨by rw [q,a0I hk (by unfold a2O; rw [hA]; rfl)],q'⟩
theorem d3R (X:Ins) (tv lv:Value) (hk:a0K X.op=4) (F:PlainF 4 X) (hN:X.N < 18446744073709551616) (c:Nat) (h:Trie VObj) (h19:∀ hh,(∀ b,b < c → hh.get b=h.get b) → ∃ z:List Nat → List Nat, ∀ r w,go (J9 s6 1 19 [H7 X tv lv]) ⟨c + 1,hh,r,w⟩=some (.ret (.bool true),⟨c + 1,hh,z r,w⟩))
 (H:InsAt c h X (H7 X tv lv)) (Ht:P6 c h tv (O9 X.types)) (Hl:P6 c h lv (O9 X.labels)) (r w:List Nat) :
 I6 (go (a0Y G8 NN (J9 s6 1) (H7 X tv lv)) ⟨c,h,r,w⟩) fun x s=>x=.ret (.string ⟨⟨a2a X⟩⟩) ∧ ∀ i,i < c → s.h.get i=h.get i:=by
 obtain ⟨a,hA,ha⟩:=O1 F.A
 obtain ⟨b,hB,hb⟩:=O1 F.B
 have h46:J9 s6 1 46 [.int .i64 X.op]=M.pure (.ret (.int .i64 (.ofNat 4))):=by rw [a4V 0,hk]
 exact (d8u NN _ X tv lv a b hA hB ha hb (a8F 0) c h h19 (a4Y 0 _) h46 Ht Hl r w).mono fun x s ⟨q,q'⟩=>⟨by rw [q,a0I hk (by unfold a2O; rw [hA]; rfl)],q'⟩
theorem d2y (X:Ins) (tv lv:Value) (hk:a0K X.op=7) (F:PlainF 7 X) (hN:X.N < 18446744073709551616) (c:Nat) (h:Trie VObj) (h19:∀ hh,(∀ b,b < c → hh.get b=h.get b) → ∃ z:List Nat → List Nat, ∀ r w,go (J9 s6 1 19 [H7 X tv lv]) ⟨c + 1,hh,r,w⟩=some (.ret (.bool true),⟨c + 1,hh,z r,w⟩))
 (H:InsAt c h X (H7 X tv lv)) (Ht:P6 c h tv (O9 X.types)) (Hl:P6 c h lv (O9 X.labels)) (r w:List Nat) :
 I6 (go (a0Y G8 NN (J9 s6 1) (H7 X tv lv)) ⟨c,h,r,w⟩) fun x s=>x=.ret (.string ⟨⟨a2a X⟩⟩) ∧ ∀ i,i < c → s.h.get i=h.get i:=by
 obtain ⟨a,hA,ha⟩:=O1 F.A
 obtain ⟨b,hB,hb⟩:=O1 F.B
 have h46:J9 s6 1 46 [.int .i64 X.op]=M.pure (.ret (.int .i64 (.ofNat 7))):=by rw [a4V 0,hk]
 exact (d7n NN _ X tv lv a b hA hB ha hb (a8F 0) c h h19 (a4Y 0 _) h46 Ht Hl r w).mono fun x s ⟨q,q'⟩=>⟨by rw [q,a0I hk (by unfold a2O; rw [hA]; rfl)],q'⟩
theorem d7V (X:Ins) (tv lv:Value) (hk:a0K X.op=8) (F:PlainF 8 X) (hN:X.N < 18446744073709551616) (c:Nat) (h:Trie VObj) (h19:∀ hh,(∀ b,b < c → hh.get b=h.get b) → ∃ z:List Nat → List Nat, ∀ r w,go (J9 s6 1 19 [H7 X tv lv]) ⟨c + 1,hh,r,w⟩=some (.ret (.bool true),⟨c + 1,hh,z r,w⟩))
 (H:InsAt c h X (H7 X tv lv)) (Ht:P6 c h tv (O9 X.types)) (Hl:P6 c h lv (O9 X.labels)) (r w:List Nat) :
 I6 (go (a0Y G8 NN (J9 s6 1) (H7 X tv lv)) ⟨c,h,r,w⟩) fun x s=>x=.ret (.string ⟨⟨a2a X⟩⟩) ∧ ∀ i,i < c → s.h.get i=h.get i:=by
 obtain ⟨a,hA,ha⟩:=O1 F.A
 obtain ⟨b,hB,hb⟩:=O1 F.B
 have h46:J9 s6 1 46 [.int .i64 X.op]=M.pure (.ret (.int .i64 (.ofNat 8))):=by rw [a4V 0,hk]
 exact (d8c NN _ X tv lv a b hA hB ha hb (a8F 0) c h h19 (a4Y 0 _) h46 Ht Hl r w).mono fun x s ⟨q,q'⟩=>⟨by rw [q,a0I hk (by unfold a2O; rw [hA]; rfl)],q'⟩
theorem c9l (X:Ins) (tv lv:Value) (hk:a0K X.op=12) (F:PlainF 12 X) (hN:X.N < 18446744073709551616) (c:Nat) (h:Trie VObj) (h19:∀ hh,(∀ b,b < c → hh.get b=h.get b) → ∃ z:List Nat → List Nat, ∀ r w,go (J9 s6 1 19 [H7 X tv lv]) ⟨c + 1,hh,r,w⟩=some (.ret (.bool true),⟨c + 1,hh,z r,w⟩))
 (H:InsAt c h X (H7 X tv lv)) (Ht:P6 c h tv (O9 X.types)) (Hl:P6 c h lv (O9 X.labels)) (r w:List Nat) :
 I6 (go (a0Y G8 NN (J9 s6 1) (H7 X tv lv)) ⟨c,h,r,w⟩) fun x s=>x=.ret (.string ⟨⟨a2a X⟩⟩) ∧ ∀ i,i < c → s.h.get i=h.get i:=by
 obtain ⟨a,hA,ha⟩:=O1 F.A
 obtain ⟨b,hB,hb⟩:=O1 F.B
 have h46:J9 s6 1 46 [.int .i64 X.op]=M.pure (.ret (.int .i64 (.ofNat 12))):=by rw [a4V 0,hk]
 exact (c9i NN _ X tv lv a b hA hB ha hb (a8F 0) c h h19 (a4Y 0 _) h46 Ht Hl r w).mono fun x s ⟨q,q'⟩=>⟨by rw [q,a0I hk (by unfold a2O; rw [hA]; rfl)],q'⟩
theorem c7B (X:Ins) (tv lv:Value) (hk:a0K X.op=16) (F:PlainF 16 X) (hN:X.N < 18446744073709551616) (c:Nat) (h:Trie VObj) (h19:∀ hh,(∀ b,b < c → hh.get b=h.get b) → ∃ z:List Nat → List Nat, ∀ r w,go (J9 s6 1 19 [H7 X tv lv]) ⟨c + 1,hh,r,w⟩=some (.ret (.bool true),⟨c + 1,hh,z r,w⟩))
 (H:InsAt c h X (H7 X tv lv)) (Ht:P6 c h tv (O9 X.types)) (Hl:P6 c h lv (O9 X.labels)) (r w:List Nat) :
 I6 (go (a0Y G8 NN (J9 s6 1) (H7 X tv lv)) ⟨c,h,r,w⟩) fun x s=>x=.ret (.string ⟨⟨a2a X⟩⟩) ∧ ∀ i,i < c → s.h.get i=h.get i:=by
 obtain ⟨a,hA,ha⟩:=O1 F.A
 obtain ⟨b,hB,hb⟩:=O1 F.B
 have h46:J9 s6 1 46 [.int .i64 X.op]=M.pure (.ret (.int .i64 (.ofNat 16))):=by rw [a4V 0,hk]
 exact (d0d NN _ X tv lv a b hA hB ha hb (a8F 0) c h h19 (a4Y 0 _) h46 Ht Hl r w).mono fun x s ⟨q,q'⟩=>⟨by rw [q,a0I hk (by unfold a2O; rw [hA]; rfl)],q'⟩
theorem d5a (X:Ins) (tv lv:Value) (hk:a0K X.op=9) (F:PlainF 9 X) (hN:X.N < 18446744073709551616) (c:Nat) (h:Trie VObj) (h19:∀ hh,(∀ b,b < c → hh.get b=h.get b) → ∃ z:List Nat → List Nat, ∀ r w,go (J9 s6 1 19 [H7 X tv lv]) ⟨c + 1,hh,r,w⟩=some (.ret (.bool true),⟨c + 1,hh,z r,w⟩))
 (H:InsAt c h X (H7 X tv lv)) (Ht:P6 c h tv (O9 X.types)) (Hl:P6 c h lv (O9 X.labels)) (r w:List Nat) :
 I6 (go (a0Y G8 NN (J9 s6 1) (H7 X tv lv)) ⟨c,h,r,w⟩) fun x s=>x=.ret (.string ⟨⟨a2a X⟩⟩) ∧ ∀ i,i < c → s.h.get i=h.get i:=by
 obtain ⟨a,hA,ha⟩:=O1 F.A
 obtain ⟨b,hB,hb⟩:=O1 F.B
 have h46:J9 s6 1 46 [.int .i64 X.op]=M.pure (.ret (.int .i64 (.ofNat 9))):=by rw [a4V 0,hk]
 exact (d4Z NN _ X tv lv a b hA hB ha hb (b3n 0) c h h19 (a4Y 0 _) h46 Ht Hl r w).mono fun x s ⟨q,q'⟩=>⟨by rw [q,a0I hk (by unfold a2O; rw [hA]; rfl)],q'⟩
theorem c7K (X:Ins) (tv lv:Value) (hk:a0K X.op=13) (F:PlainF 13 X) (hN:X.N < 18446744073709551616) (c:Nat) (h:Trie VObj) (h19:∀ hh,(∀ b,b < c → hh.get b=h.get b) → ∃ z:List Nat → List Nat, ∀ r w,go (J9 s6 1 19 [H7 X tv lv]) ⟨c + 1,hh,r,w⟩=some (.ret (.bool true),⟨c + 1,hh,z r,w⟩))
 (H:InsAt c h X (H7 X tv lv)) (Ht:P6 c h tv (O9 X.types)) (Hl:P6 c h lv (O9 X.labels)) (r w:List Nat) :
 I6 (go (a0Y G8 NN (J9 s6 1) (H7 X tv lv)) ⟨c,h,r,w⟩) fun x s=>x=.ret (.string ⟨⟨a2a X⟩⟩) ∧ ∀ i,i < c → s.h.get i=h.get i:=by
 obtain ⟨a,hA,ha⟩:=O1 F.A
 obtain ⟨b,hB,hb⟩:=O1 F.B
 have h46:J9 s6 1 46 [.int .i64 X.op]=M.pure (.ret (.int .i64 (.ofNat 13))):=by rw [a4V 0,hk]
 exact (c9h NN _ X tv lv a b hA hB ha hb (b3n 0) c h h19 (a4Y 0 _) h46 Ht Hl r w).mono fun x s ⟨q,q'⟩=>⟨by rw [q,a0I hk (by unfold a2O; rw [hB]; rfl)],q'⟩
theorem d0Q (X:Ins) (tv lv:Value) (hk:a0K X.op=10) (F:PlainF 10 X) (hN:X.N < 18446744073709551616) (c:Nat) (h:Trie VObj) (h19:∀ hh,(∀ b,b < c → hh.get b=h.get b) → ∃ z:List Nat → List Nat, ∀ r w,go (J9 s6 1 19 [H7 X tv lv]) ⟨c + 1,hh,r,w⟩=some (.ret (.bool true),⟨c + 1,hh,z r,w⟩))
 (H:InsAt c h X (H7 X tv lv)) (Ht:P6 c h tv (O9 X.types)) (Hl:P6 c h lv (O9 X.labels)) (r w:List Nat) :
 I6 (go (a0Y G8 NN (J9 s6 1) (H7 X tv lv)) ⟨c,h,r,w⟩) fun x s=>x=.ret (.string ⟨⟨a2a X⟩⟩) ∧ ∀ i,i < c → s.h.get i=h.get i:=by
 obtain ⟨a,hA,ha⟩:=O1 F.A
 obtain ⟨b,hB,hb⟩:=O1 F.B
 have h46:J9 s6 1 46 [.int .i64 X.op]=M.pure (.ret (.int .i64 (.ofNat 10))):=by rw [a4V 0,hk]
 exact (d0S NN _ X tv lv a b hA hB ha hb (c4H 0) c h h19 (a4Y 0 _) h46 Ht Hl r w).mono fun x s ⟨q,q'⟩=>⟨by rw [q,a0I hk (by unfold a2O; rw [hA,hB]; rfl)],q'⟩
theorem d0t (X:Ins) (tv lv:Value) (hk:a0K X.op=14) (F:PlainF 14 X) (hN:X.N < 18446744073709551616) (c:Nat) (h:Trie VObj) (h19:∀ hh,(∀ b,b < c → hh.get b=h.get b) → ∃ z:List Nat → List Nat, ∀ r w,go (J9 s6 1 19 [H7 X tv lv]) ⟨c + 1,hh,r,w⟩=some (.ret (.bool true),⟨c + 1,hh,z r,w⟩))
 (H:InsAt c h X (H7 X tv lv)) (Ht:P6 c h tv (O9 X.types)) (Hl:P6 c h lv (O9 X.labels)) (r w:List Nat) :
 I6 (go (a0Y G8 NN (J9 s6 1) (H7 X tv lv)) ⟨c,h,r,w⟩) fun x s=>x=.ret (.string ⟨⟨a2a X⟩⟩) ∧ ∀ i,i < c → s.h.get i=h.get i:=by
 obtain ⟨a,hA,ha⟩:=O1 F.A
 obtain ⟨b,hB,hb⟩:=O1 F.B
 have h46:J9 s6 1 46 [.int .i64 X.op]=M.pure (.ret (.int .i64 (.ofNat 14))):=by rw [a4V 0,hk]
 exact (c9C NN _ X tv lv a b hA hB ha hb (c4H 0) c h h19 (a4Y 0 _) h46 Ht Hl r w).mono fun x s ⟨q,q'⟩=>⟨by rw [q,a0I hk (by unfold a2O; rw [hA,hB]; rfl)],q'⟩
theorem c8p (X:Ins) (tv lv:Value) (hk:a0K X.op=11) (F:PlainF 11 X) (hN:X.N < 18446744073709551616) (c:Nat) (h:Trie VObj) (h19:∀ hh,(∀ b,b < c → hh.get b=h.get b) → ∃ z:List Nat → List Nat, ∀ r w,go (J9 s6 1 19 [H7 X tv lv]) ⟨c + 1,hh,r,w⟩=some (.ret (.bool true),⟨c + 1,hh,z r,w⟩))
 (H:InsAt c h X (H7 X tv lv)) (Ht:P6 c h tv (O9 X.types)) (Hl:P6 c h lv (O9 X.labels)) (r w:List Nat) :
 I6 (go (a0Y G8 NN (J9 s6 1) (H7 X tv lv)) ⟨c,h,r,w⟩) fun x s=>x=.ret (.string ⟨⟨a2a X⟩⟩) ∧ ∀ i,i < c → s.h.get i=h.get i:=by
 obtain ⟨a,hA,ha⟩:=O1 F.A
 obtain ⟨b,hB,hb⟩:=O1 F.B
 have h46:J9 s6 1 46 [.int .i64 X.op]=M.pure (.ret (.int .i64 (.ofNat 11))):=by rw [a4V 0,hk]
 exact (c8a NN _ X tv lv a b hA hB ha hb (a8F 0) (b3n 0) c h h19 (a4Y 0 _) h46 Ht Hl r w).mono fun x s ⟨q,q'⟩=>⟨by rw [q,a0I hk (by unfold a2O; rw [hA,hB]; rfl)],q'⟩
theorem d1g (X:Ins) (tv lv:Value) (hk:a0K X.op=15) (F:PlainF 15 X) (hN:X.N < 18446744073709551616) (c:Nat) (h:Trie VObj) (h19:∀ hh,(∀ b,b < c → hh.get b=h.get b) → ∃ z:List Nat → List Nat, ∀ r w,go (J9 s6 1 19 [H7 X tv lv]) ⟨c + 1,hh,r,w⟩=some (.ret (.bool true),⟨c + 1,hh,z r,w⟩))
 (H:InsAt c h X (H7 X tv lv)) (Ht:P6 c h tv (O9 X.types)) (Hl:P6 c h lv (O9 X.labels)) (r w:List Nat) :
 I6 (go (a0Y G8 NN (J9 s6 1) (H7 X tv lv)) ⟨c,h,r,w⟩) fun x s=>x=.ret (.string ⟨⟨a2a X⟩⟩) ∧ ∀ i,i < c → s.h.get i=h.get i:=by
 obtain ⟨a,hA,ha⟩:=O1 F.A
 obtain ⟨b,hB,hb⟩:=O1 F.B
 have h46:J9 s6 1 46 [.int .i64 X.op]=M.pure (.ret (.int .i64 (.ofNat 15))):=by rw [a4V 0,hk]
 exact (c7Q NN _ X tv lv a b hA hB ha hb (a8F 0) (b3n 0) c h h19 (a4Y 0 _) h46 Ht Hl r w).mono fun x s ⟨q,q'⟩=>⟨by rw [q,a0I hk (by unfold a2O; rw [hA,hB]; rfl)],q'⟩
theorem d1M (X:Ins) (tv lv:Value) (hk:a0K X.op=5) (F:PlainF 5 X) (hN:X.N < 18446744073709551616) (c:Nat) (h:Trie VObj) (h19:∀ hh,(∀ b,b < c → hh.get b=h.get b) → ∃ z:List Nat → List Nat, ∀ r w,go (J9 s6 1 19 [H7 X tv lv]) ⟨c + 1,hh,r,w⟩=some (.ret (.bool true),⟨c + 1,hh,z r,w⟩))
 (H:InsAt c h X (H7 X tv lv)) (Ht:P6 c h tv (O9 X.types)) (Hl:P6 c h lv (O9 X.labels)) (r w:List Nat) :
 I6 (go (a0Y G8 NN (J9 s6 1) (H7 X tv lv)) ⟨c,h,r,w⟩) fun x s=>x=.ret (.string ⟨⟨a2a X⟩⟩) ∧ ∀ i,i < c → s.h.get i=h.get i:=by
 obtain ⟨a,hA,ha⟩:=O1 F.A
 obtain ⟨b,hB,hb⟩:=O1 F.B
 have h46:J9 s6 1 46 [.int .i64 X.op]=M.pure (.ret (.int .i64 (.ofNat 5))):=by rw [a4V 0,hk]
 exact (d1I NN _ X tv lv a b hA hB ha hb (a8F 0) (b3n 0) c h h19 (a4Y 0 _) h46 Ht Hl r w).mono fun x s ⟨q,q'⟩=>⟨by rw [q,a0I hk (by unfold a2O; rw [hA,hB]; rfl)],q'⟩
theorem d0F (X:Ins) (tv lv:Value) (hk:a0K X.op=18) (F:PlainF 18 X) (hN:X.N < 18446744073709551616) (c:Nat) (h:Trie VObj) (h19:∀ hh,(∀ b,b < c → hh.get b=h.get b) → ∃ z:List Nat → List Nat, ∀ r w,go (J9 s6 1 19 [H7 X tv lv]) ⟨c + 1,hh,r,w⟩=some (.ret (.bool true),⟨c + 1,hh,z r,w⟩))
 (H:InsAt c h X (H7 X tv lv)) (Ht:P6 c h tv (O9 X.types)) (Hl:P6 c h lv (O9 X.labels)) (r w:List Nat) :
 I6 (go (a0Y G8 NN (J9 s6 1) (H7 X tv lv)) ⟨c,h,r,w⟩) fun x s=>x=.ret (.string ⟨⟨a2a X⟩⟩) ∧ ∀ i,i < c → s.h.get i=h.get i:=by
 obtain ⟨a,hA,ha⟩:=O1 F.A
 obtain ⟨b,hB,hb⟩:=O1 F.B
 have h46:J9 s6 1 46 [.int .i64 X.op]=M.pure (.ret (.int .i64 (.ofNat 18))):=by rw [a4V 0,hk]
 exact (d0U NN _ X tv lv a b hA hB ha hb (F.N rfl) (c9S 0 _ (F.N rfl)) c h h19 (a4Y 0 _) h46 Ht Hl r w).mono fun x s ⟨q,q'⟩=>⟨by rw [q,a0I hk (by rfl)],q'⟩
theorem c8h (X:Ins) (tv lv:Value) (hk:a0K X.op=19) (F:PlainF 19 X) (hN:X.N < 18446744073709551616) (c:Nat) (h:Trie VObj) (h19:∀ hh,(∀ b,b < c → hh.get b=h.get b) → ∃ z:List Nat → List Nat, ∀ r w,go (J9 s6 1 19 [H7 X tv lv]) ⟨c + 1,hh,r,w⟩=some (.ret (.bool true),⟨c + 1,hh,z r,w⟩))
 (H:InsAt c h X (H7 X tv lv)) (Ht:P6 c h tv (O9 X.types)) (Hl:P6 c h lv (O9 X.labels)) (r w:List Nat) :
 I6 (go (a0Y G8 NN (J9 s6 1) (H7 X tv lv)) ⟨c,h,r,w⟩) fun x s=>x=.ret (.string ⟨⟨a2a X⟩⟩) ∧ ∀ i,i < c → s.h.get i=h.get i:=by
 obtain ⟨a,hA,ha⟩:=O1 F.A
 obtain ⟨b,hB,hb⟩:=O1 F.B
 have h46:J9 s6 1 46 [.int .i64 X.op]=M.pure (.ret (.int .i64 (.ofNat 19))):=by rw [a4V 0,hk]
 exact (c9g NN _ X tv lv a b hA hB ha hb hN (d0v 0 _ hN) c h h19 (a4Y 0 _) h46 Ht Hl r w).mono fun x s ⟨q,q'⟩=>⟨by rw [q,a0I hk (by rfl)],q'⟩
theorem c8W (X:Ins) (tv lv:Value) (hk:a0K X.op=20) (F:PlainF 20 X) (hN:X.N < 18446744073709551616) (c:Nat) (h:Trie VObj) (h19:∀ hh,(∀ b,b < c → hh.get b=h.get b) → ∃ z:List Nat → List Nat, ∀ r w,go (J9 s6 1 19 [H7 X tv lv]) ⟨c + 1,hh,r,w⟩=some (.ret (.bool true),⟨c + 1,hh,z r,w⟩))
 (H:InsAt c h X (H7 X tv lv)) (Ht:P6 c h tv (O9 X.types)) (Hl:P6 c h lv (O9 X.labels)) (r w:List Nat) :
 I6 (go (a0Y G8 NN (J9 s6 1) (H7 X tv lv)) ⟨c,h,r,w⟩) fun x s=>x=.ret (.string ⟨⟨a2a X⟩⟩) ∧ ∀ i,i < c → s.h.get i=h.get i:=by
 obtain ⟨a,hA,ha⟩:=O1 F.A
 obtain ⟨b,hB,hb⟩:=O1 F.B
 have h46:J9 s6 1 46 [.int .i64 X.op]=M.pure (.ret (.int .i64 (.ofNat 20))):=by rw [a4V 0,hk]
 exact (c8d NN _ X tv lv a b hA hB ha hb  c h h19 (a4Y 0 _) h46 Ht Hl r w).mono fun x s ⟨q,q'⟩=>⟨by rw [q,a0I hk (by rfl)],q'⟩
theorem d8q (X:Ins) (tv lv:Value) (hk:a0K X.op=1) (F:PlainF 1 X) (hN:X.N < 18446744073709551616) (c:Nat) (h:Trie VObj) (h19:∀ hh,(∀ b,b < c → hh.get b=h.get b) → ∃ z:List Nat → List Nat, ∀ r w,go (J9 s6 1 19 [H7 X tv lv]) ⟨c + 1,hh,r,w⟩=some (.ret (.bool true),⟨c + 1,hh,z r,w⟩))
 (H:InsAt c h X (H7 X tv lv)) (Ht:P6 c h tv (O9 X.types)) (Hl:P6 c h lv (O9 X.labels)) (r w:List Nat) :
 I6 (go (a0Y G8 NN (J9 s6 1) (H7 X tv lv)) ⟨c,h,r,w⟩) fun x s=>x=.ret (.string ⟨⟨a2a X⟩⟩) ∧ ∀ i,i < c → s.h.get i=h.get i:=by
 obtain ⟨a,hA,ha⟩:=O1 F.A
 obtain ⟨b,hB,hb⟩:=O1 F.B
 have h46:J9 s6 1 46 [.int .i64 X.op]=M.pure (.ret (.int .i64 (.ofNat 1))):=by rw [a4V 0,hk]
 obtain ⟨i1,i2⟩:=c2t (show a5c X.k X.v X.i=true from F.rest)
 exact (d5G NN _ X tv lv a b hA hB ha hb i1 i2 (d6W 0 _ _ _ i1 i2) c h h19 (a4Y 0 _) h46 Ht Hl r w).mono fun x s ⟨q,q'⟩=>⟨by rw [q,a0I hk (by rfl)],q'⟩
theorem d3x (X:Ins) (tv lv:Value) (hk:a0K X.op=6) (F:PlainF 6 X) (hN:X.N < 18446744073709551616) (c:Nat) (h:Trie VObj) (h19:∀ hh,(∀ b,b < c → hh.get b=h.get b) → ∃ z:List Nat → List Nat, ∀ r w,go (J9 s6 1 19 [H7 X tv lv]) ⟨c + 1,hh,r,w⟩=some (.ret (.bool true),⟨c + 1,hh,z r,w⟩))
 (H:InsAt c h X (H7 X tv lv)) (Ht:P6 c h tv (O9 X.types)) (Hl:P6 c h lv (O9 X.labels)) (r w:List Nat) :
 I6 (go (a0Y G8 NN (J9 s6 1) (H7 X tv lv)) ⟨c,h,r,w⟩) fun x s=>x=.ret (.string ⟨⟨a2a X⟩⟩) ∧ ∀ i,i < c → s.h.get i=h.get i:=by
 obtain ⟨a,hA,ha⟩:=O1 F.A
 obtain ⟨b,hB,hb⟩:=O1 F.B
 have h46:J9 s6 1 46 [.int .i64 X.op]=M.pure (.ret (.int .i64 (.ofNat 6))):=by rw [a4V 0,hk]
 have ht:a7V X.types=true:=F.rest
 unfold a7V at ht
 split at ht
 · rename_i t e
   exact (d6B NN _ X tv lv a b hA hB ha hb t e (d3t 0) c h h19 (a4Y 0 _) h46 Ht Hl r w).mono fun x s ⟨q,q'⟩=>⟨by rw [q,a0I hk (by unfold a2O; rw [e]; rfl)],q'⟩
 · cases ht
theorem d9c (X:Ins) (tv lv:Value) (hk:a0K X.op=3) (F:PlainF 3 X) (hN:X.N < 18446744073709551616) (c:Nat) (h:Trie VObj) (h19:∀ hh,(∀ b,b < c → hh.get b=h.get b) → ∃ z:List Nat → List Nat, ∀ r w,go (J9 s6 1 19 [H7 X tv lv]) ⟨c + 1,hh,r,w⟩=some (.ret (.bool true),⟨c + 1,hh,z r,w⟩))
 (H:InsAt c h X (H7 X tv lv)) (Ht:P6 c h tv (O9 X.types)) (Hl:P6 c h lv (O9 X.labels)) (r w:List Nat) :
 I6 (go (a0Y G8 NN (J9 s6 1) (H7 X tv lv)) ⟨c,h,r,w⟩) fun x s=>x=.ret (.string ⟨⟨a2a X⟩⟩) ∧ ∀ i,i < c → s.h.get i=h.get i:=by
 obtain ⟨a,hA,ha⟩:=O1 F.A
 obtain ⟨b,hB,hb⟩:=O1 F.B
 have h46:J9 s6 1 46 [.int .i64 X.op]=M.pure (.ret (.int .i64 (.ofNat 3))):=by rw [a4V 0,hk]
 have e:q48 X=some (.string ⟨⟨M6 (a7q (X.labels.map Int.toNat)) (Z8 a)⟩⟩):=by
  unfold q48
  rw [show idxAll X.labels=true from F.rest,F.A,hA]; rfl
 have hl:=H.l
 have hlen:M4 (M6 (a7q (X.labels.map Int.toNat)) (Z8 a)) ≤ 100000:=by
  rw [E9]
  have:=b2n (X.labels.map Int.toNat) (b0r (show idxAll X.labels=true from F.rest)).2
  have:=a2T a (by omega)
  rw [List.length_map] at *
  omega
 exact (d4e NN _ X tv lv a b c h _ hlen hA hB ha hb (cI (by kernel_rfl) H e) h19 (a4Y 0 _) h46 Ht Hl r w).mono fun x s ⟨q,q'⟩=>⟨by rw [q,a0I hk (by unfold a2O; rw [hA]; rfl)],q'⟩
theorem d0T (X:Ins) (tv lv:Value) (hk:a0K X.op=17) (F:PlainF 17 X) (hN:X.N < 18446744073709551616) (c:Nat) (h:Trie VObj) (h19:∀ hh,(∀ b,b < c → hh.get b=h.get b) → ∃ z:List Nat → List Nat, ∀ r w,go (J9 s6 1 19 [H7 X tv lv]) ⟨c + 1,hh,r,w⟩=some (.ret (.bool true),⟨c + 1,hh,z r,w⟩))
 (H:InsAt c h X (H7 X tv lv)) (Ht:P6 c h tv (O9 X.types)) (Hl:P6 c h lv (O9 X.labels)) (r w:List Nat) :
 I6 (go (a0Y G8 NN (J9 s6 1) (H7 X tv lv)) ⟨c,h,r,w⟩) fun x s=>x=.ret (.string ⟨⟨a2a X⟩⟩) ∧ ∀ i,i < c → s.h.get i=h.get i:=by
 obtain ⟨a,hA,ha⟩:=O1 F.A
 obtain ⟨b,hB,hb⟩:=O1 F.B
 have h46:J9 s6 1 46 [.int .i64 X.op]=M.pure (.ret (.int .i64 (.ofNat 17))):=by rw [a4V 0,hk]
 have ha63:X.A ≤ 63:=by simpa using (show decide (X.A ≤ 63)=true from F.rest)
 obtain ⟨al,hal⟩:=c5c hk
 have hN':X.N < 4294967296:=F.N rfl
 have e:q52 X=some (.string ⟨⟨M6 (M6 (a0V b) (a5p X.N)) (a5t a al)⟩⟩):=by
  unfold q52
  rw [F.A,F.B,hal,I5 hN',decide_eq_true ha63,hA,hB]; rfl
 have hlen:M4 (M6 (M6 (a0V b) (a5p X.N)) (a5t a al)) ≤ 100:=by
  rw [E9,E9]
  have:=a6y b (by omega)
  have:=c3A X.N (by omega)
  have:=c3V a al (by rw [hA] at ha63; simp only [Int.ofNat_eq_natCast] at ha63; omega)
  omega
 exact (d0K NN _ X tv lv a b c h _ hlen hA hB ha hb (cI (by kernel_rfl) H e) h19 (a4Y 0 _) h46 Ht Hl r w).mono fun x s ⟨q,q'⟩=>⟨by rw [q,a0I hk (by unfold a2O; rw [hA,hB,hal]; rfl)],q'⟩
theorem d4l (N:Nat) (call:j5) (X:Ins) (tv lv:Value) (c:Nat) (h:Trie VObj) (h19:∀ hh,(∀ b,b < c → hh.get b=h.get b) → ∃ z:List Nat → List Nat, ∀ r w,go (call 19 [H7 X tv lv]) ⟨c + 1,hh,r,w⟩=some (.ret (.bool false),⟨c + 1,hh,z r,w⟩))
 (Ht:P6 c h tv (O9 X.types)) (Hl:P6 c h lv (O9 X.labels)) (r w:List Nat) :
 I6 (go (a0Y G8 N call (H7 X tv lv)) ⟨c,h,r,w⟩) fun x s=>x=.ret (.string ⟨⟨[]⟩⟩) ∧ ∀ i,i < c → s.h.get i=h.get i:=by
 obtain ⟨z,h19'⟩:=h19 (upd h c (.cells [(.int .i64 X.op, 0),(.int .i64 X.A, 0),(.int .i64 X.B, 0),(.int .u64 (Int.ofNat X.N), 0),(.int .i64 X.k, 0),(.int .i64 X.v, 0),(.int .i64 X.i, 0),(tv, 0),(lv, 0)] 0 false)) (fun b hb=>E8 (by omega))
 obtain ⟨ta,te,rfl,_⟩:=Ht
 obtain ⟨la,le,rfl,_⟩:=Hl
 simp only [H7,List.length_map] at h19'
 simp (config:={ maxSteps:=10000000 }) (disch:=first | assumption | omega | (simp only [q9,C8,G7,F7,l8,D6,q8,F6,F3,Bool.not_false,Bool.not_true,Bool.and_true,Bool.true_and,Bool.and_self,r9,D5,Nat.zero_add,Nat.reduceAdd,j4,F8,Nat.reduceBEq,G9,H6,E5,j6,A8,l7,l6,l9,C9,j4,F4,G6,G5,F9,H8,H9,D7,z8,D9,w9,o8,o9,F5,D8,I7,IntKind.bits,E9,A9,o7] <;> omega) | assumption) only [a0Y,a4t,a4x,a4u,a4z,a4v,a4F,a4A,a4C,a4B,a4w,a3M,a3D,a3I,a3S,a3A,a3J,a3x,a3T,a3v,a3R,a3K,a3z,a3U,a3O,a3P,a3G,a3y,a3W,a3L,a3V,a3F,a3Q,a3w,a2D,a3C,a2C,a3H,H7,List.length_map,h19',K4,Bool.not_false,bn,un,U6,a0d,V6,K6,I8,M0,J8,O5,O4,K4,P5,V.d9Z,U3,Q0,K8,P8,K7,N9,I5,I9,K9,N8,O6,J6,J7,Nat.zero_add,Nat.add_zero]
 exact I6.done ⟨rfl,fun i hi=>by simp (config:={ maxSteps:=10000000 }) (disch:=first | assumption | omega | (simp only [q9,C8,G7,F7,l8,D6,q8,F6,F3,Bool.not_false,Bool.not_true,Bool.and_true,Bool.true_and,Bool.and_self,r9,D5,Nat.zero_add,Nat.reduceAdd,j4,F8,Nat.reduceBEq,G9,H6,E5,j6,A8,l7,l6,l9,C9,j4,F4,G6,G5,F9,H8,H9,D7,z8,D9,w9,o8,o9,F5,D8,I7,IntKind.bits,E9,A9,o7] <;> omega) | assumption) only [E8]⟩
theorem l13 (X:Ins) (tv lv:Value) (K:Nat) (hK:K ≤ 20) (hk:a0K X.op=K) (F:PlainF K X) (hN:X.N < 18446744073709551616) (c:Nat) (h:Trie VObj) (h19:∀ hh,(∀ b,b < c → hh.get b=h.get b) → ∃ z:List Nat → List Nat, ∀ r w,go (J9 s6 1 19 [H7 X tv lv]) ⟨c + 1,hh,r,w⟩=some (.ret (.bool true),⟨c + 1,hh,z r,w⟩))
 (H:InsAt c h X (H7 X tv lv)) (Ht:P6 c h tv (O9 X.types)) (Hl:P6 c h lv (O9 X.labels)) (r w:List Nat) :
 I6 (go (a0Y G8 NN (J9 s6 1) (H7 X tv lv)) ⟨c,h,r,w⟩) fun x s=>x=.ret (.string ⟨⟨a2a X⟩⟩) ∧ ∀ i,i < c → s.h.get i=h.get i:=by
 match K,hk,F with
 | 0,hk,F=>exact d3C X tv lv hk F hN c h h19 H Ht Hl r w
 | 1,hk,F=>exact d8q X tv lv hk F hN c h h19 H Ht Hl r w
 | 2,hk,F=>exact d3c X tv lv hk F hN c h h19 H Ht Hl r w
 | 3,hk,F=>exact d9c X tv lv hk F hN c h h19 H Ht Hl r w
 | 4,hk,F=>exact d3R X tv lv hk F hN c h h19 H Ht Hl r w
 | 5,hk,F=>exact d1M X tv lv hk F hN c h h19 H Ht Hl r w
 | 6,hk,F=>exact d3x X tv lv hk F hN c h h19 H Ht Hl r w
 | 7,hk,F=>exact d2y X tv lv hk F hN c h h19 H Ht Hl r w
 | 8,hk,F=>exact d7V X tv lv hk F hN c h h19 H Ht Hl r w
 | 9,hk,F=>exact d5a X tv lv hk F hN c h h19 H Ht Hl r w
 | 10,hk,F=>exact d0Q X tv lv hk F hN c h h19 H Ht Hl r w
 | 11,hk,F=>exact c8p X tv lv hk F hN c h h19 H Ht Hl r w
 | 12,hk,F=>exact c9l X tv lv hk F hN c h h19 H Ht Hl r w
 | 13,hk,F=>exact c7K X tv lv hk F hN c h h19 H Ht Hl r w
 | 14,hk,F=>exact d0t X tv lv hk F hN c h h19 H Ht Hl r w
 | 15,hk,F=>exact d1g X tv lv hk F hN c h h19 H Ht Hl r w
 | 16,hk,F=>exact c7B X tv lv hk F hN c h h19 H Ht Hl r w
 | 17,hk,F=>exact d0T X tv lv hk F hN c h h19 H Ht Hl r w
 | 18,hk,F=>exact d0F X tv lv hk F hN c h h19 H Ht Hl r w
 | 19,hk,F=>exact c8h X tv lv hk F hN c h h19 H Ht Hl r w
 | 20,hk,F=>exact c8W X tv lv hk F hN c h h19 H Ht Hl r w
 | k + 21,hk,F=>omega
noncomputable def a7i (X:Ins):Option Value:=bcase (a4N X) (bcase (X.N.blt 18446744073709551616) (some (.string ⟨⟨a2a X⟩⟩)) none) (some (.string ⟨⟨[]⟩⟩))
theorem d6M:a0f Tryz.prog Q6 (W9 mL) 13 (XI a7i):=b3Q L6 Tryz.func13 (by kernel_rfl) rfl fun X x y c hp H e=>by
 have H0:=H
 obtain ⟨⟨tv,lv,rfl,Ht,Hl⟩,h3,h4⟩:=H0
 unfold a7i at e
 have h19:=fun hh hb=>cI (sh:=s6) (f:=19) (q:=fun X=>some (.bool (a4N X))) (by kernel_rfl) H (y:=.bool (a4N X)) rfl hh hb
 cases hpl:a4N X with
 | false=>
   rw [hpl] at e h19
   cases e
   refine ⟨rfl, 2,fun r w=>?_⟩
   rw [a3g (q:=a0Y) (N:=NN) (by kernel_rfl) 1]
   exact d4l NN _ X tv lv c hp h19 Ht Hl r w
 | true=>
   rw [hpl] at e h19
   obtain ⟨h1,rfl⟩:=a3d e
   rw [Nat.blt_eq] at h1
   refine ⟨rfl, 2,fun r w=>?_⟩
   rw [a3g (q:=a0Y) (N:=NN) (by kernel_rfl) 1]
   have hp2:pK (a0K X.op) X=true:=by
    unfold a4N at hpl
    cases hk:a2V X.op with
    | true=>rw [hk] at hpl; exact hpl
    | false=>rw [hk] at hpl; cases hpl
   exact l13 X tv lv _ (a9F _) rfl (c2H hp2) h1 c hp h19 H Ht Hl r w
end Go.Proofs.YtmomonnlmbljoaaGreatDoor
end
