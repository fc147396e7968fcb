import Derived.Test.YtmomonnlmbljoaaGreatDoorPbd
section
namespace Go.Proofs.YtmomonnlmbljoaaGreatDoor
open Go.V Go.RowKit Go.Shelf Go.Proofs
set_option maxRecDepth 1000000
set_option maxHeartbeats 2000000
set_option linter.unusedVariables false
attribute [local congr] U8 U7 Y8 Z0 a0i a0h
variable {mL:Int}
theorem d1N (N:Nat) (call:o8) (X:Ins) (tv lv:Value) (a b:Nat) (hA:X.A=.ofNat a) (hB:X.B=.ofNat b) (ha:a<4294967296) (hb:b<4294967296) (hN:X.N<18446744073709551616) (h53:call 53 [.int .u64 (.ofNat X.N),.int .i64 (.ofNat 64)]=M.pure (.ret (.string ⟨⟨Lib.itoa (sgn 64 X.N)⟩⟩)))
 (c:Nat) (h:Trie VObj) (h19:∀ hh,(∀ b,b<c→hh.get b=h.get b)→∃ z:List Nat→List Nat, ∀ r w,go (call 19 [I7 X tv lv]) ⟨c+1,hh,r,w⟩=some (.ret (.bool true),⟨c+1,hh,z r,w⟩))
 (h45:call 45 [.int .i64 X.op]=M.pure (.ret (.string ⟨⟨V4 X.op⟩⟩))) (h46:call 46 [.int .i64 X.op]=M.pure (.ret (.int .i64 (.ofNat 19))))
 (Ht:Q6 c h tv (P6 X.types)) (Hl:Q6 c h lv (P6 X.labels)) (r w:List Nat) :
 H6 (go (a0F H8 N call (I7 X tv lv)) ⟨c,h,r,w⟩) fun x s=>x=.ret (.string ⟨⟨M4 (V4 X.op) (32::Lib.itoa (sgn 64 X.N))⟩⟩)∧∀ i,i<c→s.h.get i=h.get i:=by
 obtain ⟨z,h19'⟩:=h19 (upd h c (.cells [(.int .i64 X.op, 0),(.int .i64 X.A, 0),(.int .i64 X.B, 0),(.int .u64 (Int.ofNat X.N), 0),(.int .i64 X.k, 0),(.int .i64 X.v, 0),(.int .i64 X.i, 0),(tv, 0),(lv, 0)] 0 false)) (fun b hb=>F6 (by omega))
 have Ht2:=Ht
 have Hl2:=Hl
 obtain ⟨ta,te,rfl,_⟩:=Ht
 obtain ⟨la,le,rfl,_⟩:=Hl
 simp only [I7,hA,hB,List.length_map] at h19'
 have nl:=X9 X.op
 have q2:=a6g (sgn 64 X.N) (by unfold sgn; split <;> omega) (by unfold sgn; split <;> omega)
 simp (config:={ maxSteps:=10000000 }) (disch:=first | assumption | omega | (simp only [l9,w9,F3,j6,A8,E8,D8,I5,G9,I9,I8,H7,o9,D5,G8,Nat.reduceAdd,D7,E9,Nat.reduceBEq,G5,F9,d9,j5,l6,z8,D9,F7,F5,F4,G6,C8,q9,A9,q8,l8,l7,E5,C9,G7,IntKind.bits,D6,r9,o7] <;> omega) | assumption) only [a0F,a4p,a4j,a4g,a4d,a4r,a4f,a4n,a4u,a4s,a4k,a3f,a3y,a3H,a3z,a3o,a3e,a3g,a3x,a3n,a3h,a3E,a3q,a3t,a3l,a3j,a3B,a3k,a3C,a3F,a3u,a3p,a3G,a3D,a2l,a3A,a2k,a3i,I7,hA,hB,List.length_map,h19',h45,h46,decide_true,J3,J2,V9,F7,F5,F4,h53,G9,bn,un,U0,V5,U6,J6,I4,K3,J4,P7,P9,J3,J2,X4,Y3,M6,K6,V.e1g,P8,R7,X7,Q7,M7,M8,Q8,K8,M5,H9,I6,K9,M0,O6,S9,J5,J7,G8,Nat.add_zero]
 exact H6.done ⟨by simp only [N9,List.append_assoc,List.cons_append,List.nil_append],fun i hi=>by simp (config:={ maxSteps:=10000000 }) (disch:=first | assumption | omega | (simp only [l9,w9,F3,j6,A8,E8,D8,I5,G9,I9,I8,H7,o9,D5,G8,Nat.reduceAdd,D7,E9,Nat.reduceBEq,G5,F9,d9,j5,l6,z8,D9,F7,F5,F4,G6,C8,q9,A9,q8,l8,l7,E5,C9,G7,IntKind.bits,D6,r9,o7] <;> omega) | assumption) only [F6]⟩
theorem d1i (N:Nat) (call:o8) (X:Ins) (tv lv:Value) (a b c:Nat) (h:Trie VObj) (T:List UInt8) (hT:L9 T≤100) (hA:X.A=.ofNat a) (hB:X.B=.ofNat b) (ha:a<4294967296) (hb:b<4294967296) (h52:∀ hh,(∀ b,b<c→hh.get b=h.get b)→∃ z:List Nat→List Nat, ∀ r w,go (call 52 [I7 X tv lv]) ⟨c+1,hh,r,w⟩=some (.ret (.string ⟨⟨T⟩⟩),⟨c+1,hh,z r,w⟩))
 (h19:∀ hh,(∀ b,b<c→hh.get b=h.get b)→∃ z:List Nat→List Nat, ∀ r w,go (call 19 [I7 X tv lv]) ⟨c+1,hh,r,w⟩=some (.ret (.bool true),⟨c+1,hh,z r,w⟩))
 (h45:call 45 [.int .i64 X.op]=M.pure (.ret (.string ⟨⟨V4 X.op⟩⟩))) (h46:call 46 [.int .i64 X.op]=M.pure (.ret (.int .i64 (.ofNat 17))))
 (Ht:Q6 c h tv (P6 X.types)) (Hl:Q6 c h lv (P6 X.labels)) (r w:List Nat) :
 H6 (go (a0F H8 N call (I7 X tv lv)) ⟨c,h,r,w⟩) fun x s=>x=.ret (.string ⟨⟨M4 (V4 X.op) T⟩⟩)∧∀ i,i<c→s.h.get i=h.get i:=by
 obtain ⟨z,h19'⟩:=h19 (upd h c (.cells [(.int .i64 X.op, 0),(.int .i64 X.A, 0),(.int .i64 X.B, 0),(.int .u64 (Int.ofNat X.N), 0),(.int .i64 X.k, 0),(.int .i64 X.v, 0),(.int .i64 X.i, 0),(tv, 0),(lv, 0)] 0 false)) (fun b hb=>F6 (by omega))
 obtain ⟨z2,h52'⟩:=h52 (upd h c (.cells [(.int .i64 X.op, 0),(.int .i64 X.A, 0),(.int .i64 X.B, 0),(.int .u64 (Int.ofNat X.N), 0),(.int .i64 X.k, 0),(.int .i64 X.v, 0),(.int .i64 X.i, 0),(tv, 0),(lv, 0)] 0 false)) (fun b hb=>F6 (by omega))
 have Ht2:=Ht
 have Hl2:=Hl
 obtain ⟨ta,te,rfl,_⟩:=Ht
 obtain ⟨la,le,rfl,_⟩:=Hl
 simp only [I7,hA,hB,List.length_map] at h19' h52'
 have nl:=X9 X.op
 simp (config:={ maxSteps:=10000000 }) (disch:=first | assumption | omega | (simp only [l9,w9,F3,j6,A8,E8,D8,I5,G9,I9,I8,H7,o9,D5,G8,Nat.reduceAdd,D7,E9,Nat.reduceBEq,G5,F9,d9,j5,l6,z8,D9,F7,F5,F4,G6,C8,q9,A9,q8,l8,l7,E5,C9,G7,IntKind.bits,D6,r9,o7] <;> omega) | assumption) only [a0F,a4p,a4j,a4g,a4d,a4r,a4f,a4n,a4u,a4s,a4k,a3f,a3y,a3H,a3z,a3o,a3e,a3g,a3x,a3n,a3h,a3E,a3q,a3t,a3l,a3j,a3B,a3k,a3C,a3F,a3u,a3p,a3G,a3D,a2l,a3A,a2k,a3i,I7,hA,hB,List.length_map,h19',h45,h46,decide_true,J3,J2,V9,F7,F5,F4,h52',G9,bn,un,U0,V5,U6,J6,I4,K3,J4,P7,P9,J3,J2,X4,Y3,M6,K6,V.e1g,P8,R7,X7,Q7,M7,M8,Q8,K8,M5,H9,I6,K9,M0,O6,J5,J7,G8,Nat.add_zero]
 exact H6.done ⟨by simp only [N9],fun i hi=>by simp (config:={ maxSteps:=10000000 }) (disch:=first | assumption | omega | (simp only [l9,w9,F3,j6,A8,E8,D8,I5,G9,I9,I8,H7,o9,D5,G8,Nat.reduceAdd,D7,E9,Nat.reduceBEq,G5,F9,d9,j5,l6,z8,D9,F7,F5,F4,G6,C8,q9,A9,q8,l8,l7,E5,C9,G7,IntKind.bits,D6,r9,o7] <;> omega) | assumption) only [F6]⟩
theorem d7f (N:Nat) (call:o8) (X:Ins) (tv lv:Value) (a b c:Nat) (h:Trie VObj) (T:List UInt8) (hT:L9 T≤100000) (hA:X.A=.ofNat a) (hB:X.B=.ofNat b) (ha:a<4294967296) (hb:b<4294967296) (h48:∀ hh,(∀ b,b<c→hh.get b=h.get b)→∃ z:List Nat→List Nat, ∀ r w,go (call 48 [I7 X tv lv]) ⟨c+1,hh,r,w⟩=some (.ret (.string ⟨⟨T⟩⟩),⟨c+1,hh,z r,w⟩))
 (h19:∀ hh,(∀ b,b<c→hh.get b=h.get b)→∃ z:List Nat→List Nat, ∀ r w,go (call 19 [I7 X tv lv]) ⟨c+1,hh,r,w⟩=some (.ret (.bool true),⟨c+1,hh,z r,w⟩))
 (h45:call 45 [.int .i64 X.op]=M.pure (.ret (.string ⟨⟨V4 X.op⟩⟩))) (h46:call 46 [.int .i64 X.op]=M.pure (.ret (.int .i64 (.ofNat 3))))
 (Ht:Q6 c h tv (P6 X.types)) (Hl:Q6 c h lv (P6 X.labels)) (r w:List Nat) :
 H6 (go (a0F H8 N call (I7 X tv lv)) ⟨c,h,r,w⟩) fun x s=>x=.ret (.string ⟨⟨M4 (V4 X.op) T⟩⟩)∧∀ i,i<c→s.h.get i=h.get i:=by
 obtain ⟨z,h19'⟩:=h19 (upd h c (.cells [(.int .i64 X.op, 0),(.int .i64 X.A, 0),(.int .i64 X.B, 0),(.int .u64 (Int.ofNat X.N), 0),(.int .i64 X.k, 0),(.int .i64 X.v, 0),(.int .i64 X.i, 0),(tv, 0),(lv, 0)] 0 false)) (fun b hb=>F6 (by omega))
 obtain ⟨z2,h48'⟩:=h48 (upd h c (.cells [(.int .i64 X.op, 0),(.int .i64 X.A, 0),(.int .i64 X.B, 0),(.int .u64 (Int.ofNat X.N), 0),(.int .i64 X.k, 0),(.int .i64 X.v, 0),(.int .i64 X.i, 0),(tv, 0),(lv, 0)] 0 false)) (fun b hb=>F6 (by omega))
 have Ht2:=Ht
 have Hl2:=Hl
 obtain ⟨ta,te,rfl,_⟩:=Ht
 obtain ⟨la,le,rfl,_⟩:=Hl
 simp only [I7,hA,hB,List.length_map] at h19' h48'
 have nl:=X9 X.op
 simp (config:={ maxSteps:=10000000 }) (disch:=first | assumption | omega | (simp only [l9,w9,F3,j6,A8,E8,D8,I5,G9,I9,I8,H7,o9,D5,G8,Nat.reduceAdd,D7,E9,Nat.reduceBEq,G5,F9,d9,j5,l6,z8,D9,F7,F5,F4,G6,C8,q9,A9,q8,l8,l7,E5,C9,G7,IntKind.bits,D6,r9,o7] <;> omega) | assumption) only [a0F,a4p,a4j,a4g,a4d,a4r,a4f,a4n,a4u,a4s,a4k,a3f,a3y,a3H,a3z,a3o,a3e,a3g,a3x,a3n,a3h,a3E,a3q,a3t,a3l,a3j,a3B,a3k,a3C,a3F,a3u,a3p,a3G,a3D,a2l,a3A,a2k,a3i,I7,hA,hB,List.length_map,h19',h45,h46,decide_true,J3,J2,V9,F7,F5,F4,h48',G9,bn,un,U0,V5,U6,J6,I4,K3,J4,P7,P9,J3,J2,X4,Y3,M6,K6,V.e1g,P8,R7,X7,Q7,M7,M8,Q8,K8,M5,H9,I6,K9,M0,O6,J5,J7,G8,Nat.add_zero]
 exact H6.done ⟨by simp only [N9],fun i hi=>by simp (config:={ maxSteps:=10000000 }) (disch:=first | assumption | omega | (simp only [l9,w9,F3,j6,A8,E8,D8,I5,G9,I9,I8,H7,o9,D5,G8,Nat.reduceAdd,D7,E9,Nat.reduceBEq,G5,F9,d9,j5,l6,z8,D9,F7,F5,F4,G6,C8,q9,A9,q8,l8,l7,E5,C9,G7,IntKind.bits,D6,r9,o7] <;> omega) | assumption) only [F6]⟩
theorem c9N (N:Nat) (call:o8) (X:Ins) (tv lv:Value) (a b:Nat) (hA:X.A=.ofNat a) (hB:X.B=.ofNat b) (ha:a<4294967296) (hb:b<4294967296)
 (c:Nat) (h:Trie VObj) (h19:∀ hh,(∀ b,b<c→hh.get b=h.get b)→∃ z:List Nat→List Nat, ∀ r w,go (call 19 [I7 X tv lv]) ⟨c+1,hh,r,w⟩=some (.ret (.bool true),⟨c+1,hh,z r,w⟩))
 (h45:call 45 [.int .i64 X.op]=M.pure (.ret (.string ⟨⟨V4 X.op⟩⟩))) (h46:call 46 [.int .i64 X.op]=M.pure (.ret (.int .i64 (.ofNat 20))))
 (Ht:Q6 c h tv (P6 X.types)) (Hl:Q6 c h lv (P6 X.labels)) (r w:List Nat) :
 H6 (go (a0F H8 N call (I7 X tv lv)) ⟨c,h,r,w⟩) fun x s=>x=.ret (.string ⟨⟨M4 (V4 X.op) (bcase (decide (X.A=3)) [32, 102, 117, 110, 99] [32, 101, 120, 116, 101, 114, 110])⟩⟩)∧∀ i,i<c→s.h.get i=h.get i:=by
 obtain ⟨z,h19'⟩:=h19 (upd h c (.cells [(.int .i64 X.op, 0),(.int .i64 X.A, 0),(.int .i64 X.B, 0),(.int .u64 (Int.ofNat X.N), 0),(.int .i64 X.k, 0),(.int .i64 X.v, 0),(.int .i64 X.i, 0),(tv, 0),(lv, 0)] 0 false)) (fun b hb=>F6 (by omega))
 have Ht2:=Ht
 have Hl2:=Hl
 obtain ⟨ta,te,rfl,_⟩:=Ht
 obtain ⟨la,le,rfl,_⟩:=Hl
 simp only [I7,hA,hB,List.length_map] at h19'
 have nl:=X9 X.op
 simp (config:={ maxSteps:=10000000 }) (disch:=first | assumption | omega | (simp only [l9,w9,F3,j6,A8,E8,D8,I5,G9,I9,I8,H7,o9,D5,G8,Nat.reduceAdd,D7,E9,Nat.reduceBEq,G5,F9,d9,j5,l6,z8,D9,F7,F5,F4,G6,C8,q9,A9,q8,l8,l7,E5,C9,G7,IntKind.bits,D6,r9,o7] <;> omega) | assumption) only [a0F,a4p,a4j,a4g,a4d,a4r,a4f,a4n,a4u,a4s,a4k,a3f,a3y,a3H,a3z,a3o,a3e,a3g,a3x,a3n,a3h,a3E,a3q,a3t,a3l,a3j,a3B,a3k,a3C,a3F,a3u,a3p,a3G,a3D,a2l,a3A,a2k,a3i,I7,hA,hB,List.length_map,h19',h45,h46,decide_true,J3,J2,V9,F7,F4,G9,bn,un,U0,V5,U6,J6,I4,K3,J4,P7,P9,J3,J2,a2M,X4,Y3,M6,K6,V.e1g,a6K,a8v,P8,R7,X7,Q7,M7,M8,Q8,K8,M5,H9,I6,K9,M0,O6,S9,J5,J7,G8,Nat.add_zero]
 refine H6.done ⟨?_,fun i hi=>by simp (config:={ maxSteps:=10000000 }) (disch:=first | assumption | omega | (simp only [l9,w9,F3,j6,A8,E8,D8,I5,G9,I9,I8,H7,o9,D5,G8,Nat.reduceAdd,D7,E9,Nat.reduceBEq,G5,F9,d9,j5,l6,z8,D9,F7,F5,F4,G6,C8,q9,A9,q8,l8,l7,E5,C9,G7,IntKind.bits,D6,r9,o7] <;> omega) | assumption) only [F6]⟩
 try rw [show (decide (Int.ofNat a=(3:Int)))=a.beq 3 from V9 a 3]
 cases a.beq 3 <;> rfl
theorem d4h (N:Nat) (call:o8) (X:Ins) (tv lv:Value) (a b:Nat) (hA:X.A=.ofNat a) (hB:X.B=.ofNat b) (ha:a<4294967296) (hb:b<4294967296) (hi1:-9223372036854775808≤X.i) (hi2:X.i≤9223372036854775807) (h15:call 15 [.agg ⟨[.int .i64 X.k,.int .i64 X.v,.int .i64 X.i]⟩]=M.pure (.ret (.string ⟨⟨a5H X.k X.v X.i⟩⟩)))
 (c:Nat) (h:Trie VObj) (h19:∀ hh,(∀ b,b<c→hh.get b=h.get b)→∃ z:List Nat→List Nat, ∀ r w,go (call 19 [I7 X tv lv]) ⟨c+1,hh,r,w⟩=some (.ret (.bool true),⟨c+1,hh,z r,w⟩))
 (h45:call 45 [.int .i64 X.op]=M.pure (.ret (.string ⟨⟨V4 X.op⟩⟩))) (h46:call 46 [.int .i64 X.op]=M.pure (.ret (.int .i64 (.ofNat 1))))
 (Ht:Q6 c h tv (P6 X.types)) (Hl:Q6 c h lv (P6 X.labels)) (r w:List Nat) :
 H6 (go (a0F H8 N call (I7 X tv lv)) ⟨c,h,r,w⟩) fun x s=>x=.ret (.string ⟨⟨M4 (V4 X.op) (bcase (decide (X.k=0)) [] (32::a5H X.k X.v X.i))⟩⟩)∧∀ i,i<c→s.h.get i=h.get i:=by
 obtain ⟨z,h19'⟩:=h19 (upd h c (.cells [(.int .i64 X.op, 0),(.int .i64 X.A, 0),(.int .i64 X.B, 0),(.int .u64 (Int.ofNat X.N), 0),(.int .i64 X.k, 0),(.int .i64 X.v, 0),(.int .i64 X.i, 0),(tv, 0),(lv, 0)] 0 false)) (fun b hb=>F6 (by omega))
 have Ht2:=Ht
 have Hl2:=Hl
 obtain ⟨ta,te,rfl,_⟩:=Ht
 obtain ⟨la,le,rfl,_⟩:=Hl
 simp only [I7,hA,hB,List.length_map] at h19'
 have nl:=X9 X.op
 have q2:=b2Q X.k X.v X.i hi1 hi2
 have dk:decide (X.k=Int.ofNat 0)=decide (X.k=0):=rfl
 simp (config:={ maxSteps:=10000000 }) (disch:=first | assumption | omega | (simp only [l9,w9,F3,j6,A8,E8,D8,I5,G9,I9,I8,H7,o9,D5,G8,Nat.reduceAdd,D7,E9,Nat.reduceBEq,G5,F9,d9,j5,l6,z8,D9,F7,F5,F4,G6,C8,q9,A9,q8,l8,l7,E5,C9,G7,IntKind.bits,D6,r9,o7] <;> omega) | assumption) only [a0F,a4p,a4j,a4g,a4d,a4r,a4f,a4n,a4u,a4s,a4k,a3f,a3y,a3H,a3z,a3o,a3e,a3g,a3x,a3n,a3h,a3E,a3q,a3t,a3l,a3j,a3B,a3k,a3C,a3F,a3u,a3p,a3G,a3D,a2l,a3A,a2k,a3i,I7,hA,hB,List.length_map,h19',h45,h46,decide_true,J3,J2,V9,F5,F4,h15,dk,G9,bn,un,U0,V5,U6,J6,I4,K3,J4,a2W,a5N,U3,P7,P9,J3,J2,a5y,X4,Y3,M6,K6,V.e1g,a6K,a8v,P8,a0v,R7,X7,Q7,M7,M8,Q8,K8,M5,H9,I6,K9,M0,O6,S9,J5,J7,G8,Nat.add_zero]
 refine H6.done ⟨?_,fun i hi=>by simp (config:={ maxSteps:=10000000 }) (disch:=first | assumption | omega | (simp only [l9,w9,F3,j6,A8,E8,D8,I5,G9,I9,I8,H7,o9,D5,G8,Nat.reduceAdd,D7,E9,Nat.reduceBEq,G5,F9,d9,j5,l6,z8,D9,F7,F5,F4,G6,C8,q9,A9,q8,l8,l7,E5,C9,G7,IntKind.bits,D6,r9,o7] <;> omega) | assumption) only [F6]⟩
 cases decide (X.k=0) <;> simp [N9,bcase]
theorem d4x (N:Nat) (call:o8) (X:Ins) (tv lv:Value) (a b:Nat) (hA:X.A=.ofNat a) (hB:X.B=.ofNat b) (ha:a<4294967296) (hb:b<4294967296) (t:Int) (ht:X.types=[t]) (h50:∀ n,call 50 [.int .i64 n]=M.pure (.ret (.string ⟨⟨a1Q n⟩⟩)))
 (c:Nat) (h:Trie VObj) (h19:∀ hh,(∀ b,b<c→hh.get b=h.get b)→∃ z:List Nat→List Nat, ∀ r w,go (call 19 [I7 X tv lv]) ⟨c+1,hh,r,w⟩=some (.ret (.bool true),⟨c+1,hh,z r,w⟩))
 (h45:call 45 [.int .i64 X.op]=M.pure (.ret (.string ⟨⟨V4 X.op⟩⟩))) (h46:call 46 [.int .i64 X.op]=M.pure (.ret (.int .i64 (.ofNat 6))))
 (Ht:Q6 c h tv (P6 X.types)) (Hl:Q6 c h lv (P6 X.labels)) (r w:List Nat) :
 H6 (go (a0F H8 N call (I7 X tv lv)) ⟨c,h,r,w⟩) fun x s=>x=.ret (.string ⟨⟨M4 (V4 X.op) (M4 [32, 40, 114, 101, 115, 117, 108, 116, 32] (M4 (a1Q t) [41]))⟩⟩)∧∀ i,i<c→s.h.get i=h.get i:=by
 obtain ⟨z,h19'⟩:=h19 (upd h c (.cells [(.int .i64 X.op, 0),(.int .i64 X.A, 0),(.int .i64 X.B, 0),(.int .u64 (Int.ofNat X.N), 0),(.int .i64 X.k, 0),(.int .i64 X.v, 0),(.int .i64 X.i, 0),(tv, 0),(lv, 0)] 0 false)) (fun b hb=>F6 (by omega))
 obtain ⟨p,bb,_,e1,e2⟩:=Ht.read (Nat.le_succ c) (h':=upd h c (.cells [(.int .i64 X.op, 0),(.int .i64 X.A, 0),(.int .i64 X.B, 0),(.int .u64 (Int.ofNat X.N), 0),(.int .i64 X.k, 0),(.int .i64 X.v, 0),(.int .i64 X.i, 0),(tv, 0),(lv, 0)] 0 false)) (fun b hb=>F6 (by omega)) (i:=0) (x:=.int .i64 t) (by rw [ht]; rfl)
 have Ht2:=Ht
 have Hl2:=Hl
 obtain ⟨ta,te,rfl,_⟩:=Ht
 obtain ⟨la,le,rfl,_⟩:=Hl
 simp only [I7,hA,hB,List.length_map] at h19' e1 e2
 have nl:=X9 X.op
 have q2:=a6n t
 simp (config:={ maxSteps:=10000000 }) (disch:=first | assumption | omega | (simp only [l9,w9,F3,j6,A8,E8,D8,I5,G9,I9,I8,H7,o9,D5,G8,Nat.reduceAdd,D7,E9,Nat.reduceBEq,G5,F9,d9,j5,l6,z8,D9,F7,F5,F4,G6,C8,q9,A9,q8,l8,l7,E5,C9,G7,IntKind.bits,D6,r9,o7] <;> omega) | assumption) only [a0F,a4p,a4j,a4g,a4d,a4r,a4f,a4n,a4u,a4s,a4k,a3f,a3y,a3H,a3z,a3o,a3e,a3g,a3x,a3n,a3h,a3E,a3q,a3t,a3l,a3j,a3B,a3k,a3C,a3F,a3u,a3p,a3G,a3D,a2l,a3A,a2k,a3i,I7,hA,hB,List.length_map,h19',h45,h46,decide_true,J3,J2,V9,F7,F5,F4,h50,e1,e2,G9,bn,un,U0,V5,U6,J6,I4,K3,J4,P7,P9,r9,o7,J3,J2,X4,Y3,M6,K6,V.e1g,P8,R7,X7,Q7,M7,M8,Q8,K8,M5,H9,I6,K9,M0,O6,S9,J5,J7,G8,Nat.add_zero]
 exact H6.done ⟨by simp only [N9,List.append_assoc,List.cons_append,List.nil_append],fun i hi=>by simp (config:={ maxSteps:=10000000 }) (disch:=first | assumption | omega | (simp only [l9,w9,F3,j6,A8,E8,D8,I5,G9,I9,I8,H7,o9,D5,G8,Nat.reduceAdd,D7,E9,Nat.reduceBEq,G5,F9,d9,j5,l6,z8,D9,F7,F5,F4,G6,C8,q9,A9,q8,l8,l7,E5,C9,G7,IntKind.bits,D6,r9,o7] <;> omega) | assumption) only [F6]⟩
end Go.Proofs.YtmomonnlmbljoaaGreatDoor
end
