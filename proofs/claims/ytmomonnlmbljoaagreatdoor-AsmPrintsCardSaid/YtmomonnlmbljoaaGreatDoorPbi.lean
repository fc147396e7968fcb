import Derived.Test.YtmomonnlmbljoaaGreatDoorPbh
section
namespace Go.Proofs.YtmomonnlmbljoaaGreatDoor
open Go.V Go.RowKit Go.Shelf Go.Proofs
set_option maxRecDepth 1000000
set_option maxHeartbeats 4000000
set_option linter.unusedVariables false
attribute [local congr] U8 U7 Y8 Z0 a0i a0h a1V
variable {mL:Int}
theorem d6P (N:Nat) (call Y2 call3:o8) (X:Ins) (tv lv:Value) (a b:Nat) (hA:X.A=.ofNat a) (hB:X.B=.ofNat b) (ha:a<4294967296) (hb:b<4294967296)
 (c:Nat) (h:Trie VObj) (h34:∀ hh,(∀ b,b<c→hh.get b=h.get b)→∃ z:List Nat→List Nat, ∀ r w,go (call 34 [I7 X tv lv]) ⟨c+1,hh,r,w⟩=some (.ret (.bool true),⟨c+1,hh,z r,w⟩))
 (C:Calls12 N call Y2 call3 X 9)
 (Ht:Q6 c h tv (P6 X.types)) (Hl:Q6 c h lv (P6 X.labels)) (r w:List Nat) :
 H6 (go (a0c H8 N call (I7 X tv lv)) ⟨c,h,r,w⟩) fun x s=>x=.ret (.string ⟨⟨M4 (V4 X.op) (a0C a)⟩⟩)∧∀ i,i<c→s.h.get i=h.get i:=by
 obtain ⟨z,h34'⟩:=h34 (upd h c (.cells [(.int .i64 X.op, 0),(.int .i64 X.A, 0),(.int .i64 X.B, 0),(.int .u64 (Int.ofNat X.N), 0),(.int .i64 X.k, 0),(.int .i64 X.v, 0),(.int .i64 X.i, 0),(tv, 0),(lv, 0)] 0 false)) (fun b hb=>F6 (by omega))
 obtain ⟨h35,h39,h36,h36',h37c,h37,h37',h38,h44,h96⟩:=C
 obtain ⟨ta,te,rfl,_⟩:=id Ht
 obtain ⟨la,le,rfl,_⟩:=id Hl
 simp only [I7,hA,hB,List.length_map] at h34'
 have nl:=X9 X.op
 have l1:=Y6 a (by omega)
 have l2:=Y6 b (by omega)
 have q1:=h37 a (by omega)
 have q2:=h37' b (by omega)
 have q3:=h37' a (by omega)
 have q4:=h37c a (by omega)
 cases hz:a.beq 0 with
 | true=>
   simp (config:={ maxSteps:=10000000 }) (disch:=first | assumption | omega | (simp only [O1,N8,N7,M9,F8,Nat.reduceMul,Nat.reduceLT,l9,w9,F3,j6,A8,E8,D8,I5,G9,I9,I8,H7,o9,D5,G8,Nat.reduceAdd,D7,E9,Nat.reduceBEq,G5,F9,d9,j5,l6,z8,D9,F7,F5,F4,G6,C8,q9,A9,q8,l8,l7,E5,C9,G7,IntKind.bits,D6,r9,o7] <;> omega) | assumption) only [a0c,a2j,a2g,a1Z,a2e,a2i,a2a,a2d,a2c,a2b,a2h,a0O,a0X,a1t,a0N,a0Y,a1m,a1b,a0V,a1C,a1l,a1s,a1g,a1A,a1i,a1q,a1h,a1j,a0U,a1z,a1F,a0K,a1w,a1p,a1D,a0J,a1c,a1k,a1y,a1f,a0L,a0S,a0M,a0T,a1x,a0Z,a1B,a0W,a1o,a1e,a1n,a1v,Z9,a0R,a0a,a1u,Z8,a0Q,Z7,a0P,Z6,a1E,a0b,a1r,a2J,a2F,I7,hA,hB,List.length_map,h34',h35,h39,h38,h44,h96,hz,decide_true,J3,J2,V9,F7,F5,F4,G9,U4,H9,Z4,X5,Y7,V3,a0r,bn,un,U0,V5,U6,a1P,J6,I4,K3,J4,U3,P7,P9,r9,o7,J3,J2,X4,Y3,M6,K6,V.e1g,Q9,P8,a0v,R7,Q7,a0l,d9,j5,l6,T9,R9,U9,P5,O5,l9,w9,j6,H7,M7,M8,Q8,Y5,a0D,R8,K8,M5,V8,H9,I6,F6,K9,M0,O6,S9,J5,J7,G8,Nat.add_zero,U5,Q0,R3]
   exact H6.done ⟨by simp only [a0C,J3,hz,  N9,List.append_nil],fun i hi=>by simp (config:={ maxSteps:=10000000 }) (disch:=first | assumption | omega | (simp only [O1,N8,N7,M9,F8,Nat.reduceMul,Nat.reduceLT,l9,w9,F3,j6,A8,E8,D8,I5,G9,I9,I8,H7,o9,D5,G8,Nat.reduceAdd,D7,E9,Nat.reduceBEq,G5,F9,d9,j5,l6,z8,D9,F7,F5,F4,G6,C8,q9,A9,q8,l8,l7,E5,C9,G7,IntKind.bits,D6,r9,o7] <;> omega) | assumption) only [F6]⟩
 | false=>
   simp (config:={ maxSteps:=10000000 }) (disch:=first | assumption | omega | (simp only [O1,N8,N7,M9,F8,Nat.reduceMul,Nat.reduceLT,l9,w9,F3,j6,A8,E8,D8,I5,G9,I9,I8,H7,o9,D5,G8,Nat.reduceAdd,D7,E9,Nat.reduceBEq,G5,F9,d9,j5,l6,z8,D9,F7,F5,F4,G6,C8,q9,A9,q8,l8,l7,E5,C9,G7,IntKind.bits,D6,r9,o7] <;> omega) | assumption) only [a0c,a2j,a2g,a1Z,a2e,a2i,a2a,a2d,a2c,a2b,a2h,a0O,a0X,a1t,a0N,a0Y,a1m,a1b,a0V,a1C,a1l,a1s,a1g,a1A,a1i,a1q,a1h,a1j,a0U,a1z,a1F,a0K,a1w,a1p,a1D,a0J,a1c,a1k,a1y,a1f,a0L,a0S,a0M,a0T,a1x,a0Z,a1B,a0W,a1o,a1e,a1n,a1v,Z9,a0R,a0a,a1u,Z8,a0Q,Z7,a0P,Z6,a1E,a0b,a1r,a3V,a2u,a4b,a2v,a2J,a2F,I7,hA,hB,List.length_map,h34',h35,h39,h36',h38,h44,h96,q3,hz,decide_true,J3,J2,V9,F7,F5,F4,G9,I5,U4,o9,D5,H9,Nat.reduceMul,ap9,a0u,a0s,a1L,a1K,Z4,X5,Y7,V3,X3,a0r,bn,un,U0,V5,U6,a1P,J6,I4,K3,J4,U3,P7,P9,r9,o7,J3,J2,X4,Y3,M6,K6,V.e1g,Q9,R5,P8,a0v,R7,Q7,a0l,d9,j5,l6,T9,R9,U9,P5,O5,l9,w9,j6,H7,M7,M8,Q8,Y5,a0D,R8,K8,M5,V8,H9,I6,F6,K9,M0,O6,S9,J5,J7,G8,Nat.add_zero,Nat.reduceAdd,U5,Q0,R3,a0q,V7]
   exact H6.done ⟨by simp only [a0C,X8,J2,hz,  N9,List.append_nil],fun i hi=>by simp (config:={ maxSteps:=10000000 }) (disch:=first | assumption | omega | (simp only [O1,N8,N7,M9,F8,Nat.reduceMul,Nat.reduceLT,l9,w9,F3,j6,A8,E8,D8,I5,G9,I9,I8,H7,o9,D5,G8,Nat.reduceAdd,D7,E9,Nat.reduceBEq,G5,F9,d9,j5,l6,z8,D9,F7,F5,F4,G6,C8,q9,A9,q8,l8,l7,E5,C9,G7,IntKind.bits,D6,r9,o7] <;> omega) | assumption) only [F6]⟩
theorem d3b (N:Nat) (call Y2 call3:o8) (X:Ins) (tv lv:Value) (a b:Nat) (hA:X.A=.ofNat a) (hB:X.B=.ofNat b) (ha:a<4294967296) (hb:b<4294967296)
 (c:Nat) (h:Trie VObj) (h34:∀ hh,(∀ b,b<c→hh.get b=h.get b)→∃ z:List Nat→List Nat, ∀ r w,go (call 34 [I7 X tv lv]) ⟨c+1,hh,r,w⟩=some (.ret (.bool true),⟨c+1,hh,z r,w⟩))
 (C:Calls12 N call Y2 call3 X 13)
 (Ht:Q6 c h tv (P6 X.types)) (Hl:Q6 c h lv (P6 X.labels)) (r w:List Nat) :
 H6 (go (a0c H8 N call (I7 X tv lv)) ⟨c,h,r,w⟩) fun x s=>x=.ret (.string ⟨⟨M4 (V4 X.op) (a0C b)⟩⟩)∧∀ i,i<c→s.h.get i=h.get i:=by
 obtain ⟨z,h34'⟩:=h34 (upd h c (.cells [(.int .i64 X.op, 0),(.int .i64 X.A, 0),(.int .i64 X.B, 0),(.int .u64 (Int.ofNat X.N), 0),(.int .i64 X.k, 0),(.int .i64 X.v, 0),(.int .i64 X.i, 0),(tv, 0),(lv, 0)] 0 false)) (fun b hb=>F6 (by omega))
 obtain ⟨h35,h39,h36,h36',h37c,h37,h37',h38,h44,h96⟩:=C
 obtain ⟨ta,te,rfl,_⟩:=id Ht
 obtain ⟨la,le,rfl,_⟩:=id Hl
 simp only [I7,hA,hB,List.length_map] at h34'
 have nl:=X9 X.op
 have l1:=Y6 a (by omega)
 have l2:=Y6 b (by omega)
 have q1:=h37 a (by omega)
 have q2:=h37' b (by omega)
 have q3:=h37' a (by omega)
 have q4:=h37c a (by omega)
 cases hz:b.beq 0 with
 | true=>
   simp (config:={ maxSteps:=10000000 }) (disch:=first | assumption | omega | (simp only [O1,N8,N7,M9,F8,Nat.reduceMul,Nat.reduceLT,l9,w9,F3,j6,A8,E8,D8,I5,G9,I9,I8,H7,o9,D5,G8,Nat.reduceAdd,D7,E9,Nat.reduceBEq,G5,F9,d9,j5,l6,z8,D9,F7,F5,F4,G6,C8,q9,A9,q8,l8,l7,E5,C9,G7,IntKind.bits,D6,r9,o7] <;> omega) | assumption) only [a0c,a2j,a2g,a1Z,a2e,a2i,a2a,a2d,a2c,a2b,a2h,a0O,a0X,a1t,a0N,a0Y,a1m,a1b,a0V,a1C,a1l,a1s,a1g,a1A,a1i,a1q,a1h,a1j,a0U,a1z,a1F,a0K,a1w,a1p,a1D,a0J,a1c,a1k,a1y,a1f,a0L,a0S,a0M,a0T,a1x,a0Z,a1B,a0W,a1o,a1e,a1n,a1v,Z9,a0R,a0a,a1u,Z8,a0Q,Z7,a0P,Z6,a1E,a0b,a1r,a2J,a2F,I7,hA,hB,List.length_map,h34',h35,h39,h38,h44,h96,hz,decide_true,J3,J2,V9,F7,F5,F4,G9,U4,H9,Z4,X5,Y7,V3,a0r,bn,un,U0,V5,U6,a1P,J6,I4,K3,J4,U3,P7,P9,r9,o7,J3,J2,X4,Y3,M6,K6,V.e1g,Q9,P8,a0v,R7,Q7,a0l,d9,j5,l6,T9,R9,U9,P5,O5,l9,w9,j6,H7,M7,M8,Q8,Y5,a0D,R8,K8,M5,V8,H9,I6,F6,K9,M0,O6,S9,J5,J7,G8,Nat.add_zero,U5,Q0,R3]
   exact H6.done ⟨by simp only [a0C,J3,hz,  N9,List.append_nil],fun i hi=>by simp (config:={ maxSteps:=10000000 }) (disch:=first | assumption | omega | (simp only [O1,N8,N7,M9,F8,Nat.reduceMul,Nat.reduceLT,l9,w9,F3,j6,A8,E8,D8,I5,G9,I9,I8,H7,o9,D5,G8,Nat.reduceAdd,D7,E9,Nat.reduceBEq,G5,F9,d9,j5,l6,z8,D9,F7,F5,F4,G6,C8,q9,A9,q8,l8,l7,E5,C9,G7,IntKind.bits,D6,r9,o7] <;> omega) | assumption) only [F6]⟩
 | false=>
   simp (config:={ maxSteps:=10000000 }) (disch:=first | assumption | omega | (simp only [O1,N8,N7,M9,F8,Nat.reduceMul,Nat.reduceLT,l9,w9,F3,j6,A8,E8,D8,I5,G9,I9,I8,H7,o9,D5,G8,Nat.reduceAdd,D7,E9,Nat.reduceBEq,G5,F9,d9,j5,l6,z8,D9,F7,F5,F4,G6,C8,q9,A9,q8,l8,l7,E5,C9,G7,IntKind.bits,D6,r9,o7] <;> omega) | assumption) only [a0c,a2j,a2g,a1Z,a2e,a2i,a2a,a2d,a2c,a2b,a2h,a0O,a0X,a1t,a0N,a0Y,a1m,a1b,a0V,a1C,a1l,a1s,a1g,a1A,a1i,a1q,a1h,a1j,a0U,a1z,a1F,a0K,a1w,a1p,a1D,a0J,a1c,a1k,a1y,a1f,a0L,a0S,a0M,a0T,a1x,a0Z,a1B,a0W,a1o,a1e,a1n,a1v,Z9,a0R,a0a,a1u,Z8,a0Q,Z7,a0P,Z6,a1E,a0b,a1r,a3V,a2u,a4b,a2v,a2J,a2F,I7,hA,hB,List.length_map,h34',h35,h39,h36',h38,h44,h96,q2,hz,decide_true,J3,J2,V9,F7,F5,F4,G9,I5,U4,o9,D5,H9,Nat.reduceMul,ap9,a0u,a0s,a1L,a1K,Z4,X5,Y7,V3,X3,a0r,bn,un,U0,V5,U6,a1P,J6,I4,K3,J4,U3,P7,P9,r9,o7,J3,J2,X4,Y3,M6,K6,V.e1g,Q9,R5,P8,a0v,R7,Q7,a0l,d9,j5,l6,T9,R9,U9,P5,O5,l9,w9,j6,H7,M7,M8,Q8,Y5,a0D,R8,K8,M5,V8,H9,I6,F6,K9,M0,O6,S9,J5,J7,G8,Nat.add_zero,Nat.reduceAdd,U5,Q0,R3,a0q,V7]
   exact H6.done ⟨by simp only [a0C,X8,J2,hz,  N9,List.append_nil],fun i hi=>by simp (config:={ maxSteps:=10000000 }) (disch:=first | assumption | omega | (simp only [O1,N8,N7,M9,F8,Nat.reduceMul,Nat.reduceLT,l9,w9,F3,j6,A8,E8,D8,I5,G9,I9,I8,H7,o9,D5,G8,Nat.reduceAdd,D7,E9,Nat.reduceBEq,G5,F9,d9,j5,l6,z8,D9,F7,F5,F4,G6,C8,q9,A9,q8,l8,l7,E5,C9,G7,IntKind.bits,D6,r9,o7] <;> omega) | assumption) only [F6]⟩
theorem d2n (N:Nat) (call Y2 call3:o8) (X:Ins) (tv lv:Value) (a b:Nat) (hA:X.A=.ofNat a) (hB:X.B=.ofNat b) (ha:a<4294967296) (hb:b<4294967296)
 (c:Nat) (h:Trie VObj) (h34:∀ hh,(∀ b,b<c→hh.get b=h.get b)→∃ z:List Nat→List Nat, ∀ r w,go (call 34 [I7 X tv lv]) ⟨c+1,hh,r,w⟩=some (.ret (.bool true),⟨c+1,hh,z r,w⟩))
 (C:Calls12 N call Y2 call3 X 11)
 (Ht:Q6 c h tv (P6 X.types)) (Hl:Q6 c h lv (P6 X.labels)) (r w:List Nat) :
 H6 (go (a0c H8 N call (I7 X tv lv)) ⟨c,h,r,w⟩) fun x s=>x=.ret (.string ⟨⟨M4 (V4 X.op) (M4 (a0C b) (X8 a))⟩⟩)∧∀ i,i<c→s.h.get i=h.get i:=by
 obtain ⟨z,h34'⟩:=h34 (upd h c (.cells [(.int .i64 X.op, 0),(.int .i64 X.A, 0),(.int .i64 X.B, 0),(.int .u64 (Int.ofNat X.N), 0),(.int .i64 X.k, 0),(.int .i64 X.v, 0),(.int .i64 X.i, 0),(tv, 0),(lv, 0)] 0 false)) (fun b hb=>F6 (by omega))
 obtain ⟨h35,h39,h36,h36',h37c,h37,h37',h38,h44,h96⟩:=C
 obtain ⟨ta,te,rfl,_⟩:=id Ht
 obtain ⟨la,le,rfl,_⟩:=id Hl
 simp only [I7,hA,hB,List.length_map] at h34'
 have nl:=X9 X.op
 have l1:=Y6 a (by omega)
 have l2:=Y6 b (by omega)
 have q1:=h37 a (by omega)
 have q2:=h37' b (by omega)
 have q3:=h37' a (by omega)
 have q4:=h37c a (by omega)
 cases hz:b.beq 0 with
 | true=>
   simp (config:={ maxSteps:=10000000 }) (disch:=first | assumption | omega | (simp only [O1,N8,N7,M9,F8,Nat.reduceMul,Nat.reduceLT,l9,w9,F3,j6,A8,E8,D8,I5,G9,I9,I8,H7,o9,D5,G8,Nat.reduceAdd,D7,E9,Nat.reduceBEq,G5,F9,d9,j5,l6,z8,D9,F7,F5,F4,G6,C8,q9,A9,q8,l8,l7,E5,C9,G7,IntKind.bits,D6,r9,o7] <;> omega) | assumption) only [a0c,a2j,a2g,a1Z,a2e,a2i,a2a,a2d,a2c,a2b,a2h,a0O,a0X,a1t,a0N,a0Y,a1m,a1b,a0V,a1C,a1l,a1s,a1g,a1A,a1i,a1q,a1h,a1j,a0U,a1z,a1F,a0K,a1w,a1p,a1D,a0J,a1c,a1k,a1y,a1f,a0L,a0S,a0M,a0T,a1x,a0Z,a1B,a0W,a1o,a1e,a1n,a1v,Z9,a0R,a0a,a1u,Z8,a0Q,Z7,a0P,Z6,a1E,a0b,a1r,a3V,a2u,a4b,a2v,a2J,a2F,I7,hA,hB,List.length_map,h34',h35,h39,h36,h38,h44,h96,q1,hz,decide_true,J3,J2,V9,F7,F5,F4,G9,U4,o9,D5,H9,Nat.reduceMul,ap9,a0u,a0s,a1L,a1K,Z4,X5,Y7,V3,X3,a0r,bn,un,U0,V5,U6,a1P,J6,I4,K3,J4,U3,P7,P9,r9,o7,J3,J2,X4,Y3,M6,K6,V.e1g,Q9,R5,P8,a0v,R7,Q7,a0l,d9,j5,l6,T9,R9,U9,P5,O5,l9,w9,j6,H7,M7,M8,Q8,Y5,a0D,R8,K8,M5,V8,H9,I6,F6,K9,M0,O6,S9,J5,J7,G8,Nat.add_zero,Nat.reduceAdd,U5,Q0,R3,a0q,V7]
   exact H6.done ⟨by simp only [a0C,X8,J3,hz,  N9,List.nil_append,List.append_nil],fun i hi=>by simp (config:={ maxSteps:=10000000 }) (disch:=first | assumption | omega | (simp only [O1,N8,N7,M9,F8,Nat.reduceMul,Nat.reduceLT,l9,w9,F3,j6,A8,E8,D8,I5,G9,I9,I8,H7,o9,D5,G8,Nat.reduceAdd,D7,E9,Nat.reduceBEq,G5,F9,d9,j5,l6,z8,D9,F7,F5,F4,G6,C8,q9,A9,q8,l8,l7,E5,C9,G7,IntKind.bits,D6,r9,o7] <;> omega) | assumption) only [F6]⟩
 | false=>
   simp (config:={ maxSteps:=10000000 }) (disch:=first | assumption | omega | (simp only [O1,N8,N7,M9,F8,Nat.reduceMul,Nat.reduceLT,l9,w9,F3,j6,A8,E8,D8,I5,G9,I9,I8,H7,o9,D5,G8,Nat.reduceAdd,D7,E9,Nat.reduceBEq,G5,F9,d9,j5,l6,z8,D9,F7,F5,F4,G6,C8,q9,A9,q8,l8,l7,E5,C9,G7,IntKind.bits,D6,r9,o7] <;> omega) | assumption) only [a0c,a2j,a2g,a1Z,a2e,a2i,a2a,a2d,a2c,a2b,a2h,a0O,a0X,a1t,a0N,a0Y,a1m,a1b,a0V,a1C,a1l,a1s,a1g,a1A,a1i,a1q,a1h,a1j,a0U,a1z,a1F,a0K,a1w,a1p,a1D,a0J,a1c,a1k,a1y,a1f,a0L,a0S,a0M,a0T,a1x,a0Z,a1B,a0W,a1o,a1e,a1n,a1v,Z9,a0R,a0a,a1u,Z8,a0Q,Z7,a0P,Z6,a1E,a0b,a1r,a3V,a2u,a4b,a2v,a2J,a2F,I7,hA,hB,List.length_map,h34',h35,h39,h36,h36',h38,h44,h96,q1,q2,hz,decide_true,J3,J2,V9,F7,F5,F4,G9,I5,U4,o9,D5,H9,Nat.reduceMul,ap9,a0u,a0s,a1L,a1K,Z4,X5,Y7,V3,X3,a0r,bn,un,U0,V5,U6,a1P,J6,I4,K3,J4,U3,P7,P9,r9,o7,J3,J2,X4,Y3,M6,K6,V.e1g,Q9,R5,P8,a0v,R7,Q7,a0l,d9,j5,l6,T9,R9,U9,P5,O5,l9,w9,j6,H7,M7,M8,Q8,Y5,a0D,R8,K8,M5,V8,H9,I6,F6,K9,M0,O6,S9,J5,J7,G8,Nat.add_zero,Nat.reduceAdd,U5,Q0,R3,a0q,V7]
   exact H6.done ⟨by simp only [a0C,X8,J2,hz,  N9,List.cons_append,List.append_nil],fun i hi=>by simp (config:={ maxSteps:=10000000 }) (disch:=first | assumption | omega | (simp only [O1,N8,N7,M9,F8,Nat.reduceMul,Nat.reduceLT,l9,w9,F3,j6,A8,E8,D8,I5,G9,I9,I8,H7,o9,D5,G8,Nat.reduceAdd,D7,E9,Nat.reduceBEq,G5,F9,d9,j5,l6,z8,D9,F7,F5,F4,G6,C8,q9,A9,q8,l8,l7,E5,C9,G7,IntKind.bits,D6,r9,o7] <;> omega) | assumption) only [F6]⟩
theorem d2V (N:Nat) (call Y2 call3:o8) (X:Ins) (tv lv:Value) (a b:Nat) (hA:X.A=.ofNat a) (hB:X.B=.ofNat b) (ha:a<4294967296) (hb:b<4294967296)
 (c:Nat) (h:Trie VObj) (h34:∀ hh,(∀ b,b<c→hh.get b=h.get b)→∃ z:List Nat→List Nat, ∀ r w,go (call 34 [I7 X tv lv]) ⟨c+1,hh,r,w⟩=some (.ret (.bool true),⟨c+1,hh,z r,w⟩))
 (C:Calls12 N call Y2 call3 X 15)
 (Ht:Q6 c h tv (P6 X.types)) (Hl:Q6 c h lv (P6 X.labels)) (r w:List Nat) :
 H6 (go (a0c H8 N call (I7 X tv lv)) ⟨c,h,r,w⟩) fun x s=>x=.ret (.string ⟨⟨M4 (V4 X.op) (M4 (a0C b) (X8 a))⟩⟩)∧∀ i,i<c→s.h.get i=h.get i:=by
 obtain ⟨z,h34'⟩:=h34 (upd h c (.cells [(.int .i64 X.op, 0),(.int .i64 X.A, 0),(.int .i64 X.B, 0),(.int .u64 (Int.ofNat X.N), 0),(.int .i64 X.k, 0),(.int .i64 X.v, 0),(.int .i64 X.i, 0),(tv, 0),(lv, 0)] 0 false)) (fun b hb=>F6 (by omega))
 obtain ⟨h35,h39,h36,h36',h37c,h37,h37',h38,h44,h96⟩:=C
 obtain ⟨ta,te,rfl,_⟩:=id Ht
 obtain ⟨la,le,rfl,_⟩:=id Hl
 simp only [I7,hA,hB,  List.length_map] at h34'
 have nl:=X9 X.op
 have l1:=Y6 a (by omega)
 have l2:=Y6 b (by omega)
 have q1:=h37 a (by omega)
 have q2:=h37' b (by omega)
 have q3:=h37' a (by omega)
 have q4:=h37c a (by omega)
 cases hz:b.beq 0 with
 | true=>
   simp (config:={ maxSteps:=10000000 }) (disch:=first | assumption | omega | (simp only [O1,N8,N7,M9,F8,Nat.reduceMul,Nat.reduceLT,l9,w9,F3,j6,A8,E8,D8,I5,G9,I9,I8,H7,o9,D5,G8,Nat.reduceAdd,D7,E9,Nat.reduceBEq,G5,F9,d9,j5,l6,z8,D9,F7,F5,F4,G6,C8,q9,A9,q8,l8,l7,E5,C9,G7,IntKind.bits,D6,r9,o7] <;> omega) | assumption) only [a0c,a2j,a2g,a1Z,a2e,a2i,a2a,a2d,a2c,a2b,a2h,a0O,a0X,a1t,a0N,a0Y,a1m,a1b,a0V,a1C,a1l,a1s,a1g,a1A,a1i,a1q,a1h,a1j,a0U,a1z,a1F,a0K,a1w,a1p,a1D,a0J,a1c,a1k,a1y,a1f,a0L,a0S,a0M,a0T,a1x,a0Z,a1B,a0W,a1o,a1e,a1n,a1v,Z9,a0R,a0a,a1u,Z8,a0Q,Z7,a0P,Z6,a1E,a0b,a1r,a3V,a2u,a4b,a2v,a2J,a2F,I7,hA,hB,List.length_map,h34',h35,h39,h36,h38,h44,h96,q1,hz,decide_true,J3,J2,V9,F7,F5,F4,G9,U4,o9,D5,H9,Nat.reduceMul,ap9,a0u,a0s,a1L,a1K,Z4,X5,Y7,V3,X3,a0r,bn,un,U0,V5,U6,a1P,J6,I4,K3,J4,U3,P7,P9,r9,o7,J3,J2,X4,Y3,M6,K6,V.e1g,Q9,R5,P8,a0v,R7,Q7,a0l,d9,j5,l6,T9,R9,U9,P5,O5,l9,w9,j6,H7,M7,M8,Q8,Y5,a0D,R8,K8,M5,V8,H9,I6,F6,K9,M0,O6,S9,J5,J7,G8,Nat.add_zero,Nat.reduceAdd,U5,Q0,R3,a0q,V7]
   exact H6.done ⟨by simp only [a0C,X8,J3,hz,  N9,List.nil_append,List.append_nil],fun i hi=>by simp (config:={ maxSteps:=10000000 }) (disch:=first | assumption | omega | (simp only [O1,N8,N7,M9,F8,Nat.reduceMul,Nat.reduceLT,l9,w9,F3,j6,A8,E8,D8,I5,G9,I9,I8,H7,o9,D5,G8,Nat.reduceAdd,D7,E9,Nat.reduceBEq,G5,F9,d9,j5,l6,z8,D9,F7,F5,F4,G6,C8,q9,A9,q8,l8,l7,E5,C9,G7,IntKind.bits,D6,r9,o7] <;> omega) | assumption) only [F6]⟩
 | false=>
   simp (config:={ maxSteps:=10000000 }) (disch:=first | assumption | omega | (simp only [O1,N8,N7,M9,F8,Nat.reduceMul,Nat.reduceLT,l9,w9,F3,j6,A8,E8,D8,I5,G9,I9,I8,H7,o9,D5,G8,Nat.reduceAdd,D7,E9,Nat.reduceBEq,G5,F9,d9,j5,l6,z8,D9,F7,F5,F4,G6,C8,q9,A9,q8,l8,l7,E5,C9,G7,IntKind.bits,D6,r9,o7] <;> omega) | assumption) only [a0c,a2j,a2g,a1Z,a2e,a2i,a2a,a2d,a2c,a2b,a2h,a0O,a0X,a1t,a0N,a0Y,a1m,a1b,a0V,a1C,a1l,a1s,a1g,a1A,a1i,a1q,a1h,a1j,a0U,a1z,a1F,a0K,a1w,a1p,a1D,a0J,a1c,a1k,a1y,a1f,a0L,a0S,a0M,a0T,a1x,a0Z,a1B,a0W,a1o,a1e,a1n,a1v,Z9,a0R,a0a,a1u,Z8,a0Q,Z7,a0P,Z6,a1E,a0b,a1r,a3V,a2u,a4b,a2v,a2J,a2F,I7,hA,hB,List.length_map,h34',h35,h39,h36,h36',h38,h44,h96,q1,q2,hz,decide_true,J3,J2,V9,F7,F5,F4,G9,I5,U4,o9,D5,H9,Nat.reduceMul,ap9,a0u,a0s,a1L,a1K,Z4,X5,Y7,V3,X3,a0r,bn,un,U0,V5,U6,a1P,J6,I4,K3,J4,U3,P7,P9,r9,o7,J3,J2,X4,Y3,M6,K6,V.e1g,Q9,R5,P8,a0v,R7,Q7,a0l,d9,j5,l6,T9,R9,U9,P5,O5,l9,w9,j6,H7,M7,M8,Q8,Y5,a0D,R8,K8,M5,V8,H9,I6,F6,K9,M0,O6,S9,J5,J7,G8,Nat.add_zero,Nat.reduceAdd,U5,Q0,R3,a0q,V7]
   exact H6.done ⟨by simp only [a0C,X8,J2,hz,  N9,List.cons_append,List.append_nil],fun i hi=>by simp (config:={ maxSteps:=10000000 }) (disch:=first | assumption | omega | (simp only [O1,N8,N7,M9,F8,Nat.reduceMul,Nat.reduceLT,l9,w9,F3,j6,A8,E8,D8,I5,G9,I9,I8,H7,o9,D5,G8,Nat.reduceAdd,D7,E9,Nat.reduceBEq,G5,F9,d9,j5,l6,z8,D9,F7,F5,F4,G6,C8,q9,A9,q8,l8,l7,E5,C9,G7,IntKind.bits,D6,r9,o7] <;> omega) | assumption) only [F6]⟩
theorem d4W (N:Nat) (call Y2 call3:o8) (X:Ins) (tv lv:Value) (a b:Nat) (hA:X.A=.ofNat a) (hB:X.B=.ofNat b) (ha:a<4294967296) (hb:b<4294967296)
 (c:Nat) (h:Trie VObj) (h34:∀ hh,(∀ b,b<c→hh.get b=h.get b)→∃ z:List Nat→List Nat, ∀ r w,go (call 34 [I7 X tv lv]) ⟨c+1,hh,r,w⟩=some (.ret (.bool true),⟨c+1,hh,z r,w⟩))
 (C:Calls12 N call Y2 call3 X 5)
 (Ht:Q6 c h tv (P6 X.types)) (Hl:Q6 c h lv (P6 X.labels)) (r w:List Nat) :
 H6 (go (a0c H8 N call (I7 X tv lv)) ⟨c,h,r,w⟩) fun x s=>x=.ret (.string ⟨⟨M4 (V4 X.op) (M4 (M4 (a0C b) [32, 40, 116, 121, 112, 101]) (M4 (X8 a) [41]))⟩⟩)∧∀ i,i<c→s.h.get i=h.get i:=by
 obtain ⟨z,h34'⟩:=h34 (upd h c (.cells [(.int .i64 X.op, 0),(.int .i64 X.A, 0),(.int .i64 X.B, 0),(.int .u64 (Int.ofNat X.N), 0),(.int .i64 X.k, 0),(.int .i64 X.v, 0),(.int .i64 X.i, 0),(tv, 0),(lv, 0)] 0 false)) (fun b hb=>F6 (by omega))
 obtain ⟨h35,h39,h36,h36',h37c,h37,h37',h38,h44,h96⟩:=C
 obtain ⟨ta,te,rfl,_⟩:=id Ht
 obtain ⟨la,le,rfl,_⟩:=id Hl
 simp only [I7,hA,hB,  List.length_map] at h34'
 have nl:=X9 X.op
 have l1:=Y6 a (by omega)
 have l2:=Y6 b (by omega)
 have q1:=h37 a (by omega)
 have q2:=h37' b (by omega)
 have q3:=h37' a (by omega)
 have q4:=h37c a (by omega)
 cases hz:b.beq 0 with
 | true=>
   simp (config:={ maxSteps:=10000000 }) (disch:=first | assumption | omega | (simp only [O1,N8,N7,M9,F8,Nat.reduceMul,Nat.reduceLT,l9,w9,F3,j6,A8,E8,D8,I5,G9,I9,I8,H7,o9,D5,G8,Nat.reduceAdd,D7,E9,Nat.reduceBEq,G5,F9,d9,j5,l6,z8,D9,F7,F5,F4,G6,C8,q9,A9,q8,l8,l7,E5,C9,G7,IntKind.bits,D6,r9,o7] <;> omega) | assumption) only [a0c,a2j,a2g,a1Z,a2e,a2i,a2a,a2d,a2c,a2b,a2h,a0O,a0X,a1t,a0N,a0Y,a1m,a1b,a0V,a1C,a1l,a1s,a1g,a1A,a1i,a1q,a1h,a1j,a0U,a1z,a1F,a0K,a1w,a1p,a1D,a0J,a1c,a1k,a1y,a1f,a0L,a0S,a0M,a0T,a1x,a0Z,a1B,a0W,a1o,a1e,a1n,a1v,Z9,a0R,b4Z,a0a,a1u,Z8,a0Q,Z7,a0P,Z6,a1E,a0b,a1r,a2J,a2F,I7,hA,hB,List.length_map,h34',h35,h39,h38,h44,h96,q4,  hz,decide_true,J3,J2,V9,F7,F5,F4,G9,U4,o9,D5,H9,Nat.reduceMul,ap9,a0u,a0s,a1L,a1K,Z4,X5,Y7,V3,X3,a0r,bn,un,U0,V5,U6,a1P,J6,I4,K3,J4,U3,P7,P9,r9,o7,J3,J2,X4,Y3,M6,K6,V.e1g,Q9,R5,P8,a0v,R7,X7,Q7,a0l,d9,j5,l6,T9,R9,U9,P5,O5,l9,w9,j6,H7,M7,M8,Q8,Y5,a0D,R8,K8,M5,V8,H9,I6,F6,K9,M0,O6,S9,J5,J7,G8,Nat.add_zero,Nat.reduceAdd,U5,Q0,R3,a0q,V7]
   exact H6.done ⟨by simp only [a0C,X8,J3,hz,  N9,List.cons_append,List.nil_append,List.append_nil],fun i hi=>by simp (config:={ maxSteps:=10000000 }) (disch:=first | assumption | omega | (simp only [O1,N8,N7,M9,F8,Nat.reduceMul,Nat.reduceLT,l9,w9,F3,j6,A8,E8,D8,I5,G9,I9,I8,H7,o9,D5,G8,Nat.reduceAdd,D7,E9,Nat.reduceBEq,G5,F9,d9,j5,l6,z8,D9,F7,F5,F4,G6,C8,q9,A9,q8,l8,l7,E5,C9,G7,IntKind.bits,D6,r9,o7] <;> omega) | assumption) only [F6]⟩
 | false=>
   simp (config:={ maxSteps:=10000000 }) (disch:=first | assumption | omega | (simp only [O1,N8,N7,M9,F8,Nat.reduceMul,Nat.reduceLT,l9,w9,F3,j6,A8,E8,D8,I5,G9,I9,I8,H7,o9,D5,G8,Nat.reduceAdd,D7,E9,Nat.reduceBEq,G5,F9,d9,j5,l6,z8,D9,F7,F5,F4,G6,C8,q9,A9,q8,l8,l7,E5,C9,G7,IntKind.bits,D6,r9,o7] <;> omega) | assumption) only [a0c,a2j,a2g,a1Z,a2e,a2i,a2a,a2d,a2c,a2b,a2h,a0O,a0X,a1t,a0N,a0Y,a1m,a1b,a0V,a1C,a1l,a1s,a1g,a1A,a1i,a1q,a1h,a1j,a0U,a1z,a1F,a0K,a1w,a1p,a1D,a0J,a1c,a1k,a1y,a1f,a0L,a0S,a0M,a0T,a1x,a0Z,a1B,a0W,a1o,a1e,a1n,a1v,Z9,a0R,b4Z,a0a,a1u,Z8,a0Q,Z7,a0P,Z6,a1E,a0b,a1r,a3V,a2u,a4b,a2v,a2J,a2F,I7,hA,hB,List.length_map,h34',h35,h39,h36',h38,h44,h96,q2,q4,  hz,decide_true,J3,J2,V9,F7,F5,F4,G9,I5,U4,o9,D5,H9,Nat.reduceMul,ap9,a0u,a0s,a1L,a1K,Z4,X5,Y7,V3,X3,a0r,bn,un,U0,V5,U6,a1P,J6,I4,K3,J4,U3,P7,P9,r9,o7,J3,J2,X4,Y3,M6,K6,V.e1g,Q9,R5,P8,a0v,R7,X7,Q7,a0l,d9,j5,l6,T9,R9,U9,P5,O5,l9,w9,j6,H7,M7,M8,Q8,Y5,a0D,R8,K8,M5,V8,H9,I6,F6,K9,M0,O6,S9,J5,J7,G8,Nat.add_zero,Nat.reduceAdd,U5,Q0,R3,a0q,V7]
   exact H6.done ⟨by simp only [a0C,X8,J2,hz,  N9,List.append_assoc,List.cons_append,List.nil_append,List.append_nil],fun i hi=>by simp (config:={ maxSteps:=10000000 }) (disch:=first | assumption | omega | (simp only [O1,N8,N7,M9,F8,Nat.reduceMul,Nat.reduceLT,l9,w9,F3,j6,A8,E8,D8,I5,G9,I9,I8,H7,o9,D5,G8,Nat.reduceAdd,D7,E9,Nat.reduceBEq,G5,F9,d9,j5,l6,z8,D9,F7,F5,F4,G6,C8,q9,A9,q8,l8,l7,E5,C9,G7,IntKind.bits,D6,r9,o7] <;> omega) | assumption) only [F6]⟩
theorem d2w (N:Nat) (call Y2 call3:o8) (X:Ins) (tv lv:Value) (a b:Nat) (hA:X.A=.ofNat a) (hB:X.B=.ofNat b) (ha:a<4294967296) (hb:b<4294967296)
 (c:Nat) (h:Trie VObj) (h34:∀ hh,(∀ b,b<c→hh.get b=h.get b)→∃ z:List Nat→List Nat, ∀ r w,go (call 34 [I7 X tv lv]) ⟨c+1,hh,r,w⟩=some (.ret (.bool true),⟨c+1,hh,z r,w⟩))
 (C:Calls12 N call Y2 call3 X 10)
 (Ht:Q6 c h tv (P6 X.types)) (Hl:Q6 c h lv (P6 X.labels)) (r w:List Nat) :
 H6 (go (a0c H8 N call (I7 X tv lv)) ⟨c,h,r,w⟩) fun x s=>x=.ret (.string ⟨⟨M4 (V4 X.op) (a4A a b)⟩⟩)∧∀ i,i<c→s.h.get i=h.get i:=by
 obtain ⟨z,h34'⟩:=h34 (upd h c (.cells [(.int .i64 X.op, 0),(.int .i64 X.A, 0),(.int .i64 X.B, 0),(.int .u64 (Int.ofNat X.N), 0),(.int .i64 X.k, 0),(.int .i64 X.v, 0),(.int .i64 X.i, 0),(tv, 0),(lv, 0)] 0 false)) (fun b hb=>F6 (by omega))
 obtain ⟨h35,h39,h36,h36',h37c,h37,h37',h38,h44,h96⟩:=C
 obtain ⟨ta,te,rfl,_⟩:=id Ht
 obtain ⟨la,le,rfl,_⟩:=id Hl
 have q5:=h37 b (by omega)
 simp only [I7,hA,hB,  List.length_map] at h34'
 have nl:=X9 X.op
 have l1:=Y6 a (by omega)
 have l2:=Y6 b (by omega)
 have q1:=h37 a (by omega)
 have q2:=h37' b (by omega)
 have q3:=h37' a (by omega)
 have q4:=h37c a (by omega)
 cases hy:a.beq 0 with
 | true=>
   cases hz:b.beq 0 with
   | true=>
     simp (config:={ maxSteps:=10000000 }) (disch:=first | assumption | omega | (simp only [O1,N8,N7,M9,F8,Nat.reduceMul,Nat.reduceLT,l9,w9,F3,j6,A8,E8,D8,I5,G9,I9,I8,H7,o9,D5,G8,Nat.reduceAdd,D7,E9,Nat.reduceBEq,G5,F9,d9,j5,l6,z8,D9,F7,F5,F4,G6,C8,q9,A9,q8,l8,l7,E5,C9,G7,IntKind.bits,D6,r9,o7] <;> omega) | assumption) only [a0c,a2j,a2g,a1Z,a2e,a2i,a2a,a2d,a2c,a2b,a2h,a0O,a0X,a1t,a0N,a0Y,a1m,a1b,a0V,a1C,a1l,a1s,a1g,a1A,a1i,a1q,a1h,a1j,a0U,a1z,a1F,a0K,a1w,a1p,a1D,a0J,a1c,a1k,a1y,a1f,a0L,a0S,a0M,a0T,a1x,a0Z,a1B,a0W,a1o,a1e,a1n,a1v,Z9,a0R,a0a,a1u,Z8,a0Q,Z7,a0P,Z6,a1E,a0b,a1r,a2J,a2F,I7,hA,hB,List.length_map,h34',h35,h39,h38,h44,h96,hy,hz,decide_true,J3,J2,V9,F7,F5,F4,G9,I5,U4,H9,Z4,X5,Y7,V3,a0r,bn,un,U0,V5,U6,a1P,J6,I4,K3,J4,U3,P7,P9,r9,o7,a1X,J3,J2,X4,Y3,a4h,M6,K6,V.e1g,Q9,P8,a0v,R7,Q7,a0l,d9,j5,l6,T9,R9,U9,P5,O5,l9,w9,j6,H7,M7,M8,Q8,Y5,a0D,R8,K8,M5,V8,H9,I6,F6,K9,M0,O6,S9,J5,J7,G8,Nat.add_zero,U5,Q0,R3]
     exact H6.done ⟨by simp only [a4A,J3,H7,hy,hz,  N9,List.append_nil],fun i hi=>by simp (config:={ maxSteps:=10000000 }) (disch:=first | assumption | omega | (simp only [O1,N8,N7,M9,F8,Nat.reduceMul,Nat.reduceLT,l9,w9,F3,j6,A8,E8,D8,I5,G9,I9,I8,H7,o9,D5,G8,Nat.reduceAdd,D7,E9,Nat.reduceBEq,G5,F9,d9,j5,l6,z8,D9,F7,F5,F4,G6,C8,q9,A9,q8,l8,l7,E5,C9,G7,IntKind.bits,D6,r9,o7] <;> omega) | assumption) only [F6]⟩
   | false=>
     simp (config:={ maxSteps:=10000000 }) (disch:=first | assumption | omega | (simp only [O1,N8,N7,M9,F8,Nat.reduceMul,Nat.reduceLT,l9,w9,F3,j6,A8,E8,D8,I5,G9,I9,I8,H7,o9,D5,G8,Nat.reduceAdd,D7,E9,Nat.reduceBEq,G5,F9,d9,j5,l6,z8,D9,F7,F5,F4,G6,C8,q9,A9,q8,l8,l7,E5,C9,G7,IntKind.bits,D6,r9,o7] <;> omega) | assumption) only [a0c,a2j,a2g,a1Z,a2e,a2i,a2a,a2d,a2c,a2b,a2h,a0O,a0X,a1t,a0N,a0Y,a1m,a1b,a0V,a1C,a1l,a1s,a1g,a1A,a1i,a1q,a1h,a1j,a0U,a1z,a1F,a0K,a1w,a1p,a1D,a0J,a1c,a1k,a1y,a1f,a0L,a0S,a0M,a0T,a1x,a0Z,a1B,a0W,a1o,a1e,a1n,a1v,Z9,a0R,a0a,a1u,Z8,a0Q,Z7,a0P,Z6,a1E,a0b,a1r,a3V,a2u,a4b,a2v,a2J,a2F,I7,hA,hB,List.length_map,h34',h35,h39,h36,h38,h44,h96,q1,q5,hy,hz,decide_true,J3,J2,V9,F7,F5,F4,G9,I5,U4,o9,D5,H9,Nat.reduceMul,ap9,a0u,a0s,a1L,a1K,Z4,X5,Y7,V3,X3,a0r,bn,un,U0,V5,U6,a1P,J6,I4,K3,J4,U3,P7,P9,r9,o7,a1X,J3,J2,X4,Y3,a4h,M6,K6,V.e1g,Q9,R5,P8,a0v,R7,Q7,a0l,d9,j5,l6,T9,R9,U9,P5,O5,l9,w9,j6,H7,M7,M8,Q8,Y5,a0D,R8,K8,M5,V8,H9,I6,F6,K9,M0,O6,S9,J5,J7,G8,Nat.add_zero,Nat.reduceAdd,U5,Q0,R3,a0q,V7]
     exact H6.done ⟨by simp only [X8,a4A,J2,Bool.and_false,hy,hz,  N9,List.cons_append,List.append_nil],fun i hi=>by simp (config:={ maxSteps:=10000000 }) (disch:=first | assumption | omega | (simp only [O1,N8,N7,M9,F8,Nat.reduceMul,Nat.reduceLT,l9,w9,F3,j6,A8,E8,D8,I5,G9,I9,I8,H7,o9,D5,G8,Nat.reduceAdd,D7,E9,Nat.reduceBEq,G5,F9,d9,j5,l6,z8,D9,F7,F5,F4,G6,C8,q9,A9,q8,l8,l7,E5,C9,G7,IntKind.bits,D6,r9,o7] <;> omega) | assumption) only [F6]⟩
 | false=>
   cases hz:b.beq 0 with
   | true=>
     simp (config:={ maxSteps:=10000000 }) (disch:=first | assumption | omega | (simp only [O1,N8,N7,M9,F8,Nat.reduceMul,Nat.reduceLT,l9,w9,F3,j6,A8,E8,D8,I5,G9,I9,I8,H7,o9,D5,G8,Nat.reduceAdd,D7,E9,Nat.reduceBEq,G5,F9,d9,j5,l6,z8,D9,F7,F5,F4,G6,C8,q9,A9,q8,l8,l7,E5,C9,G7,IntKind.bits,D6,r9,o7] <;> omega) | assumption) only [a0c,a2j,a2g,a1Z,a2e,a2i,a2a,a2d,a2c,a2b,a2h,a0O,a0X,a1t,a0N,a0Y,a1m,a1b,a0V,a1C,a1l,a1s,a1g,a1A,a1i,a1q,a1h,a1j,a0U,a1z,a1F,a0K,a1w,a1p,a1D,a0J,a1c,a1k,a1y,a1f,a0L,a0S,a0M,a0T,a1x,a0Z,a1B,a0W,a1o,a1e,a1n,a1v,Z9,a0R,a0a,a1u,Z8,a0Q,Z7,a0P,Z6,a1E,a0b,a1r,a3V,a2u,a4b,a2v,a2J,a2F,I7,hA,hB,List.length_map,h34',h35,h39,h36,h38,h44,h96,q1,q5,hy,decide_true,J3,J2,V9,F7,F5,F4,G9,I5,U4,o9,D5,H9,Nat.reduceMul,ap9,a0u,a0s,a1L,a1K,Z4,X5,Y7,V3,X3,a0r,bn,un,U0,V5,U6,a1P,J6,I4,K3,J4,U3,P7,P9,r9,o7,a1X,J3,J2,X4,Y3,a6j,M6,K6,V.e1g,Q9,R5,P8,a0v,R7,Q7,a0l,d9,j5,l6,T9,R9,U9,P5,O5,l9,w9,j6,H7,M7,M8,Q8,Y5,a0D,R8,K8,M5,V8,H9,I6,F6,K9,M0,O6,S9,J5,J7,G8,Nat.add_zero,Nat.reduceAdd,U5,Q0,R3,a0q,V7]
     exact H6.done ⟨by simp only [X8,a4A,J2,I9,hy,hz,  N9,List.cons_append,List.append_nil],fun i hi=>by simp (config:={ maxSteps:=10000000 }) (disch:=first | assumption | omega | (simp only [O1,N8,N7,M9,F8,Nat.reduceMul,Nat.reduceLT,l9,w9,F3,j6,A8,E8,D8,I5,G9,I9,I8,H7,o9,D5,G8,Nat.reduceAdd,D7,E9,Nat.reduceBEq,G5,F9,d9,j5,l6,z8,D9,F7,F5,F4,G6,C8,q9,A9,q8,l8,l7,E5,C9,G7,IntKind.bits,D6,r9,o7] <;> omega) | assumption) only [F6]⟩
   | false=>
     simp (config:={ maxSteps:=10000000 }) (disch:=first | assumption | omega | (simp only [O1,N8,N7,M9,F8,Nat.reduceMul,Nat.reduceLT,l9,w9,F3,j6,A8,E8,D8,I5,G9,I9,I8,H7,o9,D5,G8,Nat.reduceAdd,D7,E9,Nat.reduceBEq,G5,F9,d9,j5,l6,z8,D9,F7,F5,F4,G6,C8,q9,A9,q8,l8,l7,E5,C9,G7,IntKind.bits,D6,r9,o7] <;> omega) | assumption) only [a0c,a2j,a2g,a1Z,a2e,a2i,a2a,a2d,a2c,a2b,a2h,a0O,a0X,a1t,a0N,a0Y,a1m,a1b,a0V,a1C,a1l,a1s,a1g,a1A,a1i,a1q,a1h,a1j,a0U,a1z,a1F,a0K,a1w,a1p,a1D,a0J,a1c,a1k,a1y,a1f,a0L,a0S,a0M,a0T,a1x,a0Z,a1B,a0W,a1o,a1e,a1n,a1v,Z9,a0R,a0a,a1u,Z8,a0Q,Z7,a0P,Z6,a1E,a0b,a1r,a3V,a2u,a4b,a2v,a2J,a2F,I7,hA,hB,List.length_map,h34',h35,h39,h36,h38,h44,h96,q1,q5,hy,decide_true,J3,J2,V9,F7,F5,F4,G9,I5,U4,o9,D5,H9,Nat.reduceMul,ap9,a0u,a0s,a1L,a1K,Z4,X5,Y7,V3,X3,a0r,bn,un,U0,V5,U6,a1P,J6,I4,K3,J4,U3,P7,P9,r9,o7,a1X,J3,J2,X4,Y3,a6j,M6,K6,V.e1g,Q9,R5,P8,a0v,R7,Q7,a0l,d9,j5,l6,T9,R9,U9,P5,O5,l9,w9,j6,H7,M7,M8,Q8,Y5,a0D,R8,K8,M5,V8,H9,I6,F6,K9,M0,O6,S9,J5,J7,G8,Nat.add_zero,Nat.reduceAdd,U5,Q0,R3,a0q,V7]
     exact H6.done ⟨by simp only [X8,a4A,J2,H7,hy,hz,  N9,List.cons_append,List.append_nil],fun i hi=>by simp (config:={ maxSteps:=10000000 }) (disch:=first | assumption | omega | (simp only [O1,N8,N7,M9,F8,Nat.reduceMul,Nat.reduceLT,l9,w9,F3,j6,A8,E8,D8,I5,G9,I9,I8,H7,o9,D5,G8,Nat.reduceAdd,D7,E9,Nat.reduceBEq,G5,F9,d9,j5,l6,z8,D9,F7,F5,F4,G6,C8,q9,A9,q8,l8,l7,E5,C9,G7,IntKind.bits,D6,r9,o7] <;> omega) | assumption) only [F6]⟩
theorem d0B (N:Nat) (call Y2 call3:o8) (X:Ins) (tv lv:Value) (a b:Nat) (hA:X.A=.ofNat a) (hB:X.B=.ofNat b) (ha:a<4294967296) (hb:b<4294967296) (h42:call 42 [.int .u64 (.ofNat X.N),.int .i64 (.ofNat 32)]=M.pure (.ret (.string ⟨⟨Lib.itoa (sgn 32 X.N)⟩⟩))) (hl:L9 (Lib.itoa (sgn 32 X.N))≤30)
 (c:Nat) (h:Trie VObj) (h34:∀ hh,(∀ b,b<c→hh.get b=h.get b)→∃ z:List Nat→List Nat, ∀ r w,go (call 34 [I7 X tv lv]) ⟨c+1,hh,r,w⟩=some (.ret (.bool true),⟨c+1,hh,z r,w⟩))
 (C:Calls12 N call Y2 call3 X 18)
 (Ht:Q6 c h tv (P6 X.types)) (Hl:Q6 c h lv (P6 X.labels)) (r w:List Nat) :
 H6 (go (a0c H8 N call (I7 X tv lv)) ⟨c,h,r,w⟩) fun x s=>x=.ret (.string ⟨⟨M4 (V4 X.op) (32::Lib.itoa (sgn 32 X.N))⟩⟩)∧∀ i,i<c→s.h.get i=h.get i:=by
 obtain ⟨z,h34'⟩:=h34 (upd h c (.cells [(.int .i64 X.op, 0),(.int .i64 X.A, 0),(.int .i64 X.B, 0),(.int .u64 (Int.ofNat X.N), 0),(.int .i64 X.k, 0),(.int .i64 X.v, 0),(.int .i64 X.i, 0),(tv, 0),(lv, 0)] 0 false)) (fun b hb=>F6 (by omega))
 obtain ⟨h35,h39,h36,h36',h37c,h37,h37',h38,h44,h96⟩:=C
 obtain ⟨ta,te,rfl,_⟩:=id Ht
 obtain ⟨la,le,rfl,_⟩:=id Hl
 simp only [I7,hA,hB,List.length_map] at h34'
 have nl:=X9 X.op
 have l1:=Y6 a (by omega)
 have l2:=Y6 b (by omega)
 have q1:=h37 a (by omega)
 have q2:=h37' b (by omega)
 have q3:=h37' a (by omega)
 have q4:=h37c a (by omega)
 simp (config:={ maxSteps:=10000000 }) (disch:=first | assumption | omega | (simp only [O1,N8,N7,M9,F8,Nat.reduceMul,Nat.reduceLT,l9,w9,F3,j6,A8,E8,D8,I5,G9,I9,I8,H7,o9,D5,G8,Nat.reduceAdd,D7,E9,Nat.reduceBEq,G5,F9,d9,j5,l6,z8,D9,F7,F5,F4,G6,C8,q9,A9,q8,l8,l7,E5,C9,G7,IntKind.bits,D6,r9,o7] <;> omega) | assumption) only [a0c,a2j,a2g,a1Z,a2e,a2i,a2a,a2d,a2c,a2b,a2h,a0O,a0X,a1t,a0N,a0Y,a1m,a1b,a0V,a1C,a1l,a1s,a1g,a1A,a1i,a1q,a1h,a1j,a0U,a1z,a1F,a0K,a1w,a1p,a1D,a0J,a1c,a1k,a1y,a1f,a0L,a0S,a0M,a0T,a1x,a0Z,a1B,a0W,a1o,a1e,a1n,a1v,Z9,a0R,a0a,a1u,Z8,a0Q,Z7,a0P,c4g,Z6,a1E,a0b,a1r,a2J,a2F,I7,hA,hB,List.length_map,h34',h35,h39,h38,h44,h96,h42,  decide_true,J3,J2,V9,F7,F5,F4,G9,U4,o9,D5,H9,Nat.reduceMul,ap9,a0u,a0s,a1L,a1K,Z4,X5,Y7,V3,X3,a0r,bn,un,U0,V5,U6,a1P,J6,I4,K3,J4,U3,P7,P9,r9,o7,J3,J2,X4,Y3,M6,K6,V.e1g,Q9,R5,P8,R7,Q7,a0l,d9,j5,l6,T9,R9,U9,P5,O5,l9,w9,j6,H7,M7,M8,Q8,Y5,a0D,R8,K8,M5,V8,H9,I6,F6,K9,M0,O6,S9,J5,J7,G8,Nat.add_zero,Nat.reduceAdd,U5,Q0,R3,a0q,V7]
 exact H6.done ⟨by simp only [N9,List.append_nil],fun i hi=>by simp (config:={ maxSteps:=10000000 }) (disch:=first | assumption | omega | (simp only [O1,N8,N7,M9,F8,Nat.reduceMul,Nat.reduceLT,l9,w9,F3,j6,A8,E8,D8,I5,G9,I9,I8,H7,o9,D5,G8,Nat.reduceAdd,D7,E9,Nat.reduceBEq,G5,F9,d9,j5,l6,z8,D9,F7,F5,F4,G6,C8,q9,A9,q8,l8,l7,E5,C9,G7,IntKind.bits,D6,r9,o7] <;> omega) | assumption) only [F6]⟩
theorem d0A (N:Nat) (call Y2 call3:o8) (X:Ins) (tv lv:Value) (a b:Nat) (hA:X.A=.ofNat a) (hB:X.B=.ofNat b) (ha:a<4294967296) (hb:b<4294967296) (h42:call 42 [.int .u64 (.ofNat X.N),.int .i64 (.ofNat 64)]=M.pure (.ret (.string ⟨⟨Lib.itoa (sgn 64 X.N)⟩⟩))) (hl:L9 (Lib.itoa (sgn 64 X.N))≤30)
 (c:Nat) (h:Trie VObj) (h34:∀ hh,(∀ b,b<c→hh.get b=h.get b)→∃ z:List Nat→List Nat, ∀ r w,go (call 34 [I7 X tv lv]) ⟨c+1,hh,r,w⟩=some (.ret (.bool true),⟨c+1,hh,z r,w⟩))
 (C:Calls12 N call Y2 call3 X 19)
 (Ht:Q6 c h tv (P6 X.types)) (Hl:Q6 c h lv (P6 X.labels)) (r w:List Nat) :
 H6 (go (a0c H8 N call (I7 X tv lv)) ⟨c,h,r,w⟩) fun x s=>x=.ret (.string ⟨⟨M4 (V4 X.op) (32::Lib.itoa (sgn 64 X.N))⟩⟩)∧∀ i,i<c→s.h.get i=h.get i:=by
 obtain ⟨z,h34'⟩:=h34 (upd h c (.cells [(.int .i64 X.op, 0),(.int .i64 X.A, 0),(.int .i64 X.B, 0),(.int .u64 (Int.ofNat X.N), 0),(.int .i64 X.k, 0),(.int .i64 X.v, 0),(.int .i64 X.i, 0),(tv, 0),(lv, 0)] 0 false)) (fun b hb=>F6 (by omega))
 obtain ⟨h35,h39,h36,h36',h37c,h37,h37',h38,h44,h96⟩:=C
 obtain ⟨ta,te,rfl,_⟩:=id Ht
 obtain ⟨la,le,rfl,_⟩:=id Hl
 simp only [I7,hA,hB,List.length_map] at h34'
 have nl:=X9 X.op
 have l1:=Y6 a (by omega)
 have l2:=Y6 b (by omega)
 have q1:=h37 a (by omega)
 have q2:=h37' b (by omega)
 have q3:=h37' a (by omega)
 have q4:=h37c a (by omega)
 simp (config:={ maxSteps:=10000000 }) (disch:=first | assumption | omega | (simp only [O1,N8,N7,M9,F8,Nat.reduceMul,Nat.reduceLT,l9,w9,F3,j6,A8,E8,D8,I5,G9,I9,I8,H7,o9,D5,G8,Nat.reduceAdd,D7,E9,Nat.reduceBEq,G5,F9,d9,j5,l6,z8,D9,F7,F5,F4,G6,C8,q9,A9,q8,l8,l7,E5,C9,G7,IntKind.bits,D6,r9,o7] <;> omega) | assumption) only [a0c,a2j,a2g,a1Z,a2e,a2i,a2a,a2d,a2c,a2b,a2h,a0O,a0X,a1t,a0N,a0Y,a1m,a1b,a0V,a1C,a1l,a1s,a1g,a1A,a1i,a1q,a1h,a1j,a0U,a1z,a1F,a0K,a1w,a1p,a1D,a0J,a1c,a1k,a1y,a1f,a0L,a0S,a0M,a0T,a1x,a0Z,a1B,a0W,a1o,a1e,a1n,a1v,Z9,a0R,a0a,a1u,Z8,a0Q,Z7,a0P,Z6,a1E,c3q,a0b,a1r,a2J,a2F,I7,hA,hB,List.length_map,h34',h35,h39,h38,h44,h96,h42,  decide_true,J3,J2,V9,F7,F5,F4,G9,U4,o9,D5,H9,Nat.reduceMul,ap9,a0u,a0s,a1L,a1K,Z4,X5,Y7,V3,X3,a0r,bn,un,U0,V5,U6,a1P,J6,I4,K3,J4,U3,P7,P9,r9,o7,J3,J2,X4,Y3,M6,K6,V.e1g,Q9,R5,P8,R7,Q7,a0l,d9,j5,l6,T9,R9,U9,P5,O5,l9,w9,j6,H7,M7,M8,Q8,Y5,a0D,R8,K8,M5,V8,H9,I6,F6,K9,M0,O6,S9,J5,J7,G8,Nat.add_zero,Nat.reduceAdd,U5,Q0,R3,a0q,V7]
 exact H6.done ⟨by simp only [N9,List.append_nil],fun i hi=>by simp (config:={ maxSteps:=10000000 }) (disch:=first | assumption | omega | (simp only [O1,N8,N7,M9,F8,Nat.reduceMul,Nat.reduceLT,l9,w9,F3,j6,A8,E8,D8,I5,G9,I9,I8,H7,o9,D5,G8,Nat.reduceAdd,D7,E9,Nat.reduceBEq,G5,F9,d9,j5,l6,z8,D9,F7,F5,F4,G6,C8,q9,A9,q8,l8,l7,E5,C9,G7,IntKind.bits,D6,r9,o7] <;> omega) | assumption) only [F6]⟩
end Go.Proofs.YtmomonnlmbljoaaGreatDoor
end
