import Derived.Test.YtmomonnlmbljoaaGreatDoorPbh
section
namespace Go.Proofs.YtmomonnlmbljoaaGreatDoor
open Go.V Go.RowKit Go.Shelf Go.Proofs
set_option maxRecDepth 1000000
set_option maxHeartbeats 4000000
set_option linter.unusedVariables false
attribute [local congr] U8 U7 Y8 Z0 a0i a0h a1V
variable {mL:Int}
theorem d6D (N:Nat) (call Y2 call3:o8) (X:Ins) (tv lv:Value) (a b:Nat) (hA:X.A=.ofNat a) (hB:X.B=.ofNat b) (ha:a<4294967296) (hb:b<4294967296) (t:Int) (ht:X.types=[t]) (h40:∀ n,call 40 [.int .i64 n]=M.pure (.ret (.string ⟨⟨a1Q n⟩⟩)))
 (c:Nat) (h:Trie VObj) (h34:∀ hh,(∀ b,b<c→hh.get b=h.get b)→∃ z:List Nat→List Nat, ∀ r w,go (call 34 [I7 X tv lv]) ⟨c+1,hh,r,w⟩=some (.ret (.bool true),⟨c+1,hh,z r,w⟩))
 (C:Calls12 N call Y2 call3 X 6)
 (Ht:Q6 c h tv (P6 X.types)) (Hl:Q6 c h lv (P6 X.labels)) (r w:List Nat) :
 H6 (go (a0c H8 N call (I7 X tv lv)) ⟨c,h,r,w⟩) fun x s=>x=.ret (.string ⟨⟨M4 (V4 X.op) (M4 [32, 40, 114, 101, 115, 117, 108, 116, 32] (M4 (a1Q t) [41]))⟩⟩)∧∀ i,i<c→s.h.get i=h.get i:=by
 obtain ⟨z,h34'⟩:=h34 (upd h c (.cells [(.int .i64 X.op, 0),(.int .i64 X.A, 0),(.int .i64 X.B, 0),(.int .u64 (Int.ofNat X.N), 0),(.int .i64 X.k, 0),(.int .i64 X.v, 0),(.int .i64 X.i, 0),(tv, 0),(lv, 0)] 0 false)) (fun b hb=>F6 (by omega))
 obtain ⟨b0,o0,g0,cs0,cur0,ro0,e0,hb0,hg0,ht0⟩:=Ht.get (i:=0) (x:=.int .i64 t) (by rw [ht]; rfl)
 rw [Nat.add_zero] at ht0
 have q7:=a6n t
 have hlen:X.types.length=1:=by rw [ht]; rfl
 obtain ⟨h35,h39,h36,h36',h37c,h37,h37',h38,h44,h96⟩:=C
 obtain ⟨ta,te,rfl,_⟩:=id Ht
 obtain ⟨la,le,rfl,_⟩:=id Hl
 cases e0
 simp only [I7,hA,hB,hlen,List.length_map] at h34'
 have nl:=X9 X.op
 have l1:=Y6 a (by omega)
 have l2:=Y6 b (by omega)
 have q1:=h37 a (by omega)
 have q2:=h37' b (by omega)
 have q3:=h37' a (by omega)
 have q4:=h37c a (by omega)
 simp (config:={ maxSteps:=10000000 }) (disch:=first | assumption | omega | (simp only [O1,N8,N7,M9,F8,Nat.reduceMul,Nat.reduceLT,l9,w9,F3,j6,A8,E8,D8,I5,G9,I9,I8,H7,o9,D5,G8,Nat.reduceAdd,D7,E9,Nat.reduceBEq,G5,F9,d9,j5,l6,z8,D9,F7,F5,F4,G6,C8,q9,A9,q8,l8,l7,E5,C9,G7,IntKind.bits,D6,r9,o7] <;> omega) | assumption) only [a0c,a2j,a2g,a1Z,a2e,a2i,a2a,a2d,a2c,a2b,a2h,a0O,a0X,a1t,a0N,a0Y,a1m,a1b,a0V,a1C,a1l,a1s,a1g,a1A,a1i,a1q,a1h,a1j,a0U,a1z,a1F,a0K,a1w,a1p,a1D,a0J,a1c,a1k,a1y,a1f,a0L,a0S,a0M,a0T,a1x,a0Z,a1B,a0W,a1o,a1e,a1n,a1v,Z9,a0R,a0a,a1u,c4y,Z8,a0Q,Z7,a0P,Z6,a1E,a0b,a1r,a2J,a2F,I7,hA,hB,List.length_map,h34',h35,h39,h38,h44,h96,h40,hg0,ht0,hlen,a6S,  decide_true,J3,J2,V9,F7,F5,F4,G9,U4,o9,D5,H9,Nat.reduceMul,ap9,a0u,a0s,a1L,a1K,Z4,X5,Y7,V3,X3,a0r,bn,un,U0,V5,U6,a1P,J6,I4,K3,J4,U3,P7,P9,r9,o7,J3,J2,X4,Y3,M6,K6,V.e1g,Q9,R5,P8,R7,X7,Q7,a0l,a6S,d9,j5,l6,T9,R9,U9,P5,O5,l9,w9,j6,H7,M7,M8,Q8,Y5,a0D,R8,K8,M5,V8,H9,I6,F6,K9,M0,O6,S9,J5,J7,G8,Nat.add_zero,Nat.reduceAdd,U5,Q0,R3,a0q,V7]
 exact H6.done ⟨by simp only [N9,List.append_nil],fun i hi=>by simp (config:={ maxSteps:=10000000 }) (disch:=first | assumption | omega | (simp only [O1,N8,N7,M9,F8,Nat.reduceMul,Nat.reduceLT,l9,w9,F3,j6,A8,E8,D8,I5,G9,I9,I8,H7,o9,D5,G8,Nat.reduceAdd,D7,E9,Nat.reduceBEq,G5,F9,d9,j5,l6,z8,D9,F7,F5,F4,G6,C8,q9,A9,q8,l8,l7,E5,C9,G7,IntKind.bits,D6,r9,o7] <;> omega) | assumption) only [F6]⟩
theorem d4Z (N:Nat) (call Y2 call3:o8) (X:Ins) (tv lv:Value) (a b:Nat) (hA:X.A=.ofNat a) (hB:X.B=.ofNat b) (ha:a<4294967296) (hb:b<4294967296) (hs:L9 (a5H X.k X.v X.i)≤30) (hk:(beqBytes (a5H X.k X.v X.i) [])=decide (X.k=0)) (h14:call 14 [.agg ⟨[.int .i64 X.k,.int .i64 X.v,.int .i64 X.i]⟩]=M.pure (.ret (.string ⟨⟨a5H X.k X.v X.i⟩⟩)))
 (c:Nat) (h:Trie VObj) (h34:∀ hh,(∀ b,b<c→hh.get b=h.get b)→∃ z:List Nat→List Nat, ∀ r w,go (call 34 [I7 X tv lv]) ⟨c+1,hh,r,w⟩=some (.ret (.bool true),⟨c+1,hh,z r,w⟩))
 (C:Calls12 N call Y2 call3 X 1)
 (Ht:Q6 c h tv (P6 X.types)) (Hl:Q6 c h lv (P6 X.labels)) (r w:List Nat) :
 H6 (go (a0c H8 N call (I7 X tv lv)) ⟨c,h,r,w⟩) fun x s=>x=.ret (.string ⟨⟨M4 (V4 X.op) (bcase (decide (X.k=0)) [] (32::a5H X.k X.v X.i))⟩⟩)∧∀ i,i<c→s.h.get i=h.get i:=by
 obtain ⟨z,h34'⟩:=h34 (upd h c (.cells [(.int .i64 X.op, 0),(.int .i64 X.A, 0),(.int .i64 X.B, 0),(.int .u64 (Int.ofNat X.N), 0),(.int .i64 X.k, 0),(.int .i64 X.v, 0),(.int .i64 X.i, 0),(tv, 0),(lv, 0)] 0 false)) (fun b hb=>F6 (by omega))
 obtain ⟨h35,h39,h36,h36',h37c,h37,h37',h38,h44,h96⟩:=C
 obtain ⟨ta,te,rfl,_⟩:=id Ht
 obtain ⟨la,le,rfl,_⟩:=id Hl
 simp only [I7,hA,hB,List.length_map] at h34'
 have nl:=X9 X.op
 have l1:=Y6 a (by omega)
 have l2:=Y6 b (by omega)
 have q1:=h37 a (by omega)
 have q2:=h37' b (by omega)
 have q3:=h37' a (by omega)
 have q4:=h37c a (by omega)
 cases hz:decide (X.k=0) with
 | true=>
   simp (config:={ maxSteps:=10000000 }) (disch:=first | assumption | omega | (simp only [O1,N8,N7,M9,F8,Nat.reduceMul,Nat.reduceLT,l9,w9,F3,j6,A8,E8,D8,I5,G9,I9,I8,H7,o9,D5,G8,Nat.reduceAdd,D7,E9,Nat.reduceBEq,G5,F9,d9,j5,l6,z8,D9,F7,F5,F4,G6,C8,q9,A9,q8,l8,l7,E5,C9,G7,IntKind.bits,D6,r9,o7] <;> omega) | assumption) only [a0c,a2j,a2g,a1Z,a2e,a2i,a2a,a2d,a2c,a2b,a2h,a0O,a0X,a1t,a0N,a0Y,a1m,a1b,a0V,a1C,a1l,a1s,a1g,a1A,a1i,a1q,a1h,a1j,a0U,a1z,a1F,a0K,a1w,a1p,a1D,a0J,a1c,a1k,a1y,a1f,a0L,a0S,a0M,a0T,a1x,a0Z,a1B,a0W,a1o,a1e,a1n,a1v,Z9,a0R,a0a,a1u,Z8,a0Q,Z7,a0P,Z6,a1E,a0b,a1r,a2J,a2F,I7,hA,hB,List.length_map,h34',h35,h39,h38,h44,h96,h14,hk,hz,decide_true,J3,J2,V9,F5,F4,G9,U4,H9,Z4,X5,Y7,V3,a0r,bn,un,U0,V5,U6,a1P,J6,I4,K3,J4,U3,P7,P9,r9,o7,J3,J2,X4,Y3,M6,K6,V.e1g,Q9,P8,R7,a8u,Q7,a0l,d9,j5,l6,T9,R9,U9,P5,O5,l9,w9,j6,H7,M7,M8,Q8,Y5,a0D,R8,K8,M5,V8,H9,I6,F6,K9,M0,O6,S9,J5,J7,G8,Nat.add_zero,U5,Q0,R3]
   exact H6.done ⟨by simp only [N9,List.append_nil],fun i hi=>by simp (config:={ maxSteps:=10000000 }) (disch:=first | assumption | omega | (simp only [O1,N8,N7,M9,F8,Nat.reduceMul,Nat.reduceLT,l9,w9,F3,j6,A8,E8,D8,I5,G9,I9,I8,H7,o9,D5,G8,Nat.reduceAdd,D7,E9,Nat.reduceBEq,G5,F9,d9,j5,l6,z8,D9,F7,F5,F4,G6,C8,q9,A9,q8,l8,l7,E5,C9,G7,IntKind.bits,D6,r9,o7] <;> omega) | assumption) only [F6]⟩
 | false=>
   simp (config:={ maxSteps:=10000000 }) (disch:=first | assumption | omega | (simp only [O1,N8,N7,M9,F8,Nat.reduceMul,Nat.reduceLT,l9,w9,F3,j6,A8,E8,D8,I5,G9,I9,I8,H7,o9,D5,G8,Nat.reduceAdd,D7,E9,Nat.reduceBEq,G5,F9,d9,j5,l6,z8,D9,F7,F5,F4,G6,C8,q9,A9,q8,l8,l7,E5,C9,G7,IntKind.bits,D6,r9,o7] <;> omega) | assumption) only [a0c,a2j,a2g,a1Z,a2e,a2i,a2a,a2d,a2c,a2b,a2h,a0O,a0X,a1t,a0N,a0Y,a1m,a1b,a0V,a1C,a1l,a1s,a1g,a1A,a1i,a1q,a1h,a1j,a0U,a1z,a1F,a0K,a1w,a1p,a1D,a0J,a1c,a1k,a1y,a1f,a0L,a0S,a0M,a0T,a1x,a0Z,a1B,a0W,a1o,a1e,a1n,a1v,Z9,a0R,a0a,a1u,Z8,a0Q,Z7,a0P,Z6,a1E,a0b,a1r,a2J,a2F,I7,hA,hB,List.length_map,h34',h35,h39,h38,h44,h96,h14,hk,hz,decide_true,J3,J2,V9,F5,F4,G9,I5,U4,o9,D5,H9,Nat.reduceMul,ap9,a0u,a0s,a1L,a1K,Z4,X5,Y7,V3,X3,a0r,bn,un,U0,V5,U6,a1P,J6,I4,K3,J4,U3,P7,P9,r9,o7,J3,J2,X4,Y3,M6,K6,V.e1g,Q9,P8,R7,a8u,Q7,a0l,d9,j5,l6,T9,R9,U9,P5,O5,l9,w9,j6,H7,M7,M8,Q8,Y5,a0D,R8,K8,M5,V8,H9,I6,F6,K9,M0,O6,S9,J5,J7,G8,Nat.add_zero,Nat.reduceAdd,U5,Q0,R3]
   exact H6.done ⟨by simp only [N9,List.append_nil],fun i hi=>by simp (config:={ maxSteps:=10000000 }) (disch:=first | assumption | omega | (simp only [O1,N8,N7,M9,F8,Nat.reduceMul,Nat.reduceLT,l9,w9,F3,j6,A8,E8,D8,I5,G9,I9,I8,H7,o9,D5,G8,Nat.reduceAdd,D7,E9,Nat.reduceBEq,G5,F9,d9,j5,l6,z8,D9,F7,F5,F4,G6,C8,q9,A9,q8,l8,l7,E5,C9,G7,IntKind.bits,D6,r9,o7] <;> omega) | assumption) only [F6]⟩
theorem d0k (N:Nat) (call Y2 call3:o8) (X:Ins) (tv lv:Value) (a b:Nat) (hA:X.A=.ofNat a) (hB:X.B=.ofNat b) (ha:a<4294967296) (hb:b<4294967296)
 (c:Nat) (h:Trie VObj) (h34:∀ hh,(∀ b,b<c→hh.get b=h.get b)→∃ z:List Nat→List Nat, ∀ r w,go (call 34 [I7 X tv lv]) ⟨c+1,hh,r,w⟩=some (.ret (.bool true),⟨c+1,hh,z r,w⟩))
 (C:Calls12 N call Y2 call3 X 14)
 (Ht:Q6 c h tv (P6 X.types)) (Hl:Q6 c h lv (P6 X.labels)) (r w:List Nat) :
 H6 (go (a0c H8 N call (I7 X tv lv)) ⟨c,h,r,w⟩) fun x s=>x=.ret (.string ⟨⟨M4 (V4 X.op) (a4A a b)⟩⟩)∧∀ i,i<c→s.h.get i=h.get i:=by
 obtain ⟨z,h34'⟩:=h34 (upd h c (.cells [(.int .i64 X.op, 0),(.int .i64 X.A, 0),(.int .i64 X.B, 0),(.int .u64 (Int.ofNat X.N), 0),(.int .i64 X.k, 0),(.int .i64 X.v, 0),(.int .i64 X.i, 0),(tv, 0),(lv, 0)] 0 false)) (fun b hb=>F6 (by omega))
 obtain ⟨h35,h39,h36,h36',h37c,h37,h37',h38,h44,h96⟩:=C
 obtain ⟨ta,te,rfl,_⟩:=id Ht
 obtain ⟨la,le,rfl,_⟩:=id Hl
 have q5:=h37 b (by omega)
 simp only [I7,hA,hB,  List.length_map] at h34'
 have nl:=X9 X.op
 have l1:=Y6 a (by omega)
 have l2:=Y6 b (by omega)
 have q1:=h37 a (by omega)
 have q2:=h37' b (by omega)
 have q3:=h37' a (by omega)
 have q4:=h37c a (by omega)
 cases hy:a.beq 0 with
 | true=>
   cases hz:b.beq 0 with
   | true=>
     simp (config:={ maxSteps:=10000000 }) (disch:=first | assumption | omega | (simp only [O1,N8,N7,M9,F8,Nat.reduceMul,Nat.reduceLT,l9,w9,F3,j6,A8,E8,D8,I5,G9,I9,I8,H7,o9,D5,G8,Nat.reduceAdd,D7,E9,Nat.reduceBEq,G5,F9,d9,j5,l6,z8,D9,F7,F5,F4,G6,C8,q9,A9,q8,l8,l7,E5,C9,G7,IntKind.bits,D6,r9,o7] <;> omega) | assumption) only [a0c,a2j,a2g,a1Z,a2e,a2i,a2a,a2d,a2c,a2b,a2h,a0O,a0X,a1t,a0N,a0Y,a1m,a1b,a0V,a1C,a1l,a1s,a1g,a1A,a1i,a1q,a1h,a1j,a0U,a1z,a1F,a0K,a1w,a1p,a1D,a0J,a1c,a1k,a1y,a1f,a0L,a0S,a0M,a0T,a1x,a0Z,a1B,a0W,a1o,a1e,a1n,a1v,Z9,a0R,a0a,a1u,Z8,a0Q,Z7,a0P,Z6,a1E,a0b,a1r,a2J,a2F,I7,hA,hB,List.length_map,h34',h35,h39,h38,h44,h96,hy,hz,decide_true,J3,J2,V9,F7,F5,F4,G9,I5,U4,H9,Z4,X5,Y7,V3,a0r,bn,un,U0,V5,U6,a1P,J6,I4,K3,J4,U3,P7,P9,r9,o7,a1X,J3,J2,X4,Y3,a4h,M6,K6,V.e1g,Q9,P8,a0v,R7,Q7,a0l,d9,j5,l6,T9,R9,U9,P5,O5,l9,w9,j6,H7,M7,M8,Q8,Y5,a0D,R8,K8,M5,V8,H9,I6,F6,K9,M0,O6,S9,J5,J7,G8,Nat.add_zero,U5,Q0,R3]
     exact H6.done ⟨by simp only [a4A,J3,H7,hy,hz,  N9,List.append_nil],fun i hi=>by simp (config:={ maxSteps:=10000000 }) (disch:=first | assumption | omega | (simp only [O1,N8,N7,M9,F8,Nat.reduceMul,Nat.reduceLT,l9,w9,F3,j6,A8,E8,D8,I5,G9,I9,I8,H7,o9,D5,G8,Nat.reduceAdd,D7,E9,Nat.reduceBEq,G5,F9,d9,j5,l6,z8,D9,F7,F5,F4,G6,C8,q9,A9,q8,l8,l7,E5,C9,G7,IntKind.bits,D6,r9,o7] <;> omega) | assumption) only [F6]⟩
   | false=>
     simp (config:={ maxSteps:=10000000 }) (disch:=first | assumption | omega | (simp only [O1,N8,N7,M9,F8,Nat.reduceMul,Nat.reduceLT,l9,w9,F3,j6,A8,E8,D8,I5,G9,I9,I8,H7,o9,D5,G8,Nat.reduceAdd,D7,E9,Nat.reduceBEq,G5,F9,d9,j5,l6,z8,D9,F7,F5,F4,G6,C8,q9,A9,q8,l8,l7,E5,C9,G7,IntKind.bits,D6,r9,o7] <;> omega) | assumption) only [a0c,a2j,a2g,a1Z,a2e,a2i,a2a,a2d,a2c,a2b,a2h,a0O,a0X,a1t,a0N,a0Y,a1m,a1b,a0V,a1C,a1l,a1s,a1g,a1A,a1i,a1q,a1h,a1j,a0U,a1z,a1F,a0K,a1w,a1p,a1D,a0J,a1c,a1k,a1y,a1f,a0L,a0S,a0M,a0T,a1x,a0Z,a1B,a0W,a1o,a1e,a1n,a1v,Z9,a0R,a0a,a1u,Z8,a0Q,Z7,a0P,Z6,a1E,a0b,a1r,a3V,a2u,a4b,a2v,a2J,a2F,I7,hA,hB,List.length_map,h34',h35,h39,h36,h38,h44,h96,q1,q5,hy,hz,decide_true,J3,J2,V9,F7,F5,F4,G9,I5,U4,o9,D5,H9,Nat.reduceMul,ap9,a0u,a0s,a1L,a1K,Z4,X5,Y7,V3,X3,a0r,bn,un,U0,V5,U6,a1P,J6,I4,K3,J4,U3,P7,P9,r9,o7,a1X,J3,J2,X4,Y3,a4h,M6,K6,V.e1g,Q9,R5,P8,a0v,R7,Q7,a0l,d9,j5,l6,T9,R9,U9,P5,O5,l9,w9,j6,H7,M7,M8,Q8,Y5,a0D,R8,K8,M5,V8,H9,I6,F6,K9,M0,O6,S9,J5,J7,G8,Nat.add_zero,Nat.reduceAdd,U5,Q0,R3,a0q,V7]
     exact H6.done ⟨by simp only [X8,a4A,J2,Bool.and_false,hy,hz,  N9,List.cons_append,List.append_nil],fun i hi=>by simp (config:={ maxSteps:=10000000 }) (disch:=first | assumption | omega | (simp only [O1,N8,N7,M9,F8,Nat.reduceMul,Nat.reduceLT,l9,w9,F3,j6,A8,E8,D8,I5,G9,I9,I8,H7,o9,D5,G8,Nat.reduceAdd,D7,E9,Nat.reduceBEq,G5,F9,d9,j5,l6,z8,D9,F7,F5,F4,G6,C8,q9,A9,q8,l8,l7,E5,C9,G7,IntKind.bits,D6,r9,o7] <;> omega) | assumption) only [F6]⟩
 | false=>
   cases hz:b.beq 0 with
   | true=>
     simp (config:={ maxSteps:=10000000 }) (disch:=first | assumption | omega | (simp only [O1,N8,N7,M9,F8,Nat.reduceMul,Nat.reduceLT,l9,w9,F3,j6,A8,E8,D8,I5,G9,I9,I8,H7,o9,D5,G8,Nat.reduceAdd,D7,E9,Nat.reduceBEq,G5,F9,d9,j5,l6,z8,D9,F7,F5,F4,G6,C8,q9,A9,q8,l8,l7,E5,C9,G7,IntKind.bits,D6,r9,o7] <;> omega) | assumption) only [a0c,a2j,a2g,a1Z,a2e,a2i,a2a,a2d,a2c,a2b,a2h,a0O,a0X,a1t,a0N,a0Y,a1m,a1b,a0V,a1C,a1l,a1s,a1g,a1A,a1i,a1q,a1h,a1j,a0U,a1z,a1F,a0K,a1w,a1p,a1D,a0J,a1c,a1k,a1y,a1f,a0L,a0S,a0M,a0T,a1x,a0Z,a1B,a0W,a1o,a1e,a1n,a1v,Z9,a0R,a0a,a1u,Z8,a0Q,Z7,a0P,Z6,a1E,a0b,a1r,a3V,a2u,a4b,a2v,a2J,a2F,I7,hA,hB,List.length_map,h34',h35,h39,h36,h38,h44,h96,q1,q5,hy,decide_true,J3,J2,V9,F7,F5,F4,G9,I5,U4,o9,D5,H9,Nat.reduceMul,ap9,a0u,a0s,a1L,a1K,Z4,X5,Y7,V3,X3,a0r,bn,un,U0,V5,U6,a1P,J6,I4,K3,J4,U3,P7,P9,r9,o7,a1X,J3,J2,X4,Y3,a6j,M6,K6,V.e1g,Q9,R5,P8,a0v,R7,Q7,a0l,d9,j5,l6,T9,R9,U9,P5,O5,l9,w9,j6,H7,M7,M8,Q8,Y5,a0D,R8,K8,M5,V8,H9,I6,F6,K9,M0,O6,S9,J5,J7,G8,Nat.add_zero,Nat.reduceAdd,U5,Q0,R3,a0q,V7]
     exact H6.done ⟨by simp only [X8,a4A,J2,I9,hy,hz,  N9,List.cons_append,List.append_nil],fun i hi=>by simp (config:={ maxSteps:=10000000 }) (disch:=first | assumption | omega | (simp only [O1,N8,N7,M9,F8,Nat.reduceMul,Nat.reduceLT,l9,w9,F3,j6,A8,E8,D8,I5,G9,I9,I8,H7,o9,D5,G8,Nat.reduceAdd,D7,E9,Nat.reduceBEq,G5,F9,d9,j5,l6,z8,D9,F7,F5,F4,G6,C8,q9,A9,q8,l8,l7,E5,C9,G7,IntKind.bits,D6,r9,o7] <;> omega) | assumption) only [F6]⟩
   | false=>
     simp (config:={ maxSteps:=10000000 }) (disch:=first | assumption | omega | (simp only [O1,N8,N7,M9,F8,Nat.reduceMul,Nat.reduceLT,l9,w9,F3,j6,A8,E8,D8,I5,G9,I9,I8,H7,o9,D5,G8,Nat.reduceAdd,D7,E9,Nat.reduceBEq,G5,F9,d9,j5,l6,z8,D9,F7,F5,F4,G6,C8,q9,A9,q8,l8,l7,E5,C9,G7,IntKind.bits,D6,r9,o7] <;> omega) | assumption) only [a0c,a2j,a2g,a1Z,a2e,a2i,a2a,a2d,a2c,a2b,a2h,a0O,a0X,a1t,a0N,a0Y,a1m,a1b,a0V,a1C,a1l,a1s,a1g,a1A,a1i,a1q,a1h,a1j,a0U,a1z,a1F,a0K,a1w,a1p,a1D,a0J,a1c,a1k,a1y,a1f,a0L,a0S,a0M,a0T,a1x,a0Z,a1B,a0W,a1o,a1e,a1n,a1v,Z9,a0R,a0a,a1u,Z8,a0Q,Z7,a0P,Z6,a1E,a0b,a1r,a3V,a2u,a4b,a2v,a2J,a2F,I7,hA,hB,List.length_map,h34',h35,h39,h36,h38,h44,h96,q1,q5,hy,decide_true,J3,J2,V9,F7,F5,F4,G9,I5,U4,o9,D5,H9,Nat.reduceMul,ap9,a0u,a0s,a1L,a1K,Z4,X5,Y7,V3,X3,a0r,bn,un,U0,V5,U6,a1P,J6,I4,K3,J4,U3,P7,P9,r9,o7,a1X,J3,J2,X4,Y3,a6j,M6,K6,V.e1g,Q9,R5,P8,a0v,R7,Q7,a0l,d9,j5,l6,T9,R9,U9,P5,O5,l9,w9,j6,H7,M7,M8,Q8,Y5,a0D,R8,K8,M5,V8,H9,I6,F6,K9,M0,O6,S9,J5,J7,G8,Nat.add_zero,Nat.reduceAdd,U5,Q0,R3,a0q,V7]
     exact H6.done ⟨by simp only [X8,a4A,J2,H7,hy,hz,  N9,List.cons_append,List.append_nil],fun i hi=>by simp (config:={ maxSteps:=10000000 }) (disch:=first | assumption | omega | (simp only [O1,N8,N7,M9,F8,Nat.reduceMul,Nat.reduceLT,l9,w9,F3,j6,A8,E8,D8,I5,G9,I9,I8,H7,o9,D5,G8,Nat.reduceAdd,D7,E9,Nat.reduceBEq,G5,F9,d9,j5,l6,z8,D9,F7,F5,F4,G6,C8,q9,A9,q8,l8,l7,E5,C9,G7,IntKind.bits,D6,r9,o7] <;> omega) | assumption) only [F6]⟩
noncomputable def a6D (a n al:Nat):List Value:=M4 (bcase (n.beq 0) [] [.string ⟨⟨111::102::102::115::101::116::61::Lib.decDigits n⟩⟩]) (bcase (a.beq al) [] [.string ⟨⟨97::108::105::103::110::61::Lib.decDigits (2 ^ a)⟩⟩])
noncomputable def q41 (bs:List Value):Option (List Value):=match bs with
 | [.agg ⟨[.int .i64 op,.int .i64 (.ofNat a),.int .i64 b,.int .u64 (.ofNat n),.int .i64 k,.int .i64 v,.int .i64 i,.slice t1 n1 m1,.slice t2 n2 m2]⟩]=>
   bcase (decide (a≤63) && (Nat.blt n 4294967296 && (a4a a4i op).isSome)) (some (a6D a n ((a4a a4i op).getD 0))) none
 | _=>none
theorem c9h {bs:List Value} {cs:List Value} (h:q41 bs=some cs):∃ op a b n k v i t1 n1 m1 t2 n2 m2 al,bs=[.agg ⟨[.int .i64 op,.int .i64 (.ofNat a),.int .i64 b,.int .u64 (.ofNat n),.int .i64 k,.int .i64 v,.int .i64 i,.slice t1 n1 m1,.slice t2 n2 m2]⟩] ∧
 a≤63∧n<4294967296∧a4a a4i op=some al∧cs=a6D a n al:=by
 unfold q41 at h
 split at h
 · obtain ⟨h1,rfl⟩:=a2K h
   simp only [Bool.and_eq_true,decide_eq_true_eq,Nat.blt_eq] at h1
   obtain ⟨al,hal⟩:=Option.isSome_iff_exists.1 h1.2.2
   exact ⟨_,_,_,_,_,_,_,_,_,_,_,_,_,al,rfl,h1.1,h1.2.1,hal,by rw [hal]; rfl⟩
 · cases h
def Row (x:CR) (c:Nat) (s2:V.S) (cs:List Value):Prop:=(cs=[]∧x=.ret (.slice none 0 0))∨(cs≠[]∧∃ b g ds,x=.ret (.slice (some ⟨b, 0,some g⟩) cs.length 1)∧c≤b∧s2.h.get b=some (.cells ds g false)∧a1R (·.1) ds=cs)
theorem t41 (N:Nat) (call:o8) (op:Int) (a n al:Nat) (b k v i:Int) (ha:a≤63) (hn:n<4294967296) (t1 t2:Option Addr) (n1 e1 n2 e2:Nat)
 (h93:∀ m:Nat,m<18446744073709551616→call 93 [.int .u64 (.ofNat m),.int .i64 (.ofNat 10)]=M.pure (.ret (.string ⟨⟨Lib.decDigits m⟩⟩)))
 (h94:call 94 [.int .i64 op]=M.pure (.ret (.int .i64 (.ofNat al)))) (c:Nat) (h:Trie VObj) (r w:List Nat) :
 H6 (go (b2a H8 N call (.agg ⟨[.int .i64 op,.int .i64 (.ofNat a),.int .i64 b,.int .u64 (.ofNat n),.int .i64 k,.int .i64 v,.int .i64 i,.slice t1 n1 e1,.slice t2 n2 e2]⟩)) ⟨c,h,r,w⟩) fun x s=>(∀ i,i<c→s.h.get i=h.get i)∧Row x c s (a6D a n al):=by
 have l2:=Y6 n (by omega)
 have l3:=Y6 (2 ^ a) (a9z a ha)
 have g1:=h93 n (by omega)
 have g2:=h93 (2 ^ a) (a9z a ha)
 have p1:a0H .u64 (Int.ofNat (2 ^ a))=Int.ofNat (2 ^ a):=a3m .u64 _ (a9z a ha)
 cases hN:n.beq 0 with
 | true=>
   cases hA:a.beq al with
   | true=>
     have e:a6D a n al=[]:=by unfold a6D; rw [hN,hA]; rfl
     rw [e]
     simp (config:={ maxSteps:=10000000 }) (disch:=first | assumption | omega | (simp only [O1,N8,N7,M9,F8,Nat.reduceMul,Nat.reduceLT,l9,w9,F3,j6,A8,E8,D8,I5,G9,I9,I8,H7,o9,D5,G8,Nat.reduceAdd,D7,E9,Nat.reduceBEq,G5,F9,d9,j5,l6,z8,D9,F7,F5,F4,G6,C8,q9,A9,q8,l8,l7,E5,C9,G7,IntKind.bits,D6,r9,o7] <;> omega) | assumption) only [b2a,b4q,b3D,b4h,b0F,b3s,b1h,h94,V9,hN,hA,G9,H9,bn,U0,V5,U6,J6,I4,K3,J4,P7,P9,r9,o7,J2,X4,Y3,M6,K6,V.e1g,R5,a0v,Q7,M7,M8,K8,M5,H9,I6,K9,M0,O6,S9,J5,J7,G8,Nat.add_zero,a0q,V7]
     exact H6.done ⟨fun i hi=>by simp (config:={ maxSteps:=10000000 }) (disch:=first | assumption | omega | (simp only [O1,N8,N7,M9,F8,Nat.reduceMul,Nat.reduceLT,l9,w9,F3,j6,A8,E8,D8,I5,G9,I9,I8,H7,o9,D5,G8,Nat.reduceAdd,D7,E9,Nat.reduceBEq,G5,F9,d9,j5,l6,z8,D9,F7,F5,F4,G6,C8,q9,A9,q8,l8,l7,E5,C9,G7,IntKind.bits,D6,r9,o7] <;> omega) | assumption) only [F6],Or.inl ⟨rfl,rfl⟩⟩
   | false=>
     have e:a6D a n al=[.string ⟨⟨97::108::105::103::110::61::Lib.decDigits (2 ^ a)⟩⟩]:=by unfold a6D; rw [hN,hA]; rfl
     rw [e]
     simp (config:={ maxSteps:=10000000 }) (disch:=first | assumption | omega | (simp only [O1,N8,N7,M9,F8,Nat.reduceMul,Nat.reduceLT,l9,w9,F3,j6,A8,E8,D8,I5,G9,I9,I8,H7,o9,D5,G8,Nat.reduceAdd,D7,E9,Nat.reduceBEq,G5,F9,d9,j5,l6,z8,D9,F7,F5,F4,G6,C8,q9,A9,q8,l8,l7,E5,C9,G7,IntKind.bits,D6,r9,o7] <;> omega) | assumption) only [b2a,b4q,b3D,b4h,b0F,b3s,b1h,h94,V9,hN,hA,g2,Nat.one_mul,p1,G9,I5,o9,D5,H9,b1f,a0s,bn,U0,V5,U6,J6,I4,K3,J4,P7,P9,r9,o7,J3,J2,X4,Y3,M6,K6,V.e1g,R5,a0v,a5J,X7,Q7,d9,T9,R9,U9,P5,O5,l9,w9,j6,H7,M7,M8,R8,K8,M5,H9,I6,K9,M0,O6,S9,J5,J7,G8,Nat.add_zero,a0q,V7]
     refine H6.done ⟨fun i hi=>by simp (config:={ maxSteps:=10000000 }) (disch:=first | assumption | omega | (simp only [O1,N8,N7,M9,F8,Nat.reduceMul,Nat.reduceLT,l9,w9,F3,j6,A8,E8,D8,I5,G9,I9,I8,H7,o9,D5,G8,Nat.reduceAdd,D7,E9,Nat.reduceBEq,G5,F9,d9,j5,l6,z8,D9,F7,F5,F4,G6,C8,q9,A9,q8,l8,l7,E5,C9,G7,IntKind.bits,D6,r9,o7] <;> omega) | assumption) only [F6],Or.inr ⟨by simp,_, 0, [(.string ⟨⟨97::108::105::103::110::61::Lib.decDigits (2 ^ a)⟩⟩, 0)],rfl,by omega, ?_,rfl⟩⟩
     simp only [I6]
 | false=>
   cases hA:a.beq al with
   | true=>
     have e:a6D a n al=[.string ⟨⟨111::102::102::115::101::116::61::Lib.decDigits n⟩⟩]:=by unfold a6D; rw [hN,hA]; rfl
     rw [e]
     simp (config:={ maxSteps:=10000000 }) (disch:=first | assumption | omega | (simp only [O1,N8,N7,M9,F8,Nat.reduceMul,Nat.reduceLT,l9,w9,F3,j6,A8,E8,D8,I5,G9,I9,I8,H7,o9,D5,G8,Nat.reduceAdd,D7,E9,Nat.reduceBEq,G5,F9,d9,j5,l6,z8,D9,F7,F5,F4,G6,C8,q9,A9,q8,l8,l7,E5,C9,G7,IntKind.bits,D6,r9,o7] <;> omega) | assumption) only [b2a,b4q,b3D,b4h,b0F,b3s,b1h,h94,V9,hN,hA,g1,Nat.one_mul,G9,I5,o9,D5,H9,b1f,a0s,bn,U0,V5,U6,J6,I4,K3,J4,P7,P9,r9,o7,J3,J2,X4,Y3,M6,K6,V.e1g,R5,a0v,X7,Q7,d9,T9,R9,U9,P5,O5,l9,w9,j6,H7,M7,M8,R8,K8,M5,H9,I6,F6,K9,M0,O6,S9,J5,J7,G8,Nat.add_zero,a0q,V7]
     refine H6.done ⟨fun i hi=>by simp (config:={ maxSteps:=10000000 }) (disch:=first | assumption | omega | (simp only [O1,N8,N7,M9,F8,Nat.reduceMul,Nat.reduceLT,l9,w9,F3,j6,A8,E8,D8,I5,G9,I9,I8,H7,o9,D5,G8,Nat.reduceAdd,D7,E9,Nat.reduceBEq,G5,F9,d9,j5,l6,z8,D9,F7,F5,F4,G6,C8,q9,A9,q8,l8,l7,E5,C9,G7,IntKind.bits,D6,r9,o7] <;> omega) | assumption) only [F6],Or.inr ⟨by simp,_, 0, [(.string ⟨⟨111::102::102::115::101::116::61::Lib.decDigits n⟩⟩, 0)],rfl,by omega, ?_,rfl⟩⟩
     simp only [I6]
   | false=>
     have e:a6D a n al=[.string ⟨⟨111::102::102::115::101::116::61::Lib.decDigits n⟩⟩,.string ⟨⟨97::108::105::103::110::61::Lib.decDigits (2 ^ a)⟩⟩]:=by unfold a6D; rw [hN,hA]; rfl
     rw [e]
     simp (config:={ maxSteps:=10000000 }) (disch:=first | assumption | omega | (simp only [O1,N8,N7,M9,F8,Nat.reduceMul,Nat.reduceLT,l9,w9,F3,j6,A8,E8,D8,I5,G9,I9,I8,H7,o9,D5,G8,Nat.reduceAdd,D7,E9,Nat.reduceBEq,G5,F9,d9,j5,l6,z8,D9,F7,F5,F4,G6,C8,q9,A9,q8,l8,l7,E5,C9,G7,IntKind.bits,D6,r9,o7] <;> omega) | assumption) only [b2a,b4q,b3D,b4h,b0F,b3s,b1h,h94,V9,hN,hA,g1,g2,Nat.one_mul,p1,I5,o9,D5,H9,Nat.reduceMul,ap9,b1f,a0u,a0s,a1L,a1K,bn,U0,V5,U6,J6,I4,K3,J4,P7,P9,r9,o7,J3,X4,Y3,M6,K6,V.e1g,R5,a0v,a5J,X7,Q7,d9,T9,R9,U9,P5,O5,l9,w9,j6,H7,M7,M8,R8,K8,M5,H9,I6,F6,K9,M0,O6,S9,J5,J7,G8,Nat.add_zero,Nat.reduceAdd,a0q,V7]
     refine H6.done ⟨fun i hi=>by simp (config:={ maxSteps:=10000000 }) (disch:=first | assumption | omega | (simp only [O1,N8,N7,M9,F8,Nat.reduceMul,Nat.reduceLT,l9,w9,F3,j6,A8,E8,D8,I5,G9,I9,I8,H7,o9,D5,G8,Nat.reduceAdd,D7,E9,Nat.reduceBEq,G5,F9,d9,j5,l6,z8,D9,F7,F5,F4,G6,C8,q9,A9,q8,l8,l7,E5,C9,G7,IntKind.bits,D6,r9,o7] <;> omega) | assumption) only [F6],Or.inr ⟨by simp,_, 1, [(.string ⟨⟨111::102::102::115::101::116::61::Lib.decDigits n⟩⟩, 0),(.string ⟨⟨97::108::105::103::110::61::Lib.decDigits (2 ^ a)⟩⟩, 1)],rfl,by omega, ?_,rfl⟩⟩
     simp only [I6]
theorem d6E (n m:Nat) (h:m<18446744073709551616):K4 s6 (n+1) 93 [.int .u64 (.ofNat m),.int .i64 (.ofNat 10)]=M.pure (.ret (.string ⟨⟨Lib.decDigits m⟩⟩)):=by
 refine a5g s6 n 93 _ (g:=a5K) (by kernel_rfl) ?_
 show bcase (Nat.blt m 18446744073709551616) _ none=_
 rw [H9 h]; rfl
theorem d5B (n:Nat) (z:Int) (al:Nat) (h:a4a a4i z=some al):K4 s6 (n+1) 94 [.int .i64 z]=M.pure (.ret (.int .i64 (.ofNat al))):=a2x (q:=a6k) (by kernel_rfl) n (by unfold a6k; rw [h])
theorem d3p:Y4 Tryz.prog R4 (V6 mL) 41 (a6X q41):=c2K a2m a0w L6.e (L6 (mL:=mL)).s Tryz.func41 (by kernel_rfl) rfl fun bs cs hq=>by
 obtain ⟨op,a,b,n,k,v,i,t1,n1,m1,t2,n2,m2,al,rfl,ha,hn,hal,rfl⟩:=c9h hq
 refine ⟨?_,fun c h r w=>⟨2, ?_⟩⟩
 · unfold a6D
   cases n.beq 0 <;> cases a.beq al <;> rfl
 · rw [a2H (q:=b2a) (N:=NN) (by kernel_rfl) 1]
   exact t41 NN _ op a n al b k v i ha hn t1 t2 n1 m1 n2 m2 (d6E 0) (d5B 0 _ al hal) c h r w
theorem c1b (N:Nat) (call Y2 call3:o8) (X:Ins) (tv lv:Value) (a b:Nat) (hA:X.A=.ofNat a) (hB:X.B=.ofNat b) (ha:a<4294967296) (hb:b<4294967296) (s1 s2:List UInt8) (k1:L9 s1≤60) (k2:L9 s2≤60) (h41:∀ a,call 41 [a]=M.bind (a6X q41 [a]) fun v=>M.pure (.ret v)) (hq:q41 [I7 X tv lv]=some [.string ⟨⟨s1⟩⟩])
 (c:Nat) (h:Trie VObj) (h34:∀ hh,(∀ b,b<c→hh.get b=h.get b)→∃ z:List Nat→List Nat, ∀ r w,go (call 34 [I7 X tv lv]) ⟨c+1,hh,r,w⟩=some (.ret (.bool true),⟨c+1,hh,z r,w⟩))
 (C:Calls12 N call Y2 call3 X 17)
 (Ht:Q6 c h tv (P6 X.types)) (Hl:Q6 c h lv (P6 X.labels)) (r w:List Nat) :
 H6 (go (a0c H8 N call (I7 X tv lv)) ⟨c,h,r,w⟩) fun x s=>x=.ret (.string ⟨⟨M4 (V4 X.op) (M4 (a0C b) (32::s1))⟩⟩)∧∀ i,i<c→s.h.get i=h.get i:=by
 obtain ⟨z,h34'⟩:=h34 (upd h c (.cells [(.int .i64 X.op, 0),(.int .i64 X.A, 0),(.int .i64 X.B, 0),(.int .u64 (Int.ofNat X.N), 0),(.int .i64 X.k, 0),(.int .i64 X.v, 0),(.int .i64 X.i, 0),(tv, 0),(lv, 0)] 0 false)) (fun b hb=>F6 (by omega))
 obtain ⟨h35,h39,h36,h36',h37c,h37,h37',h38,h44,h96⟩:=C
 obtain ⟨ta,te,rfl,_⟩:=id Ht
 obtain ⟨la,le,rfl,_⟩:=id Hl
 simp only [I7,hA,hB,List.length_map] at hq
 have nx:=fun (c:Nat) (h:Trie VObj) (r w:List Nat)=>b1Y (c:=c) (h:=h) (r:=r) (w:=w) hq rfl
 simp only [I7,hA,hB,  List.length_map] at h34'
 have nl:=X9 X.op
 have l1:=Y6 a (by omega)
 have l2:=Y6 b (by omega)
 have q1:=h37 a (by omega)
 have q2:=h37' b (by omega)
 have q3:=h37' a (by omega)
 have q4:=h37c a (by omega)
 cases hz:b.beq 0 with
 | true=>
   simp (config:={ maxSteps:=10000000 }) (disch:=first | assumption | omega | (simp only [O1,N8,N7,M9,F8,Nat.reduceMul,Nat.reduceLT,l9,w9,F3,j6,A8,E8,D8,I5,G9,I9,I8,H7,o9,D5,G8,Nat.reduceAdd,D7,E9,Nat.reduceBEq,G5,F9,d9,j5,l6,z8,D9,F7,F5,F4,G6,C8,q9,A9,q8,l8,l7,E5,C9,G7,IntKind.bits,D6,r9,o7] <;> omega) | assumption) only [a0c,a2j,a2g,a1Z,a2e,a2i,a2a,a2d,a2c,a2b,a2h,a0O,a0X,a1t,a0N,a0Y,a1m,a1b,a0V,a1C,a1l,a1s,a1g,a1A,a1i,a1q,a1h,a1j,a0U,a1z,a1F,a0K,a1w,a1p,a1D,a0J,a1c,a1k,a1y,a1f,a0L,a0S,a0M,a0T,a1x,a0Z,a1B,a0W,a1o,a1e,a1n,a1v,Z9,a0R,a0a,a1u,Z8,a0Q,a7x,Z7,a0P,Z6,a1E,a0b,a1r,a2J,a2F,I7,hA,hB,List.length_map,h34',h35,h39,h38,h44,h96,h41,nx,hz,decide_true,J3,J2,V9,F7,F5,F4,G9,U4,o9,D5,H9,Nat.reduceMul,ap9,a0u,a0s,a1L,a1K,Z4,X5,Y7,V3,X3,a0r,bn,un,U0,V5,U6,a1P,J6,I4,K3,J4,U3,P7,P9,r9,o7,J3,J2,X4,Y3,M6,K6,V.e1g,Q9,R5,P8,a0v,R7,Q7,a0l,d9,j5,l6,T9,R9,U9,P5,O5,l9,w9,j6,H7,M7,M8,Q8,Y5,a0D,R8,K8,M5,V8,H9,I6,F6,K9,M0,O6,S9,J5,J7,G8,Nat.add_zero,Nat.reduceAdd,U5,Q0,R3,a0q,V7]
   exact H6.done ⟨by simp only [a0C,J3,hz,  N9,List.nil_append,List.append_nil],fun i hi=>by simp (config:={ maxSteps:=10000000 }) (disch:=first | assumption | omega | (simp only [O1,N8,N7,M9,F8,Nat.reduceMul,Nat.reduceLT,l9,w9,F3,j6,A8,E8,D8,I5,G9,I9,I8,H7,o9,D5,G8,Nat.reduceAdd,D7,E9,Nat.reduceBEq,G5,F9,d9,j5,l6,z8,D9,F7,F5,F4,G6,C8,q9,A9,q8,l8,l7,E5,C9,G7,IntKind.bits,D6,r9,o7] <;> omega) | assumption) only [F6]⟩
 | false=>
   simp (config:={ maxSteps:=10000000 }) (disch:=first | assumption | omega | (simp only [O1,N8,N7,M9,F8,Nat.reduceMul,Nat.reduceLT,l9,w9,F3,j6,A8,E8,D8,I5,G9,I9,I8,H7,o9,D5,G8,Nat.reduceAdd,D7,E9,Nat.reduceBEq,G5,F9,d9,j5,l6,z8,D9,F7,F5,F4,G6,C8,q9,A9,q8,l8,l7,E5,C9,G7,IntKind.bits,D6,r9,o7] <;> omega) | assumption) only [a0c,a2j,a2g,a1Z,a2e,a2i,a2a,a2d,a2c,a2b,a2h,a0O,a0X,a1t,a0N,a0Y,a1m,a1b,a0V,a1C,a1l,a1s,a1g,a1A,a1i,a1q,a1h,a1j,a0U,a1z,a1F,a0K,a1w,a1p,a1D,a0J,a1c,a1k,a1y,a1f,a0L,a0S,a0M,a0T,a1x,a0Z,a1B,a0W,a1o,a1e,a1n,a1v,Z9,a0R,a0a,a1u,Z8,a0Q,a7x,Z7,a0P,Z6,a1E,a0b,a1r,a3V,a2u,a4b,a2v,a2J,a2F,I7,hA,hB,List.length_map,h34',h35,h39,h36',h38,h44,h96,q2,h41,nx,hz,decide_true,J3,J2,V9,F7,F5,F4,G9,I5,U4,o9,D5,H9,Nat.reduceMul,ap9,a0u,a0s,a1L,a1K,Z4,X5,Y7,V3,X3,a0r,bn,un,U0,V5,U6,a1P,J6,I4,K3,J4,U3,P7,P9,r9,o7,J3,J2,X4,Y3,M6,K6,V.e1g,Q9,R5,P8,a0v,R7,Q7,a0l,d9,j5,l6,T9,R9,U9,P5,O5,l9,w9,j6,H7,M7,M8,Q8,Y5,a0D,R8,K8,M5,V8,H9,I6,F6,K9,M0,O6,S9,J5,J7,G8,Nat.add_zero,Nat.reduceAdd,U5,Q0,R3,a0q,V7]
   exact H6.done ⟨by simp only [a0C,X8,J2,hz,  N9,List.cons_append,List.append_nil],fun i hi=>by simp (config:={ maxSteps:=10000000 }) (disch:=first | assumption | omega | (simp only [O1,N8,N7,M9,F8,Nat.reduceMul,Nat.reduceLT,l9,w9,F3,j6,A8,E8,D8,I5,G9,I9,I8,H7,o9,D5,G8,Nat.reduceAdd,D7,E9,Nat.reduceBEq,G5,F9,d9,j5,l6,z8,D9,F7,F5,F4,G6,C8,q9,A9,q8,l8,l7,E5,C9,G7,IntKind.bits,D6,r9,o7] <;> omega) | assumption) only [F6]⟩
theorem c8O (N:Nat) (call Y2 call3:o8) (X:Ins) (tv lv:Value) (a b:Nat) (hA:X.A=.ofNat a) (hB:X.B=.ofNat b) (ha:a<4294967296) (hb:b<4294967296) (s1 s2:List UInt8) (k1:L9 s1≤60) (k2:L9 s2≤60) (h41:∀ a,call 41 [a]=M.bind (a6X q41 [a]) fun v=>M.pure (.ret v)) (hq:q41 [I7 X tv lv]=some [.string ⟨⟨s1⟩⟩,.string ⟨⟨s2⟩⟩])
 (c:Nat) (h:Trie VObj) (h34:∀ hh,(∀ b,b<c→hh.get b=h.get b)→∃ z:List Nat→List Nat, ∀ r w,go (call 34 [I7 X tv lv]) ⟨c+1,hh,r,w⟩=some (.ret (.bool true),⟨c+1,hh,z r,w⟩))
 (C:Calls12 N call Y2 call3 X 17)
 (Ht:Q6 c h tv (P6 X.types)) (Hl:Q6 c h lv (P6 X.labels)) (r w:List Nat) :
 H6 (go (a0c H8 N call (I7 X tv lv)) ⟨c,h,r,w⟩) fun x s=>x=.ret (.string ⟨⟨M4 (V4 X.op) (M4 (a0C b) (32::M4 s1 (32::s2)))⟩⟩)∧∀ i,i<c→s.h.get i=h.get i:=by
 obtain ⟨z,h34'⟩:=h34 (upd h c (.cells [(.int .i64 X.op, 0),(.int .i64 X.A, 0),(.int .i64 X.B, 0),(.int .u64 (Int.ofNat X.N), 0),(.int .i64 X.k, 0),(.int .i64 X.v, 0),(.int .i64 X.i, 0),(tv, 0),(lv, 0)] 0 false)) (fun b hb=>F6 (by omega))
 obtain ⟨h35,h39,h36,h36',h37c,h37,h37',h38,h44,h96⟩:=C
 obtain ⟨ta,te,rfl,_⟩:=id Ht
 obtain ⟨la,le,rfl,_⟩:=id Hl
 simp only [I7,hA,hB,List.length_map] at hq
 have nx:=fun (c:Nat) (h:Trie VObj) (r w:List Nat)=>b1Y (c:=c) (h:=h) (r:=r) (w:=w) hq rfl
 simp only [I7,hA,hB,  List.length_map] at h34'
 have nl:=X9 X.op
 have l1:=Y6 a (by omega)
 have l2:=Y6 b (by omega)
 have q1:=h37 a (by omega)
 have q2:=h37' b (by omega)
 have q3:=h37' a (by omega)
 have q4:=h37c a (by omega)
 cases hz:b.beq 0 with
 | true=>
   simp (config:={ maxSteps:=10000000 }) (disch:=first | assumption | omega | (simp only [O1,N8,N7,M9,F8,Nat.reduceMul,Nat.reduceLT,l9,w9,F3,j6,A8,E8,D8,I5,G9,I9,I8,H7,o9,D5,G8,Nat.reduceAdd,D7,E9,Nat.reduceBEq,G5,F9,d9,j5,l6,z8,D9,F7,F5,F4,G6,C8,q9,A9,q8,l8,l7,E5,C9,G7,IntKind.bits,D6,r9,o7] <;> omega) | assumption) only [a0c,a2j,a2g,a1Z,a2e,a2i,a2a,a2d,a2c,a2b,a2h,a0O,a0X,a1t,a0N,a0Y,a1m,a1b,a0V,a1C,a1l,a1s,a1g,a1A,a1i,a1q,a1h,a1j,a0U,a1z,a1F,a0K,a1w,a1p,a1D,a0J,a1c,a1k,a1y,a1f,a0L,a0S,a0M,a0T,a1x,a0Z,a1B,a0W,a1o,a1e,a1n,a1v,Z9,a0R,a0a,a1u,Z8,a0Q,a7x,Z7,a0P,Z6,a1E,a0b,a1r,a2J,a2F,I7,hA,hB,List.length_map,h34',h35,h39,h38,h44,h96,h41,nx,hz,decide_true,J3,J2,V9,F7,F5,F4,G9,U4,o9,D5,H9,Nat.reduceMul,ap9,a0u,a0s,a1L,a1K,Z4,X5,Y7,V3,X3,a0r,bn,un,U0,V5,U6,a1P,J6,I4,K3,J4,U3,P7,P9,r9,o7,J3,J2,X4,Y3,M6,K6,V.e1g,Q9,R5,P8,a0v,R7,Q7,a0l,d9,j5,l6,T9,R9,U9,P5,O5,l9,w9,j6,H7,M7,M8,Q8,Y5,a0D,R8,K8,M5,V8,H9,I6,F6,K9,M0,O6,S9,J5,J7,G8,Nat.add_zero,Nat.reduceAdd,U5,Q0,R3,a0q,V7]
   exact H6.done ⟨by simp only [a0C,J3,hz,  N9,List.nil_append,List.append_nil],fun i hi=>by simp (config:={ maxSteps:=10000000 }) (disch:=first | assumption | omega | (simp only [O1,N8,N7,M9,F8,Nat.reduceMul,Nat.reduceLT,l9,w9,F3,j6,A8,E8,D8,I5,G9,I9,I8,H7,o9,D5,G8,Nat.reduceAdd,D7,E9,Nat.reduceBEq,G5,F9,d9,j5,l6,z8,D9,F7,F5,F4,G6,C8,q9,A9,q8,l8,l7,E5,C9,G7,IntKind.bits,D6,r9,o7] <;> omega) | assumption) only [F6]⟩
 | false=>
   simp (config:={ maxSteps:=10000000 }) (disch:=first | assumption | omega | (simp only [O1,N8,N7,M9,F8,Nat.reduceMul,Nat.reduceLT,l9,w9,F3,j6,A8,E8,D8,I5,G9,I9,I8,H7,o9,D5,G8,Nat.reduceAdd,D7,E9,Nat.reduceBEq,G5,F9,d9,j5,l6,z8,D9,F7,F5,F4,G6,C8,q9,A9,q8,l8,l7,E5,C9,G7,IntKind.bits,D6,r9,o7] <;> omega) | assumption) only [a0c,a2j,a2g,a1Z,a2e,a2i,a2a,a2d,a2c,a2b,a2h,a0O,a0X,a1t,a0N,a0Y,a1m,a1b,a0V,a1C,a1l,a1s,a1g,a1A,a1i,a1q,a1h,a1j,a0U,a1z,a1F,a0K,a1w,a1p,a1D,a0J,a1c,a1k,a1y,a1f,a0L,a0S,a0M,a0T,a1x,a0Z,a1B,a0W,a1o,a1e,a1n,a1v,Z9,a0R,a0a,a1u,Z8,a0Q,a7x,Z7,a0P,Z6,a1E,a0b,a1r,a3V,a2u,a4b,a2v,a2J,a2F,I7,hA,hB,List.length_map,h34',h35,h39,h36',h38,h44,h96,q2,h41,nx,hz,decide_true,J3,J2,V9,F7,F5,F4,G9,I5,U4,o9,D5,H9,Nat.reduceMul,ap9,a0u,a0s,a1L,a1K,Z4,X5,Y7,V3,X3,a0r,bn,un,U0,V5,U6,a1P,J6,I4,K3,J4,U3,P7,P9,r9,o7,J3,J2,X4,Y3,M6,K6,V.e1g,Q9,R5,P8,a0v,R7,Q7,a0l,d9,j5,l6,T9,R9,U9,P5,O5,l9,w9,j6,H7,M7,M8,Q8,Y5,a0D,R8,K8,M5,V8,H9,I6,F6,K9,M0,O6,S9,J5,J7,G8,Nat.add_zero,Nat.reduceAdd,U5,Q0,R3,a0q,V7]
   exact H6.done ⟨by simp only [a0C,X8,J2,hz,  N9,List.cons_append,List.append_nil],fun i hi=>by simp (config:={ maxSteps:=10000000 }) (disch:=first | assumption | omega | (simp only [O1,N8,N7,M9,F8,Nat.reduceMul,Nat.reduceLT,l9,w9,F3,j6,A8,E8,D8,I5,G9,I9,I8,H7,o9,D5,G8,Nat.reduceAdd,D7,E9,Nat.reduceBEq,G5,F9,d9,j5,l6,z8,D9,F7,F5,F4,G6,C8,q9,A9,q8,l8,l7,E5,C9,G7,IntKind.bits,D6,r9,o7] <;> omega) | assumption) only [F6]⟩
end Go.Proofs.YtmomonnlmbljoaaGreatDoor
end
