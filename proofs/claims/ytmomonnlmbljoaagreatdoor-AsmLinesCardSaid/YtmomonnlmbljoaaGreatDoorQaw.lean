import Derived.Test.YtmomonnlmbljoaaGreatDoorQav
section
namespace Go.Proofs.YtmomonnlmbljoaaGreatDoor
open Go.V Go.RowKit Go.Shelf Go.Proofs
set_option maxRecDepth 1000000
set_option maxHeartbeats 4000000
set_option linter.unusedVariables false
attribute [local congr] a0b Z9 a0A a0B a0M a0T a3c
variable {mL:Int}
theorem c8q (N:Nat) (call a0D call3:j5) (X:Ins) (tv lv:Value) (a b:Nat) (hA:X.A=.ofNat a) (hB:X.B=.ofNat b) (ha:a < 4294967296) (hb:b < 4294967296)
 (c:Nat) (h:Trie VObj) (h34:∀ hh,(∀ b,b < c → hh.get b=h.get b) → ∃ z:List Nat → List Nat, ∀ r w,go (call 34 [H7 X tv lv]) ⟨c + 1,hh,r,w⟩=some (.ret (.bool true),⟨c + 1,hh,z r,w⟩))
 (C:Calls12 N call a0D call3 X 15)
 (Ht:P6 c h tv (O9 X.types)) (Hl:P6 c h lv (O9 X.labels)) (r w:List Nat) :
 I6 (go (a0u G8 N call (H7 X tv lv)) ⟨c,h,r,w⟩) fun x s=>x=.ret (.string ⟨⟨M6 (V7 X.op) (M6 (a0V b) (Z8 a))⟩⟩) ∧ ∀ i,i < c → s.h.get i=h.get i:=by
 obtain ⟨z,h34'⟩:=h34 (upd h c (.cells [(.int .i64 X.op, 0),(.int .i64 X.A, 0),(.int .i64 X.B, 0),(.int .u64 (Int.ofNat X.N), 0),(.int .i64 X.k, 0),(.int .i64 X.v, 0),(.int .i64 X.i, 0),(tv, 0),(lv, 0)] 0 false)) (fun b hb=>E8 (by omega))
 obtain ⟨h35,h39,h36,h36',h37c,h37,h37',h38,h44,h96⟩:=C
 obtain ⟨ta,te,rfl,_⟩:=id Ht
 obtain ⟨la,le,rfl,_⟩:=id Hl
 simp only [H7,hA,hB,  List.length_map] at h34'
 have nl:=a0e X.op
 have l1:=a0h a (by omega)
 have l2:=a0h b (by omega)
 have q1:=h37 a (by omega)
 have q2:=h37' b (by omega)
 have q3:=h37' a (by omega)
 have q4:=h37c a (by omega)
 cases hz:b.beq 0 with
 | true=>
   simp (config:={ maxSteps:=10000000 }) (disch:=first | assumption | omega | (simp only [Y9,Y2,Y1,Y8,Z5,Y6,Y4,X9,Y0,X8,Z4,Y7,Z0,Y5,Z6,Z7,Y3,X7,R5,T9,U2,R9,U1,R7,R8,U0,R6,S9,J2,I4,Nat.reduceMul,Nat.reduceLT,q9,C8,G7,F7,l8,D6,q8,F6,F3,Bool.not_false,Bool.not_true,Bool.and_true,Bool.true_and,Bool.and_self,r9,D5,Nat.zero_add,Nat.reduceAdd,j4,F8,Nat.reduceBEq,G9,H6,E5,j6,A8,l7,l6,l9,C9,j4,F4,G6,G5,F9,H8,H9,D7,z8,D9,w9,o8,o9,F5,D8,I7,IntKind.bits,E9,A9,o7] <;> omega) | assumption) only [a0u,a2B,a2t,a2s,a2u,a2z,a2v,a2r,a2w,a2A,a2y,a1r,a1O,a1A,a1q,a1E,a1s,a1g,a1y,a1W,a1J,a1T,a1l,a1X,a1M,a1K,a1j,a1v,a1R,a1P,a1z,a1V,a1L,a1C,a1o,a1m,a1h,a1w,a1t,a1Q,a1S,a1F,a1N,a1Z,a1Y,a1D,a1H,a1f,a1B,a1k,a1G,a1n,a0o,a1u,a0q,a1i,a0t,a1x,a0r,a1p,a0s,a1e,a0p,a1I,a4h,a2L,a4p,a2M,a3b,a2Z,H7,hA,hB,List.length_map,h34',h35,h39,h36,h38,h44,h96,q1,hz,decide_true,K4,J4,V9,G6,G5,F9,Bool.not_true,U7,r9,D5,I5,Nat.reduceMul,ap9,a0P,a0Q,a2e,a2f,a0k,X6,a0g,V3,X4,a0J,bn,un,U6,a0d,V6,a2F,K6,I8,M0,J8,U5,O5,O4,A9,o7,K4,J4,l_0,l_s,P5,L9,V.d9Z,P7,Q8,Q7,a0S,U3,Q0,a0G,j6,l7,l9,U9,V4,a0l,R3,Q5,q9,C8,l8,Bool.and_self,K8,M9,P8,a0j,a0Z,V5,K7,N9,X5,I5,I9,E8,K9,N8,O6,Q9,J6,J7,Nat.zero_add,Nat.add_zero,Nat.reduceAdd,U8,O8,P9,a0L,V8]
   exact I6.done ⟨by simp only [a0V,Z8,K4,hz,  M7,List.nil_append,List.append_nil],fun i hi=>by simp (config:={ maxSteps:=10000000 }) (disch:=first | assumption | omega | (simp only [Y9,Y2,Y1,Y8,Z5,Y6,Y4,X9,Y0,X8,Z4,Y7,Z0,Y5,Z6,Z7,Y3,X7,R5,T9,U2,R9,U1,R7,R8,U0,R6,S9,J2,I4,Nat.reduceMul,Nat.reduceLT,q9,C8,G7,F7,l8,D6,q8,F6,F3,Bool.not_false,Bool.not_true,Bool.and_true,Bool.true_and,Bool.and_self,r9,D5,Nat.zero_add,Nat.reduceAdd,j4,F8,Nat.reduceBEq,G9,H6,E5,j6,A8,l7,l6,l9,C9,j4,F4,G6,G5,F9,H8,H9,D7,z8,D9,w9,o8,o9,F5,D8,I7,IntKind.bits,E9,A9,o7] <;> omega) | assumption) only [E8]⟩
 | false=>
   simp (config:={ maxSteps:=10000000 }) (disch:=first | assumption | omega | (simp only [Y9,Y2,Y1,Y8,Z5,Y6,Y4,X9,Y0,X8,Z4,Y7,Z0,Y5,Z6,Z7,Y3,X7,R5,T9,U2,R9,U1,R7,R8,U0,R6,S9,J2,I4,Nat.reduceMul,Nat.reduceLT,q9,C8,G7,F7,l8,D6,q8,F6,F3,Bool.not_false,Bool.not_true,Bool.and_true,Bool.true_and,Bool.and_self,r9,D5,Nat.zero_add,Nat.reduceAdd,j4,F8,Nat.reduceBEq,G9,H6,E5,j6,A8,l7,l6,l9,C9,j4,F4,G6,G5,F9,H8,H9,D7,z8,D9,w9,o8,o9,F5,D8,I7,IntKind.bits,E9,A9,o7] <;> omega) | assumption) only [a0u,a2B,a2t,a2s,a2u,a2z,a2v,a2r,a2w,a2A,a2y,a1r,a1O,a1A,a1q,a1E,a1s,a1g,a1y,a1W,a1J,a1T,a1l,a1X,a1M,a1K,a1j,a1v,a1R,a1P,a1z,a1V,a1L,a1C,a1o,a1m,a1h,a1w,a1t,a1Q,a1S,a1F,a1N,a1Z,a1Y,a1D,a1H,a1f,a1B,a1k,a1G,a1n,a0o,a1u,a0q,a1i,a0t,a1x,a0r,a1p,a0s,a1e,a0p,a1I,a4h,a2L,a4p,a2M,a3b,a2Z,H7,hA,hB,List.length_map,h34',h35,h39,h36,h36',h38,h44,h96,q1,q2,hz,decide_true,K4,J4,V9,G6,G5,F9,Bool.not_true,Bool.not_false,U7,r9,D5,I5,Nat.reduceMul,ap9,a0P,a0Q,a2e,a2f,a0k,X6,a0g,V3,X4,a0J,bn,un,U6,a0d,V6,a2F,K6,I8,M0,J8,U5,O5,O4,A9,o7,K4,J4,l_0,l_s,P5,L9,V.d9Z,P7,Q8,Q7,a0S,U3,Q0,a0G,j6,l7,l9,U9,V4,a0l,R3,Q5,q9,C8,l8,Bool.and_self,K8,M9,P8,a0j,a0Z,V5,K7,N9,X5,I5,I9,E8,K9,N8,O6,Q9,J6,J7,Nat.zero_add,Nat.add_zero,Nat.reduceAdd,U8,O8,P9,a0L,V8]
   exact I6.done ⟨by simp only [a0V,Z8,J4,hz,  M7,List.cons_append,List.append_nil],fun i hi=>by simp (config:={ maxSteps:=10000000 }) (disch:=first | assumption | omega | (simp only [Y9,Y2,Y1,Y8,Z5,Y6,Y4,X9,Y0,X8,Z4,Y7,Z0,Y5,Z6,Z7,Y3,X7,R5,T9,U2,R9,U1,R7,R8,U0,R6,S9,J2,I4,Nat.reduceMul,Nat.reduceLT,q9,C8,G7,F7,l8,D6,q8,F6,F3,Bool.not_false,Bool.not_true,Bool.and_true,Bool.true_and,Bool.and_self,r9,D5,Nat.zero_add,Nat.reduceAdd,j4,F8,Nat.reduceBEq,G9,H6,E5,j6,A8,l7,l6,l9,C9,j4,F4,G6,G5,F9,H8,H9,D7,z8,D9,w9,o8,o9,F5,D8,I7,IntKind.bits,E9,A9,o7] <;> omega) | assumption) only [E8]⟩
theorem d1o (N:Nat) (call a0D call3:j5) (X:Ins) (tv lv:Value) (a b:Nat) (hA:X.A=.ofNat a) (hB:X.B=.ofNat b) (ha:a < 4294967296) (hb:b < 4294967296)
 (c:Nat) (h:Trie VObj) (h34:∀ hh,(∀ b,b < c → hh.get b=h.get b) → ∃ z:List Nat → List Nat, ∀ r w,go (call 34 [H7 X tv lv]) ⟨c + 1,hh,r,w⟩=some (.ret (.bool true),⟨c + 1,hh,z r,w⟩))
 (C:Calls12 N call a0D call3 X 5)
 (Ht:P6 c h tv (O9 X.types)) (Hl:P6 c h lv (O9 X.labels)) (r w:List Nat) :
 I6 (go (a0u G8 N call (H7 X tv lv)) ⟨c,h,r,w⟩) fun x s=>x=.ret (.string ⟨⟨M6 (V7 X.op) (M6 (M6 (a0V b) [32, 40, 116, 121, 112, 101]) (M6 (Z8 a) [41]))⟩⟩) ∧ ∀ i,i < c → s.h.get i=h.get i:=by
 obtain ⟨z,h34'⟩:=h34 (upd h c (.cells [(.int .i64 X.op, 0),(.int .i64 X.A, 0),(.int .i64 X.B, 0),(.int .u64 (Int.ofNat X.N), 0),(.int .i64 X.k, 0),(.int .i64 X.v, 0),(.int .i64 X.i, 0),(tv, 0),(lv, 0)] 0 false)) (fun b hb=>E8 (by omega))
 obtain ⟨h35,h39,h36,h36',h37c,h37,h37',h38,h44,h96⟩:=C
 obtain ⟨ta,te,rfl,_⟩:=id Ht
 obtain ⟨la,le,rfl,_⟩:=id Hl
 simp only [H7,hA,hB,  List.length_map] at h34'
 have nl:=a0e X.op
 have l1:=a0h a (by omega)
 have l2:=a0h b (by omega)
 have q1:=h37 a (by omega)
 have q2:=h37' b (by omega)
 have q3:=h37' a (by omega)
 have q4:=h37c a (by omega)
 cases hz:b.beq 0 with
 | true=>
   simp (config:={ maxSteps:=10000000 }) (disch:=first | assumption | omega | (simp only [Y9,Y2,Y1,Y8,Z5,Y6,Y4,X9,Y0,X8,Z4,Y7,Z0,Y5,Z6,Z7,Y3,X7,R5,T9,U2,R9,U1,R7,R8,U0,R6,S9,J2,I4,Nat.reduceMul,Nat.reduceLT,q9,C8,G7,F7,l8,D6,q8,F6,F3,Bool.not_false,Bool.not_true,Bool.and_true,Bool.true_and,Bool.and_self,r9,D5,Nat.zero_add,Nat.reduceAdd,j4,F8,Nat.reduceBEq,G9,H6,E5,j6,A8,l7,l6,l9,C9,j4,F4,G6,G5,F9,H8,H9,D7,z8,D9,w9,o8,o9,F5,D8,I7,IntKind.bits,E9,A9,o7] <;> omega) | assumption) only [a0u,a2B,a2t,a2s,a2u,a2z,a2v,a2r,a2w,a2A,a2y,a1r,a1O,a1A,a1q,a1E,a1s,a1g,a1y,a1W,a1J,a1T,a1l,a1X,a1M,a1K,a1j,a1v,a1R,a1P,a1z,a1V,a1L,a1C,a1o,a1m,a1h,a1w,a1t,a1Q,a1S,a1F,a1N,a1Z,a1Y,a1D,a1H,a1f,a1B,a1k,a1G,a1n,a0o,a1u,b4B,a0q,a1i,a0t,a1x,a0r,a1p,a0s,a1e,a0p,a1I,a3b,a2Z,H7,hA,hB,List.length_map,h34',h35,h39,h38,h44,h96,q4,  hz,decide_true,K4,J4,V9,G6,G5,F9,Bool.not_true,U7,r9,D5,I5,Nat.reduceMul,ap9,a0P,a0Q,a2e,a2f,a0k,X6,a0g,V3,X4,a0J,bn,un,U6,a0d,V6,a2F,K6,I8,M0,J8,U5,O5,O4,A9,o7,K4,J4,l_0,l_s,P5,L9,V.d9Z,P7,Q8,Q7,a0S,U3,a0n,Q0,a0G,j6,l7,l9,U9,V4,a0l,R3,Q5,q9,C8,l8,Bool.and_self,K8,M9,P8,a0j,a0Z,V5,K7,N9,X5,I5,I9,E8,K9,N8,O6,Q9,J6,J7,Nat.zero_add,Nat.add_zero,Nat.reduceAdd,U8,O8,P9,a0L,V8]
   exact I6.done ⟨by simp only [a0V,Z8,K4,hz,  M7,List.cons_append,List.nil_append,List.append_nil],fun i hi=>by simp (config:={ maxSteps:=10000000 }) (disch:=first | assumption | omega | (simp only [Y9,Y2,Y1,Y8,Z5,Y6,Y4,X9,Y0,X8,Z4,Y7,Z0,Y5,Z6,Z7,Y3,X7,R5,T9,U2,R9,U1,R7,R8,U0,R6,S9,J2,I4,Nat.reduceMul,Nat.reduceLT,q9,C8,G7,F7,l8,D6,q8,F6,F3,Bool.not_false,Bool.not_true,Bool.and_true,Bool.true_and,Bool.and_self,r9,D5,Nat.zero_add,Nat.reduceAdd,j4,F8,Nat.reduceBEq,G9,H6,E5,j6,A8,l7,l6,l9,C9,j4,F4,G6,G5,F9,H8,H9,D7,z8,D9,w9,o8,o9,F5,D8,I7,IntKind.bits,E9,A9,o7] <;> omega) | assumption) only [E8]⟩
 | false=>
   simp (config:={ maxSteps:=10000000 }) (disch:=first | assumption | omega | (simp only [Y9,Y2,Y1,Y8,Z5,Y6,Y4,X9,Y0,X8,Z4,Y7,Z0,Y5,Z6,Z7,Y3,X7,R5,T9,U2,R9,U1,R7,R8,U0,R6,S9,J2,I4,Nat.reduceMul,Nat.reduceLT,q9,C8,G7,F7,l8,D6,q8,F6,F3,Bool.not_false,Bool.not_true,Bool.and_true,Bool.true_and,Bool.and_self,r9,D5,Nat.zero_add,Nat.reduceAdd,j4,F8,Nat.reduceBEq,G9,H6,E5,j6,A8,l7,l6,l9,C9,j4,F4,G6,G5,F9,H8,H9,D7,z8,D9,w9,o8,o9,F5,D8,I7,IntKind.bits,E9,A9,o7] <;> omega) | assumption) only [a0u,a2B,a2t,a2s,a2u,a2z,a2v,a2r,a2w,a2A,a2y,a1r,a1O,a1A,a1q,a1E,a1s,a1g,a1y,a1W,a1J,a1T,a1l,a1X,a1M,a1K,a1j,a1v,a1R,a1P,a1z,a1V,a1L,a1C,a1o,a1m,a1h,a1w,a1t,a1Q,a1S,a1F,a1N,a1Z,a1Y,a1D,a1H,a1f,a1B,a1k,a1G,a1n,a0o,a1u,b4B,a0q,a1i,a0t,a1x,a0r,a1p,a0s,a1e,a0p,a1I,a4h,a2L,a4p,a2M,a3b,a2Z,H7,hA,hB,List.length_map,h34',h35,h39,h36',h38,h44,h96,q2,q4,  hz,decide_true,K4,J4,V9,G6,G5,F9,Bool.not_true,Bool.not_false,U7,r9,D5,I5,Nat.reduceMul,ap9,a0P,a0Q,a2e,a2f,a0k,X6,a0g,V3,X4,a0J,bn,un,U6,a0d,V6,a2F,K6,I8,M0,J8,U5,O5,O4,A9,o7,K4,J4,l_0,l_s,P5,L9,V.d9Z,P7,Q8,Q7,a0S,U3,a0n,Q0,a0G,j6,l7,l9,U9,V4,a0l,R3,Q5,q9,C8,l8,Bool.and_self,K8,M9,P8,a0j,a0Z,V5,K7,N9,X5,I5,I9,E8,K9,N8,O6,Q9,J6,J7,Nat.zero_add,Nat.add_zero,Nat.reduceAdd,U8,O8,P9,a0L,V8]
   exact I6.done ⟨by simp only [a0V,Z8,J4,hz,  M7,List.append_assoc,List.cons_append,List.nil_append,List.append_nil],fun i hi=>by simp (config:={ maxSteps:=10000000 }) (disch:=first | assumption | omega | (simp only [Y9,Y2,Y1,Y8,Z5,Y6,Y4,X9,Y0,X8,Z4,Y7,Z0,Y5,Z6,Z7,Y3,X7,R5,T9,U2,R9,U1,R7,R8,U0,R6,S9,J2,I4,Nat.reduceMul,Nat.reduceLT,q9,C8,G7,F7,l8,D6,q8,F6,F3,Bool.not_false,Bool.not_true,Bool.and_true,Bool.true_and,Bool.and_self,r9,D5,Nat.zero_add,Nat.reduceAdd,j4,F8,Nat.reduceBEq,G9,H6,E5,j6,A8,l7,l6,l9,C9,j4,F4,G6,G5,F9,H8,H9,D7,z8,D9,w9,o8,o9,F5,D8,I7,IntKind.bits,E9,A9,o7] <;> omega) | assumption) only [E8]⟩
end Go.Proofs.YtmomonnlmbljoaaGreatDoor
end
section
namespace Go.Proofs.YtmomonnlmbljoaaGreatDoor
open Go.V Go.RowKit Go.Shelf Go.Proofs
set_option maxRecDepth 1000000
set_option maxHeartbeats 4000000
set_option linter.unusedVariables false
attribute [local congr] a0b Z9 a0A a0B a0M a0T a3c
variable {mL:Int}
theorem c8o (N:Nat) (call a0D call3:j5) (X:Ins) (tv lv:Value) (a b:Nat) (hA:X.A=.ofNat a) (hB:X.B=.ofNat b) (ha:a < 4294967296) (hb:b < 4294967296)
 (c:Nat) (h:Trie VObj) (h34:∀ hh,(∀ b,b < c → hh.get b=h.get b) → ∃ z:List Nat → List Nat, ∀ r w,go (call 34 [H7 X tv lv]) ⟨c + 1,hh,r,w⟩=some (.ret (.bool true),⟨c + 1,hh,z r,w⟩))
 (C:Calls12 N call a0D call3 X 10)
 (Ht:P6 c h tv (O9 X.types)) (Hl:P6 c h lv (O9 X.labels)) (r w:List Nat) :
 I6 (go (a0u G8 N call (H7 X tv lv)) ⟨c,h,r,w⟩) fun x s=>x=.ret (.string ⟨⟨M6 (V7 X.op) (a4L a b)⟩⟩) ∧ ∀ i,i < c → s.h.get i=h.get i:=by
 obtain ⟨z,h34'⟩:=h34 (upd h c (.cells [(.int .i64 X.op, 0),(.int .i64 X.A, 0),(.int .i64 X.B, 0),(.int .u64 (Int.ofNat X.N), 0),(.int .i64 X.k, 0),(.int .i64 X.v, 0),(.int .i64 X.i, 0),(tv, 0),(lv, 0)] 0 false)) (fun b hb=>E8 (by omega))
 obtain ⟨h35,h39,h36,h36',h37c,h37,h37',h38,h44,h96⟩:=C
 obtain ⟨ta,te,rfl,_⟩:=id Ht
 obtain ⟨la,le,rfl,_⟩:=id Hl
 have q5:=h37 b (by omega)
 simp only [H7,hA,hB,  List.length_map] at h34'
 have nl:=a0e X.op
 have l1:=a0h a (by omega)
 have l2:=a0h b (by omega)
 have q1:=h37 a (by omega)
 have q2:=h37' b (by omega)
 have q3:=h37' a (by omega)
 have q4:=h37c a (by omega)
 cases hy:a.beq 0 with
 | true=>
   cases hz:b.beq 0 with
   | true=>
     simp (config:={ maxSteps:=10000000 }) (disch:=first | assumption | omega | (simp only [Y9,Y2,Y1,Y8,Z5,Y6,Y4,X9,Y0,X8,Z4,Y7,Z0,Y5,Z6,Z7,Y3,X7,R5,T9,U2,R9,U1,R7,R8,U0,R6,S9,J2,I4,Nat.reduceMul,Nat.reduceLT,q9,C8,G7,F7,l8,D6,q8,F6,F3,Bool.not_false,Bool.not_true,Bool.and_true,Bool.true_and,Bool.and_self,r9,D5,Nat.zero_add,Nat.reduceAdd,j4,F8,Nat.reduceBEq,G9,H6,E5,j6,A8,l7,l6,l9,C9,j4,F4,G6,G5,F9,H8,H9,D7,z8,D9,w9,o8,o9,F5,D8,I7,IntKind.bits,E9,A9,o7] <;> omega) | assumption) only [a0u,a2B,a2t,a2s,a2u,a2z,a2v,a2r,a2w,a2A,a2y,a1r,a1O,a1A,a1q,a1E,a1s,a1g,a1y,a1W,a1J,a1T,a1l,a1X,a1M,a1K,a1j,a1v,a1R,a1P,a1z,a1V,a1L,a1C,a1o,a1m,a1h,a1w,a1t,a1Q,a1S,a1F,a1N,a1Z,a1Y,a1D,a1H,a1f,a1B,a1k,a1G,a1n,a0o,a1u,a0q,a1i,a0t,a1x,a0r,a1p,a0s,a1e,a0p,a1I,a3b,a2Z,H7,hA,hB,List.length_map,h34',h35,h39,h38,h44,h96,hy,hz,decide_true,K4,J4,V9,G6,G5,F9,Bool.not_true,Bool.not_false,U7,I5,a0k,X6,a0g,V3,a0J,bn,un,U6,a0d,V6,a2F,K6,I8,M0,J8,U5,O5,O4,A9,o7,a3a,K4,J4,l_0,l_s,a5o,P5,L9,V.d9Z,P7,Q7,a0S,U3,Q0,a0G,j6,l7,l9,U9,V4,a0l,R3,Q5,q9,C8,l8,Bool.and_self,K8,M9,P8,a0j,a0Z,V5,K7,N9,X5,I5,I9,E8,K9,N8,O6,Q9,J6,J7,Nat.zero_add,Nat.add_zero,U8,O8,P9]
     exact I6.done ⟨by simp only [a4L,K4,Bool.and_self,hy,hz,  M7,List.append_nil],fun i hi=>by simp (config:={ maxSteps:=10000000 }) (disch:=first | assumption | omega | (simp only [Y9,Y2,Y1,Y8,Z5,Y6,Y4,X9,Y0,X8,Z4,Y7,Z0,Y5,Z6,Z7,Y3,X7,R5,T9,U2,R9,U1,R7,R8,U0,R6,S9,J2,I4,Nat.reduceMul,Nat.reduceLT,q9,C8,G7,F7,l8,D6,q8,F6,F3,Bool.not_false,Bool.not_true,Bool.and_true,Bool.true_and,Bool.and_self,r9,D5,Nat.zero_add,Nat.reduceAdd,j4,F8,Nat.reduceBEq,G9,H6,E5,j6,A8,l7,l6,l9,C9,j4,F4,G6,G5,F9,H8,H9,D7,z8,D9,w9,o8,o9,F5,D8,I7,IntKind.bits,E9,A9,o7] <;> omega) | assumption) only [E8]⟩
   | false=>
     simp (config:={ maxSteps:=10000000 }) (disch:=first | assumption | omega | (simp only [Y9,Y2,Y1,Y8,Z5,Y6,Y4,X9,Y0,X8,Z4,Y7,Z0,Y5,Z6,Z7,Y3,X7,R5,T9,U2,R9,U1,R7,R8,U0,R6,S9,J2,I4,Nat.reduceMul,Nat.reduceLT,q9,C8,G7,F7,l8,D6,q8,F6,F3,Bool.not_false,Bool.not_true,Bool.and_true,Bool.true_and,Bool.and_self,r9,D5,Nat.zero_add,Nat.reduceAdd,j4,F8,Nat.reduceBEq,G9,H6,E5,j6,A8,l7,l6,l9,C9,j4,F4,G6,G5,F9,H8,H9,D7,z8,D9,w9,o8,o9,F5,D8,I7,IntKind.bits,E9,A9,o7] <;> omega) | assumption) only [a0u,a2B,a2t,a2s,a2u,a2z,a2v,a2r,a2w,a2A,a2y,a1r,a1O,a1A,a1q,a1E,a1s,a1g,a1y,a1W,a1J,a1T,a1l,a1X,a1M,a1K,a1j,a1v,a1R,a1P,a1z,a1V,a1L,a1C,a1o,a1m,a1h,a1w,a1t,a1Q,a1S,a1F,a1N,a1Z,a1Y,a1D,a1H,a1f,a1B,a1k,a1G,a1n,a0o,a1u,a0q,a1i,a0t,a1x,a0r,a1p,a0s,a1e,a0p,a1I,a4h,a2L,a4p,a2M,a3b,a2Z,H7,hA,hB,List.length_map,h34',h35,h39,h36,h38,h44,h96,q1,q5,hy,hz,decide_true,K4,J4,V9,G6,G5,F9,Bool.not_true,Bool.not_false,U7,r9,D5,I5,Nat.reduceMul,ap9,a0P,a0Q,a2e,a2f,a0k,X6,a0g,V3,X4,a0J,bn,un,U6,a0d,V6,a2F,K6,I8,M0,J8,U5,O5,O4,A9,o7,a3a,K4,J4,l_0,l_s,a5o,P5,L9,V.d9Z,P7,Q8,Q7,a0S,U3,Q0,a0G,j6,l7,l9,U9,V4,a0l,R3,Q5,q9,C8,l8,Bool.and_self,K8,M9,P8,a0j,a0Z,V5,K7,N9,X5,I5,I9,E8,K9,N8,O6,Q9,J6,J7,Nat.zero_add,Nat.add_zero,Nat.reduceAdd,U8,O8,P9,a0L,V8]
     exact I6.done ⟨by simp only [Z8,a4L,J4,Bool.and_false,hy,hz,  M7,List.cons_append,List.append_nil],fun i hi=>by simp (config:={ maxSteps:=10000000 }) (disch:=first | assumption | omega | (simp only [Y9,Y2,Y1,Y8,Z5,Y6,Y4,X9,Y0,X8,Z4,Y7,Z0,Y5,Z6,Z7,Y3,X7,R5,T9,U2,R9,U1,R7,R8,U0,R6,S9,J2,I4,Nat.reduceMul,Nat.reduceLT,q9,C8,G7,F7,l8,D6,q8,F6,F3,Bool.not_false,Bool.not_true,Bool.and_true,Bool.true_and,Bool.and_self,r9,D5,Nat.zero_add,Nat.reduceAdd,j4,F8,Nat.reduceBEq,G9,H6,E5,j6,A8,l7,l6,l9,C9,j4,F4,G6,G5,F9,H8,H9,D7,z8,D9,w9,o8,o9,F5,D8,I7,IntKind.bits,E9,A9,o7] <;> omega) | assumption) only [E8]⟩
 | false=>
   cases hz:b.beq 0 with
   | true=>
     simp (config:={ maxSteps:=10000000 }) (disch:=first | assumption | omega | (simp only [Y9,Y2,Y1,Y8,Z5,Y6,Y4,X9,Y0,X8,Z4,Y7,Z0,Y5,Z6,Z7,Y3,X7,R5,T9,U2,R9,U1,R7,R8,U0,R6,S9,J2,I4,Nat.reduceMul,Nat.reduceLT,q9,C8,G7,F7,l8,D6,q8,F6,F3,Bool.not_false,Bool.not_true,Bool.and_true,Bool.true_and,Bool.and_self,r9,D5,Nat.zero_add,Nat.reduceAdd,j4,F8,Nat.reduceBEq,G9,H6,E5,j6,A8,l7,l6,l9,C9,j4,F4,G6,G5,F9,H8,H9,D7,z8,D9,w9,o8,o9,F5,D8,I7,IntKind.bits,E9,A9,o7] <;> omega) | assumption) only [a0u,a2B,a2t,a2s,a2u,a2z,a2v,a2r,a2w,a2A,a2y,a1r,a1O,a1A,a1q,a1E,a1s,a1g,a1y,a1W,a1J,a1T,a1l,a1X,a1M,a1K,a1j,a1v,a1R,a1P,a1z,a1V,a1L,a1C,a1o,a1m,a1h,a1w,a1t,a1Q,a1S,a1F,a1N,a1Z,a1Y,a1D,a1H,a1f,a1B,a1k,a1G,a1n,a0o,a1u,a0q,a1i,a0t,a1x,a0r,a1p,a0s,a1e,a0p,a1I,a4h,a2L,a4p,a2M,a3b,a2Z,H7,hA,hB,List.length_map,h34',h35,h39,h36,h38,h44,h96,q1,q5,hy,decide_true,K4,J4,V9,G6,G5,F9,Bool.not_true,Bool.not_false,U7,r9,D5,I5,Nat.reduceMul,ap9,a0P,a0Q,a2e,a2f,a0k,X6,a0g,V3,X4,a0J,bn,un,U6,a0d,V6,a2F,K6,I8,M0,J8,U5,O5,O4,A9,o7,a3a,K4,J4,l_0,l_s,a7N,P5,L9,V.d9Z,P7,Q8,Q7,a0S,U3,Q0,a0G,j6,l7,l9,U9,V4,a0l,R3,Q5,q9,C8,l8,Bool.and_self,K8,M9,P8,a0j,a0Z,V5,K7,N9,X5,I5,I9,E8,K9,N8,O6,Q9,J6,J7,Nat.zero_add,Nat.add_zero,Nat.reduceAdd,U8,O8,P9,a0L,V8]
     exact I6.done ⟨by simp only [Z8,a4L,J4,Bool.and_true,hy,hz,  M7,List.cons_append,List.append_nil],fun i hi=>by simp (config:={ maxSteps:=10000000 }) (disch:=first | assumption | omega | (simp only [Y9,Y2,Y1,Y8,Z5,Y6,Y4,X9,Y0,X8,Z4,Y7,Z0,Y5,Z6,Z7,Y3,X7,R5,T9,U2,R9,U1,R7,R8,U0,R6,S9,J2,I4,Nat.reduceMul,Nat.reduceLT,q9,C8,G7,F7,l8,D6,q8,F6,F3,Bool.not_false,Bool.not_true,Bool.and_true,Bool.true_and,Bool.and_self,r9,D5,Nat.zero_add,Nat.reduceAdd,j4,F8,Nat.reduceBEq,G9,H6,E5,j6,A8,l7,l6,l9,C9,j4,F4,G6,G5,F9,H8,H9,D7,z8,D9,w9,o8,o9,F5,D8,I7,IntKind.bits,E9,A9,o7] <;> omega) | assumption) only [E8]⟩
   | false=>
     simp (config:={ maxSteps:=10000000 }) (disch:=first | assumption | omega | (simp only [Y9,Y2,Y1,Y8,Z5,Y6,Y4,X9,Y0,X8,Z4,Y7,Z0,Y5,Z6,Z7,Y3,X7,R5,T9,U2,R9,U1,R7,R8,U0,R6,S9,J2,I4,Nat.reduceMul,Nat.reduceLT,q9,C8,G7,F7,l8,D6,q8,F6,F3,Bool.not_false,Bool.not_true,Bool.and_true,Bool.true_and,Bool.and_self,r9,D5,Nat.zero_add,Nat.reduceAdd,j4,F8,Nat.reduceBEq,G9,H6,E5,j6,A8,l7,l6,l9,C9,j4,F4,G6,G5,F9,H8,H9,D7,z8,D9,w9,o8,o9,F5,D8,I7,IntKind.bits,E9,A9,o7] <;> omega) | assumption) only [a0u,a2B,a2t,a2s,a2u,a2z,a2v,a2r,a2w,a2A,a2y,a1r,a1O,a1A,a1q,a1E,a1s,a1g,a1y,a1W,a1J,a1T,a1l,a1X,a1M,a1K,a1j,a1v,a1R,a1P,a1z,a1V,a1L,a1C,a1o,a1m,a1h,a1w,a1t,a1Q,a1S,a1F,a1N,a1Z,a1Y,a1D,a1H,a1f,a1B,a1k,a1G,a1n,a0o,a1u,a0q,a1i,a0t,a1x,a0r,a1p,a0s,a1e,a0p,a1I,a4h,a2L,a4p,a2M,a3b,a2Z,H7,hA,hB,List.length_map,h34',h35,h39,h36,h38,h44,h96,q1,q5,hy,decide_true,K4,J4,V9,G6,G5,F9,Bool.not_true,Bool.not_false,U7,r9,D5,I5,Nat.reduceMul,ap9,a0P,a0Q,a2e,a2f,a0k,X6,a0g,V3,X4,a0J,bn,un,U6,a0d,V6,a2F,K6,I8,M0,J8,U5,O5,O4,A9,o7,a3a,K4,J4,l_0,l_s,a7N,P5,L9,V.d9Z,P7,Q8,Q7,a0S,U3,Q0,a0G,j6,l7,l9,U9,V4,a0l,R3,Q5,q9,C8,l8,Bool.and_self,K8,M9,P8,a0j,a0Z,V5,K7,N9,X5,I5,I9,E8,K9,N8,O6,Q9,J6,J7,Nat.zero_add,Nat.add_zero,Nat.reduceAdd,U8,O8,P9,a0L,V8]
     exact I6.done ⟨by simp only [Z8,a4L,J4,Bool.and_self,hy,hz,  M7,List.cons_append,List.append_nil],fun i hi=>by simp (config:={ maxSteps:=10000000 }) (disch:=first | assumption | omega | (simp only [Y9,Y2,Y1,Y8,Z5,Y6,Y4,X9,Y0,X8,Z4,Y7,Z0,Y5,Z6,Z7,Y3,X7,R5,T9,U2,R9,U1,R7,R8,U0,R6,S9,J2,I4,Nat.reduceMul,Nat.reduceLT,q9,C8,G7,F7,l8,D6,q8,F6,F3,Bool.not_false,Bool.not_true,Bool.and_true,Bool.true_and,Bool.and_self,r9,D5,Nat.zero_add,Nat.reduceAdd,j4,F8,Nat.reduceBEq,G9,H6,E5,j6,A8,l7,l6,l9,C9,j4,F4,G6,G5,F9,H8,H9,D7,z8,D9,w9,o8,o9,F5,D8,I7,IntKind.bits,E9,A9,o7] <;> omega) | assumption) only [E8]⟩
end Go.Proofs.YtmomonnlmbljoaaGreatDoor
end
section
namespace Go.Proofs.YtmomonnlmbljoaaGreatDoor
open Go.V Go.RowKit Go.Shelf Go.Proofs
set_option maxRecDepth 1000000
set_option maxHeartbeats 4000000
set_option linter.unusedVariables false
attribute [local congr] a0b Z9 a0A a0B a0M a0T a3c
variable {mL:Int}
theorem d0H (N:Nat) (call a0D call3:j5) (X:Ins) (tv lv:Value) (a b:Nat) (hA:X.A=.ofNat a) (hB:X.B=.ofNat b) (ha:a < 4294967296) (hb:b < 4294967296) (h42:call 42 [.int .u64 (.ofNat X.N),.int .i64 (.ofNat 32)]=M.pure (.ret (.string ⟨⟨Lib.itoa (sgn 32 X.N)⟩⟩))) (hl:M4 (Lib.itoa (sgn 32 X.N)) ≤ 30)
 (c:Nat) (h:Trie VObj) (h34:∀ hh,(∀ b,b < c → hh.get b=h.get b) → ∃ z:List Nat → List Nat, ∀ r w,go (call 34 [H7 X tv lv]) ⟨c + 1,hh,r,w⟩=some (.ret (.bool true),⟨c + 1,hh,z r,w⟩))
 (C:Calls12 N call a0D call3 X 18)
 (Ht:P6 c h tv (O9 X.types)) (Hl:P6 c h lv (O9 X.labels)) (r w:List Nat) :
 I6 (go (a0u G8 N call (H7 X tv lv)) ⟨c,h,r,w⟩) fun x s=>x=.ret (.string ⟨⟨M6 (V7 X.op) (32 :: Lib.itoa (sgn 32 X.N))⟩⟩) ∧ ∀ i,i < c → s.h.get i=h.get i:=by
 obtain ⟨z,h34'⟩:=h34 (upd h c (.cells [(.int .i64 X.op, 0),(.int .i64 X.A, 0),(.int .i64 X.B, 0),(.int .u64 (Int.ofNat X.N), 0),(.int .i64 X.k, 0),(.int .i64 X.v, 0),(.int .i64 X.i, 0),(tv, 0),(lv, 0)] 0 false)) (fun b hb=>E8 (by omega))
 obtain ⟨h35,h39,h36,h36',h37c,h37,h37',h38,h44,h96⟩:=C
 obtain ⟨ta,te,rfl,_⟩:=id Ht
 obtain ⟨la,le,rfl,_⟩:=id Hl
 simp only [H7,hA,hB,List.length_map] at h34'
 have nl:=a0e X.op
 have l1:=a0h a (by omega)
 have l2:=a0h b (by omega)
 have q1:=h37 a (by omega)
 have q2:=h37' b (by omega)
 have q3:=h37' a (by omega)
 have q4:=h37c a (by omega)
 simp (config:={ maxSteps:=10000000 }) (disch:=first | assumption | omega | (simp only [Y9,Y2,Y1,Y8,Z5,Y6,Y4,X9,Y0,X8,Z4,Y7,Z0,Y5,Z6,Z7,Y3,X7,R5,T9,U2,R9,U1,R7,R8,U0,R6,S9,J2,I4,Nat.reduceMul,Nat.reduceLT,q9,C8,G7,F7,l8,D6,q8,F6,F3,Bool.not_false,Bool.not_true,Bool.and_true,Bool.true_and,Bool.and_self,r9,D5,Nat.zero_add,Nat.reduceAdd,j4,F8,Nat.reduceBEq,G9,H6,E5,j6,A8,l7,l6,l9,C9,j4,F4,G6,G5,F9,H8,H9,D7,z8,D9,w9,o8,o9,F5,D8,I7,IntKind.bits,E9,A9,o7] <;> omega) | assumption) only [a0u,a2B,a2t,a2s,a2u,a2z,a2v,a2r,a2w,a2A,a2y,a1r,a1O,a1A,a1q,a1E,a1s,a1g,a1y,a1W,a1J,a1T,a1l,a1X,a1M,a1K,a1j,a1v,a1R,a1P,a1z,a1V,a1L,a1C,a1o,a1m,a1h,a1w,a1t,a1Q,a1S,a1F,a1N,a1Z,a1Y,a1D,a1H,a1f,a1B,a1k,a1G,a1n,a0o,a1u,a0q,a1i,a0t,a1x,a0r,a1p,c2q,a0s,a1e,a0p,a1I,a3b,a2Z,H7,hA,hB,List.length_map,h34',h35,h39,h38,h44,h96,h42,  decide_true,K4,J4,V9,G6,G5,F9,Bool.not_true,U7,r9,D5,I5,Nat.reduceMul,ap9,a0P,a0Q,a2e,a2f,a0k,X6,a0g,V3,X4,a0J,bn,un,U6,a0d,V6,a2F,K6,I8,M0,J8,U5,O5,O4,A9,o7,K4,J4,l_0,l_s,P5,L9,V.d9Z,P7,Q8,Q7,U3,Q0,a0G,j6,l7,l9,U9,V4,a0l,R3,Q5,q9,C8,l8,Bool.and_self,K8,M9,P8,a0j,a0Z,V5,K7,N9,X5,I5,I9,E8,K9,N8,O6,Q9,J6,J7,Nat.zero_add,Nat.add_zero,Nat.reduceAdd,U8,O8,P9,a0L,V8]
 exact I6.done ⟨by simp only [M7,List.append_nil],fun i hi=>by simp (config:={ maxSteps:=10000000 }) (disch:=first | assumption | omega | (simp only [Y9,Y2,Y1,Y8,Z5,Y6,Y4,X9,Y0,X8,Z4,Y7,Z0,Y5,Z6,Z7,Y3,X7,R5,T9,U2,R9,U1,R7,R8,U0,R6,S9,J2,I4,Nat.reduceMul,Nat.reduceLT,q9,C8,G7,F7,l8,D6,q8,F6,F3,Bool.not_false,Bool.not_true,Bool.and_true,Bool.true_and,Bool.and_self,r9,D5,Nat.zero_add,Nat.reduceAdd,j4,F8,Nat.reduceBEq,G9,H6,E5,j6,A8,l7,l6,l9,C9,j4,F4,G6,G5,F9,H8,H9,D7,z8,D9,w9,o8,o9,F5,D8,I7,IntKind.bits,E9,A9,o7] <;> omega) | assumption) only [E8]⟩
theorem d0j (N:Nat) (call a0D call3:j5) (X:Ins) (tv lv:Value) (a b:Nat) (hA:X.A=.ofNat a) (hB:X.B=.ofNat b) (ha:a < 4294967296) (hb:b < 4294967296) (h42:call 42 [.int .u64 (.ofNat X.N),.int .i64 (.ofNat 64)]=M.pure (.ret (.string ⟨⟨Lib.itoa (sgn 64 X.N)⟩⟩))) (hl:M4 (Lib.itoa (sgn 64 X.N)) ≤ 30)
 (c:Nat) (h:Trie VObj) (h34:∀ hh,(∀ b,b < c → hh.get b=h.get b) → ∃ z:List Nat → List Nat, ∀ r w,go (call 34 [H7 X tv lv]) ⟨c + 1,hh,r,w⟩=some (.ret (.bool true),⟨c + 1,hh,z r,w⟩))
 (C:Calls12 N call a0D call3 X 19)
 (Ht:P6 c h tv (O9 X.types)) (Hl:P6 c h lv (O9 X.labels)) (r w:List Nat) :
 I6 (go (a0u G8 N call (H7 X tv lv)) ⟨c,h,r,w⟩) fun x s=>x=.ret (.string ⟨⟨M6 (V7 X.op) (32 :: Lib.itoa (sgn 64 X.N))⟩⟩) ∧ ∀ i,i < c → s.h.get i=h.get i:=by
 obtain ⟨z,h34'⟩:=h34 (upd h c (.cells [(.int .i64 X.op, 0),(.int .i64 X.A, 0),(.int .i64 X.B, 0),(.int .u64 (Int.ofNat X.N), 0),(.int .i64 X.k, 0),(.int .i64 X.v, 0),(.int .i64 X.i, 0),(tv, 0),(lv, 0)] 0 false)) (fun b hb=>E8 (by omega))
 obtain ⟨h35,h39,h36,h36',h37c,h37,h37',h38,h44,h96⟩:=C
 obtain ⟨ta,te,rfl,_⟩:=id Ht
 obtain ⟨la,le,rfl,_⟩:=id Hl
 simp only [H7,hA,hB,List.length_map] at h34'
 have nl:=a0e X.op
 have l1:=a0h a (by omega)
 have l2:=a0h b (by omega)
 have q1:=h37 a (by omega)
 have q2:=h37' b (by omega)
 have q3:=h37' a (by omega)
 have q4:=h37c a (by omega)
 simp (config:={ maxSteps:=10000000 }) (disch:=first | assumption | omega | (simp only [Y9,Y2,Y1,Y8,Z5,Y6,Y4,X9,Y0,X8,Z4,Y7,Z0,Y5,Z6,Z7,Y3,X7,R5,T9,U2,R9,U1,R7,R8,U0,R6,S9,J2,I4,Nat.reduceMul,Nat.reduceLT,q9,C8,G7,F7,l8,D6,q8,F6,F3,Bool.not_false,Bool.not_true,Bool.and_true,Bool.true_and,Bool.and_self,r9,D5,Nat.zero_add,Nat.reduceAdd,j4,F8,Nat.reduceBEq,G9,H6,E5,j6,A8,l7,l6,l9,C9,j4,F4,G6,G5,F9,H8,H9,D7,z8,D9,w9,o8,o9,F5,D8,I7,IntKind.bits,E9,A9,o7] <;> omega) | assumption) only [a0u,a2B,a2t,a2s,a2u,a2z,a2v,a2r,a2w,a2A,a2y,a1r,a1O,a1A,a1q,a1E,a1s,a1g,a1y,a1W,a1J,a1T,a1l,a1X,a1M,a1K,a1j,a1v,a1R,a1P,a1z,a1V,a1L,a1C,a1o,a1m,a1h,a1w,a1t,a1Q,a1S,a1F,a1N,a1Z,a1Y,a1D,a1H,a1f,a1B,a1k,a1G,a1n,a0o,a1u,a0q,a1i,a0t,a1x,a0r,a1p,a0s,a1e,c2h,a0p,a1I,a3b,a2Z,H7,hA,hB,List.length_map,h34',h35,h39,h38,h44,h96,h42,  decide_true,K4,J4,V9,G6,G5,F9,Bool.not_true,U7,r9,D5,I5,Nat.reduceMul,ap9,a0P,a0Q,a2e,a2f,a0k,X6,a0g,V3,X4,a0J,bn,un,U6,a0d,V6,a2F,K6,I8,M0,J8,U5,O5,O4,A9,o7,K4,J4,l_0,l_s,P5,L9,V.d9Z,P7,Q8,Q7,U3,Q0,a0G,j6,l7,l9,U9,V4,a0l,R3,Q5,q9,C8,l8,Bool.and_self,K8,M9,P8,a0j,a0Z,V5,K7,N9,X5,I5,I9,E8,K9,N8,O6,Q9,J6,J7,Nat.zero_add,Nat.add_zero,Nat.reduceAdd,U8,O8,P9,a0L,V8]
 exact I6.done ⟨by simp only [M7,List.append_nil],fun i hi=>by simp (config:={ maxSteps:=10000000 }) (disch:=first | assumption | omega | (simp only [Y9,Y2,Y1,Y8,Z5,Y6,Y4,X9,Y0,X8,Z4,Y7,Z0,Y5,Z6,Z7,Y3,X7,R5,T9,U2,R9,U1,R7,R8,U0,R6,S9,J2,I4,Nat.reduceMul,Nat.reduceLT,q9,C8,G7,F7,l8,D6,q8,F6,F3,Bool.not_false,Bool.not_true,Bool.and_true,Bool.true_and,Bool.and_self,r9,D5,Nat.zero_add,Nat.reduceAdd,j4,F8,Nat.reduceBEq,G9,H6,E5,j6,A8,l7,l6,l9,C9,j4,F4,G6,G5,F9,H8,H9,D7,z8,D9,w9,o8,o9,F5,D8,I7,IntKind.bits,E9,A9,o7] <;> omega) | assumption) only [E8]⟩
end Go.Proofs.YtmomonnlmbljoaaGreatDoor
end
section
namespace Go.Proofs.YtmomonnlmbljoaaGreatDoor
open Go.V Go.RowKit Go.Shelf Go.Proofs
set_option maxRecDepth 1000000
set_option maxHeartbeats 4000000
set_option linter.unusedVariables false
attribute [local congr] a0b Z9 a0A a0B a0M a0T a3c
variable {mL:Int}
theorem d6m (N:Nat) (call a0D call3:j5) (X:Ins) (tv lv:Value) (a b:Nat) (hA:X.A=.ofNat a) (hB:X.B=.ofNat b) (ha:a < 4294967296) (hb:b < 4294967296) (t:Int) (ht:X.types=[t]) (h40:∀ n,call 40 [.int .i64 n]=M.pure (.ret (.string ⟨⟨a2k n⟩⟩)))
 (c:Nat) (h:Trie VObj) (h34:∀ hh,(∀ b,b < c → hh.get b=h.get b) → ∃ z:List Nat → List Nat, ∀ r w,go (call 34 [H7 X tv lv]) ⟨c + 1,hh,r,w⟩=some (.ret (.bool true),⟨c + 1,hh,z r,w⟩))
 (C:Calls12 N call a0D call3 X 6)
 (Ht:P6 c h tv (O9 X.types)) (Hl:P6 c h lv (O9 X.labels)) (r w:List Nat) :
 I6 (go (a0u G8 N call (H7 X tv lv)) ⟨c,h,r,w⟩) fun x s=>x=.ret (.string ⟨⟨M6 (V7 X.op) (M6 [32, 40, 114, 101, 115, 117, 108, 116, 32] (M6 (a2k t) [41]))⟩⟩) ∧ ∀ i,i < c → s.h.get i=h.get i:=by
 obtain ⟨z,h34'⟩:=h34 (upd h c (.cells [(.int .i64 X.op, 0),(.int .i64 X.A, 0),(.int .i64 X.B, 0),(.int .u64 (Int.ofNat X.N), 0),(.int .i64 X.k, 0),(.int .i64 X.v, 0),(.int .i64 X.i, 0),(tv, 0),(lv, 0)] 0 false)) (fun b hb=>E8 (by omega))
 obtain ⟨b0,o0,g0,cs0,cur0,ro0,e0,hb0,hg0,ht0⟩:=Ht.get (i:=0) (x:=.int .i64 t) (by rw [ht]; rfl)
 rw [Nat.add_zero] at ht0
 have q7:=a7f t
 have hlen:X.types.length=1:=by rw [ht]; rfl
 obtain ⟨h35,h39,h36,h36',h37c,h37,h37',h38,h44,h96⟩:=C
 obtain ⟨ta,te,rfl,_⟩:=id Ht
 obtain ⟨la,le,rfl,_⟩:=id Hl
 cases e0
 simp only [H7,hA,hB,hlen,List.length_map] at h34'
 have nl:=a0e X.op
 have l1:=a0h a (by omega)
 have l2:=a0h b (by omega)
 have q1:=h37 a (by omega)
 have q2:=h37' b (by omega)
 have q3:=h37' a (by omega)
 have q4:=h37c a (by omega)
 simp (config:={ maxSteps:=10000000 }) (disch:=first | assumption | omega | (simp only [Y9,Y2,Y1,Y8,Z5,Y6,Y4,X9,Y0,X8,Z4,Y7,Z0,Y5,Z6,Z7,Y3,X7,R5,T9,U2,R9,U1,R7,R8,U0,R6,S9,J2,I4,Nat.reduceMul,Nat.reduceLT,q9,C8,G7,F7,l8,D6,q8,F6,F3,Bool.not_false,Bool.not_true,Bool.and_true,Bool.true_and,Bool.and_self,r9,D5,Nat.zero_add,Nat.reduceAdd,j4,F8,Nat.reduceBEq,G9,H6,E5,j6,A8,l7,l6,l9,C9,j4,F4,G6,G5,F9,H8,H9,D7,z8,D9,w9,o8,o9,F5,D8,I7,IntKind.bits,E9,A9,o7] <;> omega) | assumption) only [a0u,a2B,a2t,a2s,a2u,a2z,a2v,a2r,a2w,a2A,a2y,a1r,a1O,a1A,a1q,a1E,a1s,a1g,a1y,a1W,a1J,a1T,a1l,a1X,a1M,a1K,a1j,a1v,a1R,a1P,a1z,a1V,a1L,a1C,a1o,a1m,a1h,a1w,a1t,a1Q,a1S,a1F,a1N,a1Z,a1Y,a1D,a1H,a1f,a1B,a1k,a1G,a1n,a0o,a1u,a0q,a1i,c1y,a0t,a1x,a0r,a1p,a0s,a1e,a0p,a1I,a3b,a2Z,H7,hA,hB,List.length_map,h34',h35,h39,h38,h44,h96,h40,hg0,ht0,hlen,a7u,  decide_true,K4,J4,V9,G6,G5,F9,Bool.not_true,U7,r9,D5,I5,Nat.reduceMul,ap9,a0P,a0Q,a2e,a2f,a0k,X6,a0g,V3,X4,a0J,bn,un,U6,a0d,V6,a2F,K6,I8,M0,J8,U5,O5,O4,A9,o7,K4,J4,l_0,l_s,P5,L9,V.d9Z,P7,Q8,Q7,U3,a0n,Q0,a0G,a7u,j6,l7,l9,U9,V4,a0l,R3,Q5,q9,C8,l8,Bool.and_self,K8,M9,P8,a0j,a0Z,V5,K7,N9,X5,I5,I9,E8,K9,N8,O6,Q9,J6,J7,Nat.zero_add,Nat.add_zero,Nat.reduceAdd,U8,O8,P9,a0L,V8]
 exact I6.done ⟨by simp only [M7,List.append_nil],fun i hi=>by simp (config:={ maxSteps:=10000000 }) (disch:=first | assumption | omega | (simp only [Y9,Y2,Y1,Y8,Z5,Y6,Y4,X9,Y0,X8,Z4,Y7,Z0,Y5,Z6,Z7,Y3,X7,R5,T9,U2,R9,U1,R7,R8,U0,R6,S9,J2,I4,Nat.reduceMul,Nat.reduceLT,q9,C8,G7,F7,l8,D6,q8,F6,F3,Bool.not_false,Bool.not_true,Bool.and_true,Bool.true_and,Bool.and_self,r9,D5,Nat.zero_add,Nat.reduceAdd,j4,F8,Nat.reduceBEq,G9,H6,E5,j6,A8,l7,l6,l9,C9,j4,F4,G6,G5,F9,H8,H9,D7,z8,D9,w9,o8,o9,F5,D8,I7,IntKind.bits,E9,A9,o7] <;> omega) | assumption) only [E8]⟩
end Go.Proofs.YtmomonnlmbljoaaGreatDoor
end
section
namespace Go.Proofs.YtmomonnlmbljoaaGreatDoor
open Go.V Go.RowKit Go.Shelf Go.Proofs
set_option maxRecDepth 1000000
set_option maxHeartbeats 4000000
set_option linter.unusedVariables false
attribute [local congr] a0b Z9 a0A a0B a0M a0T a3c
variable {mL:Int}
theorem d1y (N:Nat) (call a0D call3:j5) (X:Ins) (tv lv:Value) (a b:Nat) (hA:X.A=.ofNat a) (hB:X.B=.ofNat b) (ha:a < 4294967296) (hb:b < 4294967296) (hs:M4 (a5J X.k X.v X.i) ≤ 30) (hk:(beqBytes (a5J X.k X.v X.i) [])=decide (X.k=0)) (h14:call 14 [.agg ⟨[.int .i64 X.k,.int .i64 X.v,.int .i64 X.i]⟩]=M.pure (.ret (.string ⟨⟨a5J X.k X.v X.i⟩⟩)))
 (c:Nat) (h:Trie VObj) (h34:∀ hh,(∀ b,b < c → hh.get b=h.get b) → ∃ z:List Nat → List Nat, ∀ r w,go (call 34 [H7 X tv lv]) ⟨c + 1,hh,r,w⟩=some (.ret (.bool true),⟨c + 1,hh,z r,w⟩))
 (C:Calls12 N call a0D call3 X 1)
 (Ht:P6 c h tv (O9 X.types)) (Hl:P6 c h lv (O9 X.labels)) (r w:List Nat) :
 I6 (go (a0u G8 N call (H7 X tv lv)) ⟨c,h,r,w⟩) fun x s=>x=.ret (.string ⟨⟨M6 (V7 X.op) (bcase (decide (X.k=0)) [] (32 :: a5J X.k X.v X.i))⟩⟩) ∧ ∀ i,i < c → s.h.get i=h.get i:=by
 obtain ⟨z,h34'⟩:=h34 (upd h c (.cells [(.int .i64 X.op, 0),(.int .i64 X.A, 0),(.int .i64 X.B, 0),(.int .u64 (Int.ofNat X.N), 0),(.int .i64 X.k, 0),(.int .i64 X.v, 0),(.int .i64 X.i, 0),(tv, 0),(lv, 0)] 0 false)) (fun b hb=>E8 (by omega))
 obtain ⟨h35,h39,h36,h36',h37c,h37,h37',h38,h44,h96⟩:=C
 obtain ⟨ta,te,rfl,_⟩:=id Ht
 obtain ⟨la,le,rfl,_⟩:=id Hl
 simp only [H7,hA,hB,List.length_map] at h34'
 have nl:=a0e X.op
 have l1:=a0h a (by omega)
 have l2:=a0h b (by omega)
 have q1:=h37 a (by omega)
 have q2:=h37' b (by omega)
 have q3:=h37' a (by omega)
 have q4:=h37c a (by omega)
 cases hz:decide (X.k=0) with
 | true=>
   simp (config:={ maxSteps:=10000000 }) (disch:=first | assumption | omega | (simp only [Y9,Y2,Y1,Y8,Z5,Y6,Y4,X9,Y0,X8,Z4,Y7,Z0,Y5,Z6,Z7,Y3,X7,R5,T9,U2,R9,U1,R7,R8,U0,R6,S9,J2,I4,Nat.reduceMul,Nat.reduceLT,q9,C8,G7,F7,l8,D6,q8,F6,F3,Bool.not_false,Bool.not_true,Bool.and_true,Bool.true_and,Bool.and_self,r9,D5,Nat.zero_add,Nat.reduceAdd,j4,F8,Nat.reduceBEq,G9,H6,E5,j6,A8,l7,l6,l9,C9,j4,F4,G6,G5,F9,H8,H9,D7,z8,D9,w9,o8,o9,F5,D8,I7,IntKind.bits,E9,A9,o7] <;> omega) | assumption) only [a0u,a2B,a2t,a2s,a2u,a2z,a2v,a2r,a2w,a2A,a2y,a1r,a1O,a1A,a1q,a1E,a1s,a1g,a1y,a1W,a1J,a1T,a1l,a1X,a1M,a1K,a1j,a1v,a1R,a1P,a1z,a1V,a1L,a1C,a1o,a1m,a1h,a1w,a1t,a1Q,a1S,a1F,a1N,a1Z,a1Y,a1D,a1H,a1f,a1B,a1k,a1G,a1n,a0o,a1u,a0q,a1i,a0t,a1x,a0r,a1p,a0s,a1e,a0p,a1I,a3b,a2Z,H7,hA,hB,List.length_map,h34',h35,h39,h38,h44,h96,h14,hk,hz,decide_true,K4,J4,V9,G5,F9,Bool.not_true,U7,I5,a0k,X6,a0g,V3,a0J,bn,un,U6,a0d,V6,a2F,K6,I8,M0,J8,U5,O5,O4,A9,o7,K4,J4,l_0,l_s,P5,L9,V.d9Z,P7,Q7,U3,a9f,Q0,a0G,j6,l7,l9,U9,V4,a0l,R3,Q5,q9,C8,l8,Bool.and_self,K8,M9,P8,a0j,a0Z,V5,K7,N9,X5,I5,I9,E8,K9,N8,O6,Q9,J6,J7,Nat.zero_add,Nat.add_zero,U8,O8,P9]
   exact I6.done ⟨by simp only [M7,List.append_nil],fun i hi=>by simp (config:={ maxSteps:=10000000 }) (disch:=first | assumption | omega | (simp only [Y9,Y2,Y1,Y8,Z5,Y6,Y4,X9,Y0,X8,Z4,Y7,Z0,Y5,Z6,Z7,Y3,X7,R5,T9,U2,R9,U1,R7,R8,U0,R6,S9,J2,I4,Nat.reduceMul,Nat.reduceLT,q9,C8,G7,F7,l8,D6,q8,F6,F3,Bool.not_false,Bool.not_true,Bool.and_true,Bool.true_and,Bool.and_self,r9,D5,Nat.zero_add,Nat.reduceAdd,j4,F8,Nat.reduceBEq,G9,H6,E5,j6,A8,l7,l6,l9,C9,j4,F4,G6,G5,F9,H8,H9,D7,z8,D9,w9,o8,o9,F5,D8,I7,IntKind.bits,E9,A9,o7] <;> omega) | assumption) only [E8]⟩
 | false=>
   simp (config:={ maxSteps:=10000000 }) (disch:=first | assumption | omega | (simp only [Y9,Y2,Y1,Y8,Z5,Y6,Y4,X9,Y0,X8,Z4,Y7,Z0,Y5,Z6,Z7,Y3,X7,R5,T9,U2,R9,U1,R7,R8,U0,R6,S9,J2,I4,Nat.reduceMul,Nat.reduceLT,q9,C8,G7,F7,l8,D6,q8,F6,F3,Bool.not_false,Bool.not_true,Bool.and_true,Bool.true_and,Bool.and_self,r9,D5,Nat.zero_add,Nat.reduceAdd,j4,F8,Nat.reduceBEq,G9,H6,E5,j6,A8,l7,l6,l9,C9,j4,F4,G6,G5,F9,H8,H9,D7,z8,D9,w9,o8,o9,F5,D8,I7,IntKind.bits,E9,A9,o7] <;> omega) | assumption) only [a0u,a2B,a2t,a2s,a2u,a2z,a2v,a2r,a2w,a2A,a2y,a1r,a1O,a1A,a1q,a1E,a1s,a1g,a1y,a1W,a1J,a1T,a1l,a1X,a1M,a1K,a1j,a1v,a1R,a1P,a1z,a1V,a1L,a1C,a1o,a1m,a1h,a1w,a1t,a1Q,a1S,a1F,a1N,a1Z,a1Y,a1D,a1H,a1f,a1B,a1k,a1G,a1n,a0o,a1u,a0q,a1i,a0t,a1x,a0r,a1p,a0s,a1e,a0p,a1I,a3b,a2Z,H7,hA,hB,List.length_map,h34',h35,h39,h38,h44,h96,h14,hk,hz,decide_true,K4,J4,V9,G5,F9,Bool.not_true,Bool.not_false,U7,r9,D5,I5,Nat.reduceMul,ap9,a0P,a0Q,a2e,a2f,a0k,X6,a0g,V3,X4,a0J,bn,un,U6,a0d,V6,a2F,K6,I8,M0,J8,U5,O5,O4,A9,o7,K4,J4,l_0,l_s,P5,L9,V.d9Z,P7,Q7,U3,a9f,Q0,a0G,j6,l7,l9,U9,V4,a0l,R3,Q5,q9,C8,l8,Bool.and_self,K8,M9,P8,a0j,a0Z,V5,K7,N9,X5,I5,I9,E8,K9,N8,O6,Q9,J6,J7,Nat.zero_add,Nat.add_zero,Nat.reduceAdd,U8,O8,P9]
   exact I6.done ⟨by simp only [M7,List.append_nil],fun i hi=>by simp (config:={ maxSteps:=10000000 }) (disch:=first | assumption | omega | (simp only [Y9,Y2,Y1,Y8,Z5,Y6,Y4,X9,Y0,X8,Z4,Y7,Z0,Y5,Z6,Z7,Y3,X7,R5,T9,U2,R9,U1,R7,R8,U0,R6,S9,J2,I4,Nat.reduceMul,Nat.reduceLT,q9,C8,G7,F7,l8,D6,q8,F6,F3,Bool.not_false,Bool.not_true,Bool.and_true,Bool.true_and,Bool.and_self,r9,D5,Nat.zero_add,Nat.reduceAdd,j4,F8,Nat.reduceBEq,G9,H6,E5,j6,A8,l7,l6,l9,C9,j4,F4,G6,G5,F9,H8,H9,D7,z8,D9,w9,o8,o9,F5,D8,I7,IntKind.bits,E9,A9,o7] <;> omega) | assumption) only [E8]⟩
end Go.Proofs.YtmomonnlmbljoaaGreatDoor
end
section
namespace Go.Proofs.YtmomonnlmbljoaaGreatDoor
open Go.V Go.RowKit Go.Shelf Go.Proofs
set_option maxRecDepth 1000000
set_option maxHeartbeats 4000000
set_option linter.unusedVariables false
attribute [local congr] a0b Z9 a0A a0B a0M a0T a3c
variable {mL:Int}
theorem c8F (N:Nat) (call a0D call3:j5) (X:Ins) (tv lv:Value) (a b:Nat) (hA:X.A=.ofNat a) (hB:X.B=.ofNat b) (ha:a < 4294967296) (hb:b < 4294967296)
 (c:Nat) (h:Trie VObj) (h34:∀ hh,(∀ b,b < c → hh.get b=h.get b) → ∃ z:List Nat → List Nat, ∀ r w,go (call 34 [H7 X tv lv]) ⟨c + 1,hh,r,w⟩=some (.ret (.bool true),⟨c + 1,hh,z r,w⟩))
 (C:Calls12 N call a0D call3 X 14)
 (Ht:P6 c h tv (O9 X.types)) (Hl:P6 c h lv (O9 X.labels)) (r w:List Nat) :
 I6 (go (a0u G8 N call (H7 X tv lv)) ⟨c,h,r,w⟩) fun x s=>x=.ret (.string ⟨⟨M6 (V7 X.op) (a4L a b)⟩⟩) ∧ ∀ i,i < c → s.h.get i=h.get i:=by
 obtain ⟨z,h34'⟩:=h34 (upd h c (.cells [(.int .i64 X.op, 0),(.int .i64 X.A, 0),(.int .i64 X.B, 0),(.int .u64 (Int.ofNat X.N), 0),(.int .i64 X.k, 0),(.int .i64 X.v, 0),(.int .i64 X.i, 0),(tv, 0),(lv, 0)] 0 false)) (fun b hb=>E8 (by omega))
 obtain ⟨h35,h39,h36,h36',h37c,h37,h37',h38,h44,h96⟩:=C
 obtain ⟨ta,te,rfl,_⟩:=id Ht
 obtain ⟨la,le,rfl,_⟩:=id Hl
 have q5:=h37 b (by omega)
 simp only [H7,hA,hB,  List.length_map] at h34'
 have nl:=a0e X.op
 have l1:=a0h a (by omega)
 have l2:=a0h b (by omega)
 have q1:=h37 a (by omega)
 have q2:=h37' b (by omega)
 have q3:=h37' a (by omega)
 have q4:=h37c a (by omega)
 cases hy:a.beq 0 with
 | true=>
   cases hz:b.beq 0 with
   | true=>
     simp (config:={ maxSteps:=10000000 }) (disch:=first | assumption | omega | (simp only [Y9,Y2,Y1,Y8,Z5,Y6,Y4,X9,Y0,X8,Z4,Y7,Z0,Y5,Z6,Z7,Y3,X7,R5,T9,U2,R9,U1,R7,R8,U0,R6,S9,J2,I4,Nat.reduceMul,Nat.reduceLT,q9,C8,G7,F7,l8,D6,q8,F6,F3,Bool.not_false,Bool.not_true,Bool.and_true,Bool.true_and,Bool.and_self,r9,D5,Nat.zero_add,Nat.reduceAdd,j4,F8,Nat.reduceBEq,G9,H6,E5,j6,A8,l7,l6,l9,C9,j4,F4,G6,G5,F9,H8,H9,D7,z8,D9,w9,o8,o9,F5,D8,I7,IntKind.bits,E9,A9,o7] <;> omega) | assumption) only [a0u,a2B,a2t,a2s,a2u,a2z,a2v,a2r,a2w,a2A,a2y,a1r,a1O,a1A,a1q,a1E,a1s,a1g,a1y,a1W,a1J,a1T,a1l,a1X,a1M,a1K,a1j,a1v,a1R,a1P,a1z,a1V,a1L,a1C,a1o,a1m,a1h,a1w,a1t,a1Q,a1S,a1F,a1N,a1Z,a1Y,a1D,a1H,a1f,a1B,a1k,a1G,a1n,a0o,a1u,a0q,a1i,a0t,a1x,a0r,a1p,a0s,a1e,a0p,a1I,a3b,a2Z,H7,hA,hB,List.length_map,h34',h35,h39,h38,h44,h96,hy,hz,decide_true,K4,J4,V9,G6,G5,F9,Bool.not_true,Bool.not_false,U7,I5,a0k,X6,a0g,V3,a0J,bn,un,U6,a0d,V6,a2F,K6,I8,M0,J8,U5,O5,O4,A9,o7,a3a,K4,J4,l_0,l_s,a5o,P5,L9,V.d9Z,P7,Q7,a0S,U3,Q0,a0G,j6,l7,l9,U9,V4,a0l,R3,Q5,q9,C8,l8,Bool.and_self,K8,M9,P8,a0j,a0Z,V5,K7,N9,X5,I5,I9,E8,K9,N8,O6,Q9,J6,J7,Nat.zero_add,Nat.add_zero,U8,O8,P9]
     exact I6.done ⟨by simp only [a4L,K4,Bool.and_self,hy,hz,  M7,List.append_nil],fun i hi=>by simp (config:={ maxSteps:=10000000 }) (disch:=first | assumption | omega | (simp only [Y9,Y2,Y1,Y8,Z5,Y6,Y4,X9,Y0,X8,Z4,Y7,Z0,Y5,Z6,Z7,Y3,X7,R5,T9,U2,R9,U1,R7,R8,U0,R6,S9,J2,I4,Nat.reduceMul,Nat.reduceLT,q9,C8,G7,F7,l8,D6,q8,F6,F3,Bool.not_false,Bool.not_true,Bool.and_true,Bool.true_and,Bool.and_self,r9,D5,Nat.zero_add,Nat.reduceAdd,j4,F8,Nat.reduceBEq,G9,H6,E5,j6,A8,l7,l6,l9,C9,j4,F4,G6,G5,F9,H8,H9,D7,z8,D9,w9,o8,o9,F5,D8,I7,IntKind.bits,E9,A9,o7] <;> omega) | assumption) only [E8]⟩
   | false=>
     simp (config:={ maxSteps:=10000000 }) (disch:=first | assumption | omega | (simp only [Y9,Y2,Y1,Y8,Z5,Y6,Y4,X9,Y0,X8,Z4,Y7,Z0,Y5,Z6,Z7,Y3,X7,R5,T9,U2,R9,U1,R7,R8,U0,R6,S9,J2,I4,Nat.reduceMul,Nat.reduceLT,q9,C8,G7,F7,l8,D6,q8,F6,F3,Bool.not_false,Bool.not_true,Bool.and_true,Bool.true_and,Bool.and_self,r9,D5,Nat.zero_add,Nat.reduceAdd,j4,F8,Nat.reduceBEq,G9,H6,E5,j6,A8,l7,l6,l9,C9,j4,F4,G6,G5,F9,H8,H9,D7,z8,D9,w9,o8,o9,F5,D8,I7,IntKind.bits,E9,A9,o7] <;> omega) | assumption) only [a0u,a2B,a2t,a2s,a2u,a2z,a2v,a2r,a2w,a2A,a2y,a1r,a1O,a1A,a1q,a1E,a1s,a1g,a1y,a1W,a1J,a1T,a1l,a1X,a1M,a1K,a1j,a1v,a1R,a1P,a1z,a1V,a1L,a1C,a1o,a1m,a1h,a1w,a1t,a1Q,a1S,a1F,a1N,a1Z,a1Y,a1D,a1H,a1f,a1B,a1k,a1G,a1n,a0o,a1u,a0q,a1i,a0t,a1x,a0r,a1p,a0s,a1e,a0p,a1I,a4h,a2L,a4p,a2M,a3b,a2Z,H7,hA,hB,List.length_map,h34',h35,h39,h36,h38,h44,h96,q1,q5,hy,hz,decide_true,K4,J4,V9,G6,G5,F9,Bool.not_true,Bool.not_false,U7,r9,D5,I5,Nat.reduceMul,ap9,a0P,a0Q,a2e,a2f,a0k,X6,a0g,V3,X4,a0J,bn,un,U6,a0d,V6,a2F,K6,I8,M0,J8,U5,O5,O4,A9,o7,a3a,K4,J4,l_0,l_s,a5o,P5,L9,V.d9Z,P7,Q8,Q7,a0S,U3,Q0,a0G,j6,l7,l9,U9,V4,a0l,R3,Q5,q9,C8,l8,Bool.and_self,K8,M9,P8,a0j,a0Z,V5,K7,N9,X5,I5,I9,E8,K9,N8,O6,Q9,J6,J7,Nat.zero_add,Nat.add_zero,Nat.reduceAdd,U8,O8,P9,a0L,V8]
     exact I6.done ⟨by simp only [Z8,a4L,J4,Bool.and_false,hy,hz,  M7,List.cons_append,List.append_nil],fun i hi=>by simp (config:={ maxSteps:=10000000 }) (disch:=first | assumption | omega | (simp only [Y9,Y2,Y1,Y8,Z5,Y6,Y4,X9,Y0,X8,Z4,Y7,Z0,Y5,Z6,Z7,Y3,X7,R5,T9,U2,R9,U1,R7,R8,U0,R6,S9,J2,I4,Nat.reduceMul,Nat.reduceLT,q9,C8,G7,F7,l8,D6,q8,F6,F3,Bool.not_false,Bool.not_true,Bool.and_true,Bool.true_and,Bool.and_self,r9,D5,Nat.zero_add,Nat.reduceAdd,j4,F8,Nat.reduceBEq,G9,H6,E5,j6,A8,l7,l6,l9,C9,j4,F4,G6,G5,F9,H8,H9,D7,z8,D9,w9,o8,o9,F5,D8,I7,IntKind.bits,E9,A9,o7] <;> omega) | assumption) only [E8]⟩
 | false=>
   cases hz:b.beq 0 with
   | true=>
     simp (config:={ maxSteps:=10000000 }) (disch:=first | assumption | omega | (simp only [Y9,Y2,Y1,Y8,Z5,Y6,Y4,X9,Y0,X8,Z4,Y7,Z0,Y5,Z6,Z7,Y3,X7,R5,T9,U2,R9,U1,R7,R8,U0,R6,S9,J2,I4,Nat.reduceMul,Nat.reduceLT,q9,C8,G7,F7,l8,D6,q8,F6,F3,Bool.not_false,Bool.not_true,Bool.and_true,Bool.true_and,Bool.and_self,r9,D5,Nat.zero_add,Nat.reduceAdd,j4,F8,Nat.reduceBEq,G9,H6,E5,j6,A8,l7,l6,l9,C9,j4,F4,G6,G5,F9,H8,H9,D7,z8,D9,w9,o8,o9,F5,D8,I7,IntKind.bits,E9,A9,o7] <;> omega) | assumption) only [a0u,a2B,a2t,a2s,a2u,a2z,a2v,a2r,a2w,a2A,a2y,a1r,a1O,a1A,a1q,a1E,a1s,a1g,a1y,a1W,a1J,a1T,a1l,a1X,a1M,a1K,a1j,a1v,a1R,a1P,a1z,a1V,a1L,a1C,a1o,a1m,a1h,a1w,a1t,a1Q,a1S,a1F,a1N,a1Z,a1Y,a1D,a1H,a1f,a1B,a1k,a1G,a1n,a0o,a1u,a0q,a1i,a0t,a1x,a0r,a1p,a0s,a1e,a0p,a1I,a4h,a2L,a4p,a2M,a3b,a2Z,H7,hA,hB,List.length_map,h34',h35,h39,h36,h38,h44,h96,q1,q5,hy,decide_true,K4,J4,V9,G6,G5,F9,Bool.not_true,Bool.not_false,U7,r9,D5,I5,Nat.reduceMul,ap9,a0P,a0Q,a2e,a2f,a0k,X6,a0g,V3,X4,a0J,bn,un,U6,a0d,V6,a2F,K6,I8,M0,J8,U5,O5,O4,A9,o7,a3a,K4,J4,l_0,l_s,a7N,P5,L9,V.d9Z,P7,Q8,Q7,a0S,U3,Q0,a0G,j6,l7,l9,U9,V4,a0l,R3,Q5,q9,C8,l8,Bool.and_self,K8,M9,P8,a0j,a0Z,V5,K7,N9,X5,I5,I9,E8,K9,N8,O6,Q9,J6,J7,Nat.zero_add,Nat.add_zero,Nat.reduceAdd,U8,O8,P9,a0L,V8]
     exact I6.done ⟨by simp only [Z8,a4L,J4,Bool.and_true,hy,hz,  M7,List.cons_append,List.append_nil],fun i hi=>by simp (config:={ maxSteps:=10000000 }) (disch:=first | assumption | omega | (simp only [Y9,Y2,Y1,Y8,Z5,Y6,Y4,X9,Y0,X8,Z4,Y7,Z0,Y5,Z6,Z7,Y3,X7,R5,T9,U2,R9,U1,R7,R8,U0,R6,S9,J2,I4,Nat.reduceMul,Nat.reduceLT,q9,C8,G7,F7,l8,D6,q8,F6,F3,Bool.not_false,Bool.not_true,Bool.and_true,Bool.true_and,Bool.and_self,r9,D5,Nat.zero_add,Nat.reduceAdd,j4,F8,Nat.reduceBEq,G9,H6,E5,j6,A8,l7,l6,l9,C9,j4,F4,G6,G5,F9,H8,H9,D7,z8,D9,w9,o8,o9,F5,D8,I7,IntKind.bits,E9,A9,o7] <;> omega) | assumption) only [E8]⟩
   | false=>
     simp (config:={ maxSteps:=10000000 }) (disch:=first | assumption | omega | (simp only [Y9,Y2,Y1,Y8,Z5,Y6,Y4,X9,Y0,X8,Z4,Y7,Z0,Y5,Z6,Z7,Y3,X7,R5,T9,U2,R9,U1,R7,R8,U0,R6,S9,J2,I4,Nat.reduceMul,Nat.reduceLT,q9,C8,G7,F7,l8,D6,q8,F6,F3,Bool.not_false,Bool.not_true,Bool.and_true,Bool.true_and,Bool.and_self,r9,D5,Nat.zero_add,Nat.reduceAdd,j4,F8,Nat.reduceBEq,G9,H6,E5,j6,A8,l7,l6,l9,C9,j4,F4,G6,G5,F9,H8,H9,D7,z8,D9,w9,o8,o9,F5,D8,I7,IntKind.bits,E9,A9,o7] <;> omega) | assumption) only [a0u,a2B,a2t,a2s,a2u,a2z,a2v,a2r,a2w,a2A,a2y,a1r,a1O,a1A,a1q,a1E,a1s,a1g,a1y,a1W,a1J,a1T,a1l,a1X,a1M,a1K,a1j,a1v,a1R,a1P,a1z,a1V,a1L,a1C,a1o,a1m,a1h,a1w,a1t,a1Q,a1S,a1F,a1N,a1Z,a1Y,a1D,a1H,a1f,a1B,a1k,a1G,a1n,a0o,a1u,a0q,a1i,a0t,a1x,a0r,a1p,a0s,a1e,a0p,a1I,a4h,a2L,a4p,a2M,a3b,a2Z,H7,hA,hB,List.length_map,h34',h35,h39,h36,h38,h44,h96,q1,q5,hy,decide_true,K4,J4,V9,G6,G5,F9,Bool.not_true,Bool.not_false,U7,r9,D5,I5,Nat.reduceMul,ap9,a0P,a0Q,a2e,a2f,a0k,X6,a0g,V3,X4,a0J,bn,un,U6,a0d,V6,a2F,K6,I8,M0,J8,U5,O5,O4,A9,o7,a3a,K4,J4,l_0,l_s,a7N,P5,L9,V.d9Z,P7,Q8,Q7,a0S,U3,Q0,a0G,j6,l7,l9,U9,V4,a0l,R3,Q5,q9,C8,l8,Bool.and_self,K8,M9,P8,a0j,a0Z,V5,K7,N9,X5,I5,I9,E8,K9,N8,O6,Q9,J6,J7,Nat.zero_add,Nat.add_zero,Nat.reduceAdd,U8,O8,P9,a0L,V8]
     exact I6.done ⟨by simp only [Z8,a4L,J4,Bool.and_self,hy,hz,  M7,List.cons_append,List.append_nil],fun i hi=>by simp (config:={ maxSteps:=10000000 }) (disch:=first | assumption | omega | (simp only [Y9,Y2,Y1,Y8,Z5,Y6,Y4,X9,Y0,X8,Z4,Y7,Z0,Y5,Z6,Z7,Y3,X7,R5,T9,U2,R9,U1,R7,R8,U0,R6,S9,J2,I4,Nat.reduceMul,Nat.reduceLT,q9,C8,G7,F7,l8,D6,q8,F6,F3,Bool.not_false,Bool.not_true,Bool.and_true,Bool.true_and,Bool.and_self,r9,D5,Nat.zero_add,Nat.reduceAdd,j4,F8,Nat.reduceBEq,G9,H6,E5,j6,A8,l7,l6,l9,C9,j4,F4,G6,G5,F9,H8,H9,D7,z8,D9,w9,o8,o9,F5,D8,I7,IntKind.bits,E9,A9,o7] <;> omega) | assumption) only [E8]⟩
end Go.Proofs.YtmomonnlmbljoaaGreatDoor
end
section
namespace Go.Proofs.YtmomonnlmbljoaaGreatDoor
open Go.V Go.RowKit Go.Shelf Go.Proofs
set_option maxRecDepth 1000000
set_option maxHeartbeats 4000000
set_option linter.unusedVariables false
attribute [local congr] a0b Z9 a0A a0B a0M a0T a3c
variable {mL:Int}
noncomputable def a6F (a n al:Nat):List Value:=M6 (bcase (n.beq 0) [] [.string ⟨⟨111 :: 102 :: 102 :: 115 :: 101 :: 116 :: 61 :: Lib.decDigits n⟩⟩]) (bcase (a.beq al) [] [.string ⟨⟨97 :: 108 :: 105 :: 103 :: 110 :: 61 :: Lib.decDigits (2 ^ a)⟩⟩])
noncomputable def q41 (bs:List Value):Option (List Value):=match bs with
 | [.agg ⟨[.int .i64 op,.int .i64 (.ofNat a),.int .i64 b,.int .u64 (.ofNat n),.int .i64 k,.int .i64 v,.int .i64 i,.slice t1 n1 m1,.slice t2 n2 m2]⟩]=>
   bcase (decide (a ≤ 63) && (Nat.blt n 4294967296 && (a4G a4O op).isSome)) (some (a6F a n ((a4G a4O op).getD 0))) none
 | _=>none
theorem c7o {bs:List Value} {cs:List Value} (h:q41 bs=some cs):∃ op a b n k v i t1 n1 m1 t2 n2 m2 al,bs=[.agg ⟨[.int .i64 op,.int .i64 (.ofNat a),.int .i64 b,.int .u64 (.ofNat n),.int .i64 k,.int .i64 v,.int .i64 i,.slice t1 n1 m1,.slice t2 n2 m2]⟩] ∧
 a ≤ 63 ∧ n < 4294967296 ∧ a4G a4O op=some al ∧ cs=a6F a n al:=by
 unfold q41 at h
 split at h
 · obtain ⟨h1,rfl⟩:=a3d h
   simp only [Bool.and_eq_true,decide_eq_true_eq,Nat.blt_eq] at h1
   obtain ⟨al,hal⟩:=Option.isSome_iff_exists.1 h1.2.2
   exact ⟨_,_,_,_,_,_,_,_,_,_,_,_,_,al,rfl,h1.1,h1.2.1,hal,by rw [hal]; rfl⟩
 · cases h
def Row (x:CR) (c:Nat) (s2:V.S) (cs:List Value):Prop:=(cs=[] ∧ x=.ret (.slice none 0 0)) ∨ (cs ≠ [] ∧ ∃ b g ds,x=.ret (.slice (some ⟨b, 0,some g⟩) cs.length 1) ∧ c ≤ b ∧ s2.h.get b=some (.cells ds g false) ∧ a2m (·.1) ds=cs)
theorem t41 (N:Nat) (call:j5) (op:Int) (a n al:Nat) (b k v i:Int) (ha:a ≤ 63) (hn:n < 4294967296) (t1 t2:Option Addr) (n1 e1 n2 e2:Nat)
 (h93:∀ m:Nat,m < 18446744073709551616 → call 93 [.int .u64 (.ofNat m),.int .i64 (.ofNat 10)]=M.pure (.ret (.string ⟨⟨Lib.decDigits m⟩⟩)))
 (h94:call 94 [.int .i64 op]=M.pure (.ret (.int .i64 (.ofNat al)))) (c:Nat) (h:Trie VObj) (r w:List Nat) :
 I6 (go (b1d G8 N call (.agg ⟨[.int .i64 op,.int .i64 (.ofNat a),.int .i64 b,.int .u64 (.ofNat n),.int .i64 k,.int .i64 v,.int .i64 i,.slice t1 n1 e1,.slice t2 n2 e2]⟩)) ⟨c,h,r,w⟩) fun x s=>(∀ i,i < c → s.h.get i=h.get i) ∧ Row x c s (a6F a n al):=by
 have l2:=a0h n (by omega)
 have l3:=a0h (2 ^ a) (a9e a ha)
 have g1:=h93 n (by omega)
 have g2:=h93 (2 ^ a) (a9e a ha)
 have p1:a1d .u64 (Int.ofNat (2 ^ a))=Int.ofNat (2 ^ a):=a4o .u64 _ (a9e a ha)
 cases hN:n.beq 0 with
 | true=>
   cases hA:a.beq al with
   | true=>
     have e:a6F a n al=[]:=by unfold a6F; rw [hN,hA]; rfl
     rw [e]
     simp (config:={ maxSteps:=10000000 }) (disch:=first | assumption | omega | (simp only [Y9,Y2,Y1,Y8,Z5,Y6,Y4,X9,Y0,X8,Z4,Y7,Z0,Y5,Z6,Z7,Y3,X7,R5,T9,U2,R9,U1,R7,R8,U0,R6,S9,J2,I4,Nat.reduceMul,Nat.reduceLT,q9,C8,G7,F7,l8,D6,q8,F6,F3,Bool.not_false,Bool.not_true,Bool.and_true,Bool.true_and,Bool.and_self,r9,D5,Nat.zero_add,Nat.reduceAdd,j4,F8,Nat.reduceBEq,G9,H6,E5,j6,A8,l7,l6,l9,C9,j4,F4,G6,G5,F9,H8,H9,D7,z8,D9,w9,o8,o9,F5,D8,I7,IntKind.bits,E9,A9,o7] <;> omega) | assumption) only [b1d,b3v,b3C,b3h,b0E,b3D,b0t,h94,V9,hN,hA,Bool.not_true,I5,bn,U6,a0d,V6,K6,I8,M0,J8,O5,O4,A9,o7,J4,l_0,l_s,P5,L9,V.d9Z,Q8,a0S,Q0,K8,M9,K7,N9,I5,I9,K9,N8,O6,Q9,J6,J7,Nat.zero_add,Nat.add_zero,a0L,V8]
     exact I6.done ⟨fun i hi=>by simp (config:={ maxSteps:=10000000 }) (disch:=first | assumption | omega | (simp only [Y9,Y2,Y1,Y8,Z5,Y6,Y4,X9,Y0,X8,Z4,Y7,Z0,Y5,Z6,Z7,Y3,X7,R5,T9,U2,R9,U1,R7,R8,U0,R6,S9,J2,I4,Nat.reduceMul,Nat.reduceLT,q9,C8,G7,F7,l8,D6,q8,F6,F3,Bool.not_false,Bool.not_true,Bool.and_true,Bool.true_and,Bool.and_self,r9,D5,Nat.zero_add,Nat.reduceAdd,j4,F8,Nat.reduceBEq,G9,H6,E5,j6,A8,l7,l6,l9,C9,j4,F4,G6,G5,F9,H8,H9,D7,z8,D9,w9,o8,o9,F5,D8,I7,IntKind.bits,E9,A9,o7] <;> omega) | assumption) only [E8],Or.inl ⟨rfl,rfl⟩⟩
   | false=>
     have e:a6F a n al=[.string ⟨⟨97 :: 108 :: 105 :: 103 :: 110 :: 61 :: Lib.decDigits (2 ^ a)⟩⟩]:=by unfold a6F; rw [hN,hA]; rfl
     rw [e]
     simp (config:={ maxSteps:=10000000 }) (disch:=first | assumption | omega | (simp only [Y9,Y2,Y1,Y8,Z5,Y6,Y4,X9,Y0,X8,Z4,Y7,Z0,Y5,Z6,Z7,Y3,X7,R5,T9,U2,R9,U1,R7,R8,U0,R6,S9,J2,I4,Nat.reduceMul,Nat.reduceLT,q9,C8,G7,F7,l8,D6,q8,F6,F3,Bool.not_false,Bool.not_true,Bool.and_true,Bool.true_and,Bool.and_self,r9,D5,Nat.zero_add,Nat.reduceAdd,j4,F8,Nat.reduceBEq,G9,H6,E5,j6,A8,l7,l6,l9,C9,j4,F4,G6,G5,F9,H8,H9,D7,z8,D9,w9,o8,o9,F5,D8,I7,IntKind.bits,E9,A9,o7] <;> omega) | assumption) only [b1d,b3v,b3C,b3h,b0E,b3D,b0t,h94,V9,hN,hA,g2,Nat.one_mul,p1,Bool.not_true,Bool.not_false,r9,D5,I5,b2G,a0Q,bn,U6,a0d,V6,K6,I8,M0,J8,O5,O4,A9,o7,K4,J4,l_0,l_s,P5,L9,V.d9Z,Q8,a0S,a5T,a0n,Q0,j6,U9,V4,a0l,R3,Q5,q9,C8,l8,Bool.and_self,K8,M9,V5,K7,N9,I5,I9,K9,N8,O6,Q9,J6,J7,Nat.zero_add,Nat.add_zero,a0L,V8]
     refine I6.done ⟨fun i hi=>by simp (config:={ maxSteps:=10000000 }) (disch:=first | assumption | omega | (simp only [Y9,Y2,Y1,Y8,Z5,Y6,Y4,X9,Y0,X8,Z4,Y7,Z0,Y5,Z6,Z7,Y3,X7,R5,T9,U2,R9,U1,R7,R8,U0,R6,S9,J2,I4,Nat.reduceMul,Nat.reduceLT,q9,C8,G7,F7,l8,D6,q8,F6,F3,Bool.not_false,Bool.not_true,Bool.and_true,Bool.true_and,Bool.and_self,r9,D5,Nat.zero_add,Nat.reduceAdd,j4,F8,Nat.reduceBEq,G9,H6,E5,j6,A8,l7,l6,l9,C9,j4,F4,G6,G5,F9,H8,H9,D7,z8,D9,w9,o8,o9,F5,D8,I7,IntKind.bits,E9,A9,o7] <;> omega) | assumption) only [E8],Or.inr ⟨by simp,_, 0, [(.string ⟨⟨97 :: 108 :: 105 :: 103 :: 110 :: 61 :: Lib.decDigits (2 ^ a)⟩⟩, 0)],rfl,by omega, ?_,rfl⟩⟩
     simp only [I9]
 | false=>
   cases hA:a.beq al with
   | true=>
     have e:a6F a n al=[.string ⟨⟨111 :: 102 :: 102 :: 115 :: 101 :: 116 :: 61 :: Lib.decDigits n⟩⟩]:=by unfold a6F; rw [hN,hA]; rfl
     rw [e]
     simp (config:={ maxSteps:=10000000 }) (disch:=first | assumption | omega | (simp only [Y9,Y2,Y1,Y8,Z5,Y6,Y4,X9,Y0,X8,Z4,Y7,Z0,Y5,Z6,Z7,Y3,X7,R5,T9,U2,R9,U1,R7,R8,U0,R6,S9,J2,I4,Nat.reduceMul,Nat.reduceLT,q9,C8,G7,F7,l8,D6,q8,F6,F3,Bool.not_false,Bool.not_true,Bool.and_true,Bool.true_and,Bool.and_self,r9,D5,Nat.zero_add,Nat.reduceAdd,j4,F8,Nat.reduceBEq,G9,H6,E5,j6,A8,l7,l6,l9,C9,j4,F4,G6,G5,F9,H8,H9,D7,z8,D9,w9,o8,o9,F5,D8,I7,IntKind.bits,E9,A9,o7] <;> omega) | assumption) only [b1d,b3v,b3C,b3h,b0E,b3D,b0t,h94,V9,hN,hA,g1,Nat.one_mul,Bool.not_true,Bool.not_false,r9,D5,I5,b2G,a0Q,bn,U6,a0d,V6,K6,I8,M0,J8,O5,O4,A9,o7,K4,J4,l_0,l_s,P5,L9,V.d9Z,Q8,a0S,a0n,Q0,j6,U9,V4,a0l,R3,Q5,q9,C8,l8,Bool.and_self,K8,M9,V5,K7,N9,I5,I9,E8,K9,N8,O6,Q9,J6,J7,Nat.zero_add,Nat.add_zero,a0L,V8]
     refine I6.done ⟨fun i hi=>by simp (config:={ maxSteps:=10000000 }) (disch:=first | assumption | omega | (simp only [Y9,Y2,Y1,Y8,Z5,Y6,Y4,X9,Y0,X8,Z4,Y7,Z0,Y5,Z6,Z7,Y3,X7,R5,T9,U2,R9,U1,R7,R8,U0,R6,S9,J2,I4,Nat.reduceMul,Nat.reduceLT,q9,C8,G7,F7,l8,D6,q8,F6,F3,Bool.not_false,Bool.not_true,Bool.and_true,Bool.true_and,Bool.and_self,r9,D5,Nat.zero_add,Nat.reduceAdd,j4,F8,Nat.reduceBEq,G9,H6,E5,j6,A8,l7,l6,l9,C9,j4,F4,G6,G5,F9,H8,H9,D7,z8,D9,w9,o8,o9,F5,D8,I7,IntKind.bits,E9,A9,o7] <;> omega) | assumption) only [E8],Or.inr ⟨by simp,_, 0, [(.string ⟨⟨111 :: 102 :: 102 :: 115 :: 101 :: 116 :: 61 :: Lib.decDigits n⟩⟩, 0)],rfl,by omega, ?_,rfl⟩⟩
     simp only [I9]
   | false=>
     have e:a6F a n al=[.string ⟨⟨111 :: 102 :: 102 :: 115 :: 101 :: 116 :: 61 :: Lib.decDigits n⟩⟩,.string ⟨⟨97 :: 108 :: 105 :: 103 :: 110 :: 61 :: Lib.decDigits (2 ^ a)⟩⟩]:=by unfold a6F; rw [hN,hA]; rfl
     rw [e]
     simp (config:={ maxSteps:=10000000 }) (disch:=first | assumption | omega | (simp only [Y9,Y2,Y1,Y8,Z5,Y6,Y4,X9,Y0,X8,Z4,Y7,Z0,Y5,Z6,Z7,Y3,X7,R5,T9,U2,R9,U1,R7,R8,U0,R6,S9,J2,I4,Nat.reduceMul,Nat.reduceLT,q9,C8,G7,F7,l8,D6,q8,F6,F3,Bool.not_false,Bool.not_true,Bool.and_true,Bool.true_and,Bool.and_self,r9,D5,Nat.zero_add,Nat.reduceAdd,j4,F8,Nat.reduceBEq,G9,H6,E5,j6,A8,l7,l6,l9,C9,j4,F4,G6,G5,F9,H8,H9,D7,z8,D9,w9,o8,o9,F5,D8,I7,IntKind.bits,E9,A9,o7] <;> omega) | assumption) only [b1d,b3v,b3C,b3h,b0E,b3D,b0t,h94,V9,hN,hA,g1,g2,Nat.one_mul,p1,Bool.not_false,r9,D5,I5,Nat.reduceMul,ap9,b2G,a0P,a0Q,a2e,a2f,bn,U6,a0d,V6,K6,I8,M0,J8,O5,O4,A9,o7,K4,l_0,l_s,P5,L9,V.d9Z,Q8,a0S,a5T,a0n,Q0,j6,U9,V4,a0l,R3,Q5,q9,C8,l8,Bool.and_self,K8,M9,V5,K7,N9,I5,I9,E8,K9,N8,O6,Q9,J6,J7,Nat.zero_add,Nat.add_zero,Nat.reduceAdd,a0L,V8]
     refine I6.done ⟨fun i hi=>by simp (config:={ maxSteps:=10000000 }) (disch:=first | assumption | omega | (simp only [Y9,Y2,Y1,Y8,Z5,Y6,Y4,X9,Y0,X8,Z4,Y7,Z0,Y5,Z6,Z7,Y3,X7,R5,T9,U2,R9,U1,R7,R8,U0,R6,S9,J2,I4,Nat.reduceMul,Nat.reduceLT,q9,C8,G7,F7,l8,D6,q8,F6,F3,Bool.not_false,Bool.not_true,Bool.and_true,Bool.true_and,Bool.and_self,r9,D5,Nat.zero_add,Nat.reduceAdd,j4,F8,Nat.reduceBEq,G9,H6,E5,j6,A8,l7,l6,l9,C9,j4,F4,G6,G5,F9,H8,H9,D7,z8,D9,w9,o8,o9,F5,D8,I7,IntKind.bits,E9,A9,o7] <;> omega) | assumption) only [E8],Or.inr ⟨by simp,_, 1, [(.string ⟨⟨111 :: 102 :: 102 :: 115 :: 101 :: 116 :: 61 :: Lib.decDigits n⟩⟩, 0),(.string ⟨⟨97 :: 108 :: 105 :: 103 :: 110 :: 61 :: Lib.decDigits (2 ^ a)⟩⟩, 1)],rfl,by omega, ?_,rfl⟩⟩
     simp only [I9]
theorem d6d (n m:Nat) (h:m < 18446744073709551616):J9 s6 (n + 1) 93 [.int .u64 (.ofNat m),.int .i64 (.ofNat 10)]=M.pure (.ret (.string ⟨⟨Lib.decDigits m⟩⟩)):=by
 refine a5P s6 n 93 _ (g:=a5S) (by kernel_rfl) ?_
 show bcase (Nat.blt m 18446744073709551616) _ none=_
 rw [I5 h]; rfl
theorem d7K (n:Nat) (z:Int) (al:Nat) (h:a4G a4O z=some al):J9 s6 (n + 1) 94 [.int .i64 z]=M.pure (.ret (.int .i64 (.ofNat al))):=a2P (q:=a6p) (by kernel_rfl) n (by unfold a6p; rw [h])
theorem d4k:a0f Tryz.prog Q6 (W9 mL) 41 (a6Y q41):=c0T a2E a0O L6.e (L6 (mL:=mL)).s Tryz.func41 (by kernel_rfl) rfl fun bs cs hq=>by
 obtain ⟨op,a,b,n,k,v,i,t1,n1,m1,t2,n2,m2,al,rfl,ha,hn,hal,rfl⟩:=c7o hq
 refine ⟨?_,fun c h r w=>⟨2, ?_⟩⟩
 · unfold a6F
   cases n.beq 0 <;> cases a.beq al <;> rfl
 · rw [a3g (q:=b1d) (N:=NN) (by kernel_rfl) 1]
   exact t41 NN _ op a n al b k v i ha hn t1 t2 n1 m1 n2 m2 (d6d 0) (d7K 0 _ al hal) c h r w
end Go.Proofs.YtmomonnlmbljoaaGreatDoor
end
section
namespace Go.Proofs.YtmomonnlmbljoaaGreatDoor
open Go.V Go.RowKit Go.Shelf Go.Proofs
set_option maxRecDepth 1000000
set_option maxHeartbeats 4000000
set_option linter.unusedVariables false
attribute [local congr] a0b Z9 a0A a0B a0M a0T a3c
variable {mL:Int}
theorem b9p (N:Nat) (call a0D call3:j5) (X:Ins) (tv lv:Value) (a b:Nat) (hA:X.A=.ofNat a) (hB:X.B=.ofNat b) (ha:a < 4294967296) (hb:b < 4294967296) (s1 s2:List UInt8) (k1:M4 s1 ≤ 60) (k2:M4 s2 ≤ 60) (h41:∀ a,call 41 [a]=M.bind (a6Y q41 [a]) fun v=>M.pure (.ret v)) (hq:q41 [H7 X tv lv]=some [.string ⟨⟨s1⟩⟩])
 (c:Nat) (h:Trie VObj) (h34:∀ hh,(∀ b,b < c → hh.get b=h.get b) → ∃ z:List Nat → List Nat, ∀ r w,go (call 34 [H7 X tv lv]) ⟨c + 1,hh,r,w⟩=some (.ret (.bool true),⟨c + 1,hh,z r,w⟩))
 (C:Calls12 N call a0D call3 X 17)
 (Ht:P6 c h tv (O9 X.types)) (Hl:P6 c h lv (O9 X.labels)) (r w:List Nat) :
 I6 (go (a0u G8 N call (H7 X tv lv)) ⟨c,h,r,w⟩) fun x s=>x=.ret (.string ⟨⟨M6 (V7 X.op) (M6 (a0V b) (32 :: s1))⟩⟩) ∧ ∀ i,i < c → s.h.get i=h.get i:=by
 obtain ⟨z,h34'⟩:=h34 (upd h c (.cells [(.int .i64 X.op, 0),(.int .i64 X.A, 0),(.int .i64 X.B, 0),(.int .u64 (Int.ofNat X.N), 0),(.int .i64 X.k, 0),(.int .i64 X.v, 0),(.int .i64 X.i, 0),(tv, 0),(lv, 0)] 0 false)) (fun b hb=>E8 (by omega))
 obtain ⟨h35,h39,h36,h36',h37c,h37,h37',h38,h44,h96⟩:=C
 obtain ⟨ta,te,rfl,_⟩:=id Ht
 obtain ⟨la,le,rfl,_⟩:=id Hl
 simp only [H7,hA,hB,List.length_map] at hq
 have nx:=fun (c:Nat) (h:Trie VObj) (r w:List Nat)=>b0P (c:=c) (h:=h) (r:=r) (w:=w) hq rfl
 simp only [H7,hA,hB,  List.length_map] at h34'
 have nl:=a0e X.op
 have l1:=a0h a (by omega)
 have l2:=a0h b (by omega)
 have q1:=h37 a (by omega)
 have q2:=h37' b (by omega)
 have q3:=h37' a (by omega)
 have q4:=h37c a (by omega)
 cases hz:b.beq 0 with
 | true=>
   simp (config:={ maxSteps:=10000000 }) (disch:=first | assumption | omega | (simp only [Y9,Y2,Y1,Y8,Z5,Y6,Y4,X9,Y0,X8,Z4,Y7,Z0,Y5,Z6,Z7,Y3,X7,R5,T9,U2,R9,U1,R7,R8,U0,R6,S9,J2,I4,Nat.reduceMul,Nat.reduceLT,q9,C8,G7,F7,l8,D6,q8,F6,F3,Bool.not_false,Bool.not_true,Bool.and_true,Bool.true_and,Bool.and_self,r9,D5,Nat.zero_add,Nat.reduceAdd,j4,F8,Nat.reduceBEq,G9,H6,E5,j6,A8,l7,l6,l9,C9,j4,F4,G6,G5,F9,H8,H9,D7,z8,D9,w9,o8,o9,F5,D8,I7,IntKind.bits,E9,A9,o7] <;> omega) | assumption) only [a0u,a2B,a2t,a2s,a2u,a2z,a2v,a2r,a2w,a2A,a2y,a1r,a1O,a1A,a1q,a1E,a1s,a1g,a1y,a1W,a1J,a1T,a1l,a1X,a1M,a1K,a1j,a1v,a1R,a1P,a1z,a1V,a1L,a1C,a1o,a1m,a1h,a1w,a1t,a1Q,a1S,a1F,a1N,a1Z,a1Y,a1D,a1H,a1f,a1B,a1k,a1G,a1n,a0o,a1u,a0q,a1i,a0t,a1x,a7A,a0r,a1p,a0s,a1e,a0p,a1I,a3b,a2Z,H7,hA,hB,List.length_map,h34',h35,h39,h38,h44,h96,h41,nx,hz,decide_true,K4,J4,V9,G6,G5,F9,Bool.not_true,U7,r9,D5,I5,Nat.reduceMul,ap9,a0P,a0Q,a2e,a2f,a0k,X6,a0g,V3,X4,a0J,bn,un,U6,a0d,V6,a2F,K6,I8,M0,J8,U5,O5,O4,A9,o7,K4,J4,l_0,l_s,P5,L9,V.d9Z,P7,Q8,Q7,a0S,U3,Q0,a0G,j6,l7,l9,U9,V4,a0l,R3,Q5,q9,C8,l8,Bool.and_self,K8,M9,P8,a0j,a0Z,V5,K7,N9,X5,I5,I9,E8,K9,N8,O6,Q9,J6,J7,Nat.zero_add,Nat.add_zero,Nat.reduceAdd,U8,O8,P9,a0L,V8]
   exact I6.done ⟨by simp only [a0V,K4,hz,  M7,List.nil_append,List.append_nil],fun i hi=>by simp (config:={ maxSteps:=10000000 }) (disch:=first | assumption | omega | (simp only [Y9,Y2,Y1,Y8,Z5,Y6,Y4,X9,Y0,X8,Z4,Y7,Z0,Y5,Z6,Z7,Y3,X7,R5,T9,U2,R9,U1,R7,R8,U0,R6,S9,J2,I4,Nat.reduceMul,Nat.reduceLT,q9,C8,G7,F7,l8,D6,q8,F6,F3,Bool.not_false,Bool.not_true,Bool.and_true,Bool.true_and,Bool.and_self,r9,D5,Nat.zero_add,Nat.reduceAdd,j4,F8,Nat.reduceBEq,G9,H6,E5,j6,A8,l7,l6,l9,C9,j4,F4,G6,G5,F9,H8,H9,D7,z8,D9,w9,o8,o9,F5,D8,I7,IntKind.bits,E9,A9,o7] <;> omega) | assumption) only [E8]⟩
 | false=>
   simp (config:={ maxSteps:=10000000 }) (disch:=first | assumption | omega | (simp only [Y9,Y2,Y1,Y8,Z5,Y6,Y4,X9,Y0,X8,Z4,Y7,Z0,Y5,Z6,Z7,Y3,X7,R5,T9,U2,R9,U1,R7,R8,U0,R6,S9,J2,I4,Nat.reduceMul,Nat.reduceLT,q9,C8,G7,F7,l8,D6,q8,F6,F3,Bool.not_false,Bool.not_true,Bool.and_true,Bool.true_and,Bool.and_self,r9,D5,Nat.zero_add,Nat.reduceAdd,j4,F8,Nat.reduceBEq,G9,H6,E5,j6,A8,l7,l6,l9,C9,j4,F4,G6,G5,F9,H8,H9,D7,z8,D9,w9,o8,o9,F5,D8,I7,IntKind.bits,E9,A9,o7] <;> omega) | assumption) only [a0u,a2B,a2t,a2s,a2u,a2z,a2v,a2r,a2w,a2A,a2y,a1r,a1O,a1A,a1q,a1E,a1s,a1g,a1y,a1W,a1J,a1T,a1l,a1X,a1M,a1K,a1j,a1v,a1R,a1P,a1z,a1V,a1L,a1C,a1o,a1m,a1h,a1w,a1t,a1Q,a1S,a1F,a1N,a1Z,a1Y,a1D,a1H,a1f,a1B,a1k,a1G,a1n,a0o,a1u,a0q,a1i,a0t,a1x,a7A,a0r,a1p,a0s,a1e,a0p,a1I,a4h,a2L,a4p,a2M,a3b,a2Z,H7,hA,hB,List.length_map,h34',h35,h39,h36',h38,h44,h96,q2,h41,nx,hz,decide_true,K4,J4,V9,G6,G5,F9,Bool.not_true,Bool.not_false,U7,r9,D5,I5,Nat.reduceMul,ap9,a0P,a0Q,a2e,a2f,a0k,X6,a0g,V3,X4,a0J,bn,un,U6,a0d,V6,a2F,K6,I8,M0,J8,U5,O5,O4,A9,o7,K4,J4,l_0,l_s,P5,L9,V.d9Z,P7,Q8,Q7,a0S,U3,Q0,a0G,j6,l7,l9,U9,V4,a0l,R3,Q5,q9,C8,l8,Bool.and_self,K8,M9,P8,a0j,a0Z,V5,K7,N9,X5,I5,I9,E8,K9,N8,O6,Q9,J6,J7,Nat.zero_add,Nat.add_zero,Nat.reduceAdd,U8,O8,P9,a0L,V8]
   exact I6.done ⟨by simp only [a0V,Z8,J4,hz,  M7,List.cons_append,List.append_nil],fun i hi=>by simp (config:={ maxSteps:=10000000 }) (disch:=first | assumption | omega | (simp only [Y9,Y2,Y1,Y8,Z5,Y6,Y4,X9,Y0,X8,Z4,Y7,Z0,Y5,Z6,Z7,Y3,X7,R5,T9,U2,R9,U1,R7,R8,U0,R6,S9,J2,I4,Nat.reduceMul,Nat.reduceLT,q9,C8,G7,F7,l8,D6,q8,F6,F3,Bool.not_false,Bool.not_true,Bool.and_true,Bool.true_and,Bool.and_self,r9,D5,Nat.zero_add,Nat.reduceAdd,j4,F8,Nat.reduceBEq,G9,H6,E5,j6,A8,l7,l6,l9,C9,j4,F4,G6,G5,F9,H8,H9,D7,z8,D9,w9,o8,o9,F5,D8,I7,IntKind.bits,E9,A9,o7] <;> omega) | assumption) only [E8]⟩
end Go.Proofs.YtmomonnlmbljoaaGreatDoor
end
