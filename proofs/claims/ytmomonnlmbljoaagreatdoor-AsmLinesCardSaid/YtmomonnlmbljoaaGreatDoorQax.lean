import Derived.Test.YtmomonnlmbljoaaGreatDoorQav
import Derived.Test.YtmomonnlmbljoaaGreatDoorQaw
section
namespace Go.Proofs.YtmomonnlmbljoaaGreatDoor
open Go.V Go.RowKit Go.Shelf Go.Proofs
set_option maxRecDepth 1000000
set_option maxHeartbeats 4000000
set_option linter.unusedVariables false
attribute [local congr] a0b Z9 a0A a0B a0M a0T a3c
variable {mL:Int}
theorem c7u (N:Nat) (call a0D call3:j5) (X:Ins) (tv lv:Value) (a b:Nat) (hA:X.A=.ofNat a) (hB:X.B=.ofNat b) (ha:a < 4294967296) (hb:b < 4294967296) (s1 s2:List UInt8) (k1:M4 s1 ≤ 60) (k2:M4 s2 ≤ 60) (h41:∀ a,call 41 [a]=M.bind (a6Y q41 [a]) fun v=>M.pure (.ret v)) (hq:q41 [H7 X tv lv]=some [.string ⟨⟨s1⟩⟩,.string ⟨⟨s2⟩⟩])
 (c:Nat) (h:Trie VObj) (h34:∀ hh,(∀ b,b < c → hh.get b=h.get b) → ∃ z:List Nat → List Nat, ∀ r w,go (call 34 [H7 X tv lv]) ⟨c + 1,hh,r,w⟩=some (.ret (.bool true),⟨c + 1,hh,z r,w⟩))
 (C:Calls12 N call a0D call3 X 17)
 (Ht:P6 c h tv (O9 X.types)) (Hl:P6 c h lv (O9 X.labels)) (r w:List Nat) :
 I6 (go (a0u G8 N call (H7 X tv lv)) ⟨c,h,r,w⟩) fun x s=>x=.ret (.string ⟨⟨M6 (V7 X.op) (M6 (a0V b) (32 :: M6 s1 (32 :: s2)))⟩⟩) ∧ ∀ i,i < c → s.h.get i=h.get i:=by
 obtain ⟨z,h34'⟩:=h34 (upd h c (.cells [(.int .i64 X.op, 0),(.int .i64 X.A, 0),(.int .i64 X.B, 0),(.int .u64 (Int.ofNat X.N), 0),(.int .i64 X.k, 0),(.int .i64 X.v, 0),(.int .i64 X.i, 0),(tv, 0),(lv, 0)] 0 false)) (fun b hb=>E8 (by omega))
 obtain ⟨h35,h39,h36,h36',h37c,h37,h37',h38,h44,h96⟩:=C
 obtain ⟨ta,te,rfl,_⟩:=id Ht
 obtain ⟨la,le,rfl,_⟩:=id Hl
 simp only [H7,hA,hB,List.length_map] at hq
 have nx:=fun (c:Nat) (h:Trie VObj) (r w:List Nat)=>b0P (c:=c) (h:=h) (r:=r) (w:=w) hq rfl
 simp only [H7,hA,hB,  List.length_map] at h34'
 have nl:=a0e X.op
 have l1:=a0h a (by omega)
 have l2:=a0h b (by omega)
 have q1:=h37 a (by omega)
 have q2:=h37' b (by omega)
 have q3:=h37' a (by omega)
 have q4:=h37c a (by omega)
 cases hz:b.beq 0 with
 | true=>
   simp (config:={ maxSteps:=10000000 }) (disch:=first | assumption | omega | (simp only [Y9,Y2,Y1,Y8,Z5,Y6,Y4,X9,Y0,X8,Z4,Y7,Z0,Y5,Z6,Z7,Y3,X7,R5,T9,U2,R9,U1,R7,R8,U0,R6,S9,J2,I4,Nat.reduceMul,Nat.reduceLT,q9,C8,G7,F7,l8,D6,q8,F6,F3,Bool.not_false,Bool.not_true,Bool.and_true,Bool.true_and,Bool.and_self,r9,D5,Nat.zero_add,Nat.reduceAdd,j4,F8,Nat.reduceBEq,G9,H6,E5,j6,A8,l7,l6,l9,C9,j4,F4,G6,G5,F9,H8,H9,D7,z8,D9,w9,o8,o9,F5,D8,I7,IntKind.bits,E9,A9,o7] <;> omega) | assumption) only [a0u,a2B,a2t,a2s,a2u,a2z,a2v,a2r,a2w,a2A,a2y,a1r,a1O,a1A,a1q,a1E,a1s,a1g,a1y,a1W,a1J,a1T,a1l,a1X,a1M,a1K,a1j,a1v,a1R,a1P,a1z,a1V,a1L,a1C,a1o,a1m,a1h,a1w,a1t,a1Q,a1S,a1F,a1N,a1Z,a1Y,a1D,a1H,a1f,a1B,a1k,a1G,a1n,a0o,a1u,a0q,a1i,a0t,a1x,a7A,a0r,a1p,a0s,a1e,a0p,a1I,a3b,a2Z,H7,hA,hB,List.length_map,h34',h35,h39,h38,h44,h96,h41,nx,hz,decide_true,K4,J4,V9,G6,G5,F9,Bool.not_true,U7,r9,D5,I5,Nat.reduceMul,ap9,a0P,a0Q,a2e,a2f,a0k,X6,a0g,V3,X4,a0J,bn,un,U6,a0d,V6,a2F,K6,I8,M0,J8,U5,O5,O4,A9,o7,K4,J4,l_0,l_s,P5,L9,V.d9Z,P7,Q8,Q7,a0S,U3,Q0,a0G,j6,l7,l9,U9,V4,a0l,R3,Q5,q9,C8,l8,Bool.and_self,K8,M9,P8,a0j,a0Z,V5,K7,N9,X5,I5,I9,E8,K9,N8,O6,Q9,J6,J7,Nat.zero_add,Nat.add_zero,Nat.reduceAdd,U8,O8,P9,a0L,V8]
   exact I6.done ⟨by simp only [a0V,K4,hz,  M7,List.nil_append,List.append_nil],fun i hi=>by simp (config:={ maxSteps:=10000000 }) (disch:=first | assumption | omega | (simp only [Y9,Y2,Y1,Y8,Z5,Y6,Y4,X9,Y0,X8,Z4,Y7,Z0,Y5,Z6,Z7,Y3,X7,R5,T9,U2,R9,U1,R7,R8,U0,R6,S9,J2,I4,Nat.reduceMul,Nat.reduceLT,q9,C8,G7,F7,l8,D6,q8,F6,F3,Bool.not_false,Bool.not_true,Bool.and_true,Bool.true_and,Bool.and_self,r9,D5,Nat.zero_add,Nat.reduceAdd,j4,F8,Nat.reduceBEq,G9,H6,E5,j6,A8,l7,l6,l9,C9,j4,F4,G6,G5,F9,H8,H9,D7,z8,D9,w9,o8,o9,F5,D8,I7,IntKind.bits,E9,A9,o7] <;> omega) | assumption) only [E8]⟩
 | false=>
   simp (config:={ maxSteps:=10000000 }) (disch:=first | assumption | omega | (simp only [Y9,Y2,Y1,Y8,Z5,Y6,Y4,X9,Y0,X8,Z4,Y7,Z0,Y5,Z6,Z7,Y3,X7,R5,T9,U2,R9,U1,R7,R8,U0,R6,S9,J2,I4,Nat.reduceMul,Nat.reduceLT,q9,C8,G7,F7,l8,D6,q8,F6,F3,Bool.not_false,Bool.not_true,Bool.and_true,Bool.true_and,Bool.and_self,r9,D5,Nat.zero_add,Nat.reduceAdd,j4,F8,Nat.reduceBEq,G9,H6,E5,j6,A8,l7,l6,l9,C9,j4,F4,G6,G5,F9,H8,H9,D7,z8,D9,w9,o8,o9,F5,D8,I7,IntKind.bits,E9,A9,o7] <;> omega) | assumption) only [a0u,a2B,a2t,a2s,a2u,a2z,a2v,a2r,a2w,a2A,a2y,a1r,a1O,a1A,a1q,a1E,a1s,a1g,a1y,a1W,a1J,a1T,a1l,a1X,a1M,a1K,a1j,a1v,a1R,a1P,a1z,a1V,a1L,a1C,a1o,a1m,a1h,a1w,a1t,a1Q,a1S,a1F,a1N,a1Z,a1Y,a1D,a1H,a1f,a1B,a1k,a1G,a1n,a0o,a1u,a0q,a1i,a0t,a1x,a7A,a0r,a1p,a0s,a1e,a0p,a1I,a4h,a2L,a4p,a2M,a3b,a2Z,H7,hA,hB,List.length_map,h34',h35,h39,h36',h38,h44,h96,q2,h41,nx,hz,decide_true,K4,J4,V9,G6,G5,F9,Bool.not_true,Bool.not_false,U7,r9,D5,I5,Nat.reduceMul,ap9,a0P,a0Q,a2e,a2f,a0k,X6,a0g,V3,X4,a0J,bn,un,U6,a0d,V6,a2F,K6,I8,M0,J8,U5,O5,O4,A9,o7,K4,J4,l_0,l_s,P5,L9,V.d9Z,P7,Q8,Q7,a0S,U3,Q0,a0G,j6,l7,l9,U9,V4,a0l,R3,Q5,q9,C8,l8,Bool.and_self,K8,M9,P8,a0j,a0Z,V5,K7,N9,X5,I5,I9,E8,K9,N8,O6,Q9,J6,J7,Nat.zero_add,Nat.add_zero,Nat.reduceAdd,U8,O8,P9,a0L,V8]
   exact I6.done ⟨by simp only [a0V,Z8,J4,hz,  M7,List.cons_append,List.append_nil],fun i hi=>by simp (config:={ maxSteps:=10000000 }) (disch:=first | assumption | omega | (simp only [Y9,Y2,Y1,Y8,Z5,Y6,Y4,X9,Y0,X8,Z4,Y7,Z0,Y5,Z6,Z7,Y3,X7,R5,T9,U2,R9,U1,R7,R8,U0,R6,S9,J2,I4,Nat.reduceMul,Nat.reduceLT,q9,C8,G7,F7,l8,D6,q8,F6,F3,Bool.not_false,Bool.not_true,Bool.and_true,Bool.true_and,Bool.and_self,r9,D5,Nat.zero_add,Nat.reduceAdd,j4,F8,Nat.reduceBEq,G9,H6,E5,j6,A8,l7,l6,l9,C9,j4,F4,G6,G5,F9,H8,H9,D7,z8,D9,w9,o8,o9,F5,D8,I7,IntKind.bits,E9,A9,o7] <;> omega) | assumption) only [E8]⟩
end Go.Proofs.YtmomonnlmbljoaaGreatDoor
end
section
namespace Go.Proofs.YtmomonnlmbljoaaGreatDoor
open Go.V Go.RowKit Go.Shelf Go.Proofs
set_option maxRecDepth 1000000
set_option maxHeartbeats 4000000
set_option linter.unusedVariables false
attribute [local congr] a0b Z9 a0A a0B a0M a0T a3c
variable {mL:Int}
theorem c6R (N:Nat) (call a0D call3:j5) (X:Ins) (tv lv:Value) (a b:Nat) (hA:X.A=.ofNat a) (hB:X.B=.ofNat b) (ha:a < 4294967296) (hb:b < 4294967296) (s1 s2:List UInt8) (k1:M4 s1 ≤ 60) (k2:M4 s2 ≤ 60) (h41:∀ a,call 41 [a]=M.bind (a6Y q41 [a]) fun v=>M.pure (.ret v)) (hq:q41 [H7 X tv lv]=some [])
 (c:Nat) (h:Trie VObj) (h34:∀ hh,(∀ b,b < c → hh.get b=h.get b) → ∃ z:List Nat → List Nat, ∀ r w,go (call 34 [H7 X tv lv]) ⟨c + 1,hh,r,w⟩=some (.ret (.bool true),⟨c + 1,hh,z r,w⟩))
 (C:Calls12 N call a0D call3 X 17)
 (Ht:P6 c h tv (O9 X.types)) (Hl:P6 c h lv (O9 X.labels)) (r w:List Nat) :
 I6 (go (a0u G8 N call (H7 X tv lv)) ⟨c,h,r,w⟩) fun x s=>x=.ret (.string ⟨⟨M6 (V7 X.op) (a0V b)⟩⟩) ∧ ∀ i,i < c → s.h.get i=h.get i:=by
 obtain ⟨z,h34'⟩:=h34 (upd h c (.cells [(.int .i64 X.op, 0),(.int .i64 X.A, 0),(.int .i64 X.B, 0),(.int .u64 (Int.ofNat X.N), 0),(.int .i64 X.k, 0),(.int .i64 X.v, 0),(.int .i64 X.i, 0),(tv, 0),(lv, 0)] 0 false)) (fun b hb=>E8 (by omega))
 obtain ⟨h35,h39,h36,h36',h37c,h37,h37',h38,h44,h96⟩:=C
 obtain ⟨ta,te,rfl,_⟩:=id Ht
 obtain ⟨la,le,rfl,_⟩:=id Hl
 simp only [H7,hA,hB,List.length_map] at hq
 have nx:=fun (c:Nat) (h:Trie VObj) (r w:List Nat)=>b8V (c:=c) (h:=h) (r:=r) (w:=w) hq
 simp only [H7,hA,hB,  List.length_map] at h34'
 have nl:=a0e X.op
 have l1:=a0h a (by omega)
 have l2:=a0h b (by omega)
 have q1:=h37 a (by omega)
 have q2:=h37' b (by omega)
 have q3:=h37' a (by omega)
 have q4:=h37c a (by omega)
 cases hz:b.beq 0 with
 | true=>
   simp (config:={ maxSteps:=10000000 }) (disch:=first | assumption | omega | (simp only [Y9,Y2,Y1,Y8,Z5,Y6,Y4,X9,Y0,X8,Z4,Y7,Z0,Y5,Z6,Z7,Y3,X7,R5,T9,U2,R9,U1,R7,R8,U0,R6,S9,J2,I4,Nat.reduceMul,Nat.reduceLT,q9,C8,G7,F7,l8,D6,q8,F6,F3,Bool.not_false,Bool.not_true,Bool.and_true,Bool.true_and,Bool.and_self,r9,D5,Nat.zero_add,Nat.reduceAdd,j4,F8,Nat.reduceBEq,G9,H6,E5,j6,A8,l7,l6,l9,C9,j4,F4,G6,G5,F9,H8,H9,D7,z8,D9,w9,o8,o9,F5,D8,I7,IntKind.bits,E9,A9,o7] <;> omega) | assumption) only [a0u,a2B,a2t,a2s,a2u,a2z,a2v,a2r,a2w,a2A,a2y,a1r,a1O,a1A,a1q,a1E,a1s,a1g,a1y,a1W,a1J,a1T,a1l,a1X,a1M,a1K,a1j,a1v,a1R,a1P,a1z,a1V,a1L,a1C,a1o,a1m,a1h,a1w,a1t,a1Q,a1S,a1F,a1N,a1Z,a1Y,a1D,a1H,a1f,a1B,a1k,a1G,a1n,a0o,a1u,a0q,a1i,a0t,a1x,a7A,a0r,a1p,a0s,a1e,a0p,a1I,a3b,a2Z,H7,hA,hB,List.length_map,h34',h35,h39,h38,h44,h96,h41,nx,hz,decide_true,K4,J4,V9,G6,G5,F9,Bool.not_true,U7,I5,b3w,a0k,X6,a0g,V3,a0J,bn,un,U6,a0d,V6,a2F,K6,I8,M0,J8,U5,O5,O4,A9,o7,K4,J4,l_0,l_s,P5,L9,V.d9Z,P7,Q8,Q7,a0S,U3,Q0,a0G,j6,l7,l9,U9,V4,a0l,R3,Q5,q9,C8,l8,Bool.and_self,K8,M9,P8,a0j,a0Z,V5,K7,N9,X5,I5,I9,E8,K9,N8,O6,Q9,J6,J7,Nat.zero_add,Nat.add_zero,U8,O8,P9,a0L,V8]
   exact I6.done ⟨by simp only [a0V,K4,hz,  M7,List.append_nil],fun i hi=>by simp (config:={ maxSteps:=10000000 }) (disch:=first | assumption | omega | (simp only [Y9,Y2,Y1,Y8,Z5,Y6,Y4,X9,Y0,X8,Z4,Y7,Z0,Y5,Z6,Z7,Y3,X7,R5,T9,U2,R9,U1,R7,R8,U0,R6,S9,J2,I4,Nat.reduceMul,Nat.reduceLT,q9,C8,G7,F7,l8,D6,q8,F6,F3,Bool.not_false,Bool.not_true,Bool.and_true,Bool.true_and,Bool.and_self,r9,D5,Nat.zero_add,Nat.reduceAdd,j4,F8,Nat.reduceBEq,G9,H6,E5,j6,A8,l7,l6,l9,C9,j4,F4,G6,G5,F9,H8,H9,D7,z8,D9,w9,o8,o9,F5,D8,I7,IntKind.bits,E9,A9,o7] <;> omega) | assumption) only [E8]⟩
 | false=>
   simp (config:={ maxSteps:=10000000 }) (disch:=first | assumption | omega | (simp only [Y9,Y2,Y1,Y8,Z5,Y6,Y4,X9,Y0,X8,Z4,Y7,Z0,Y5,Z6,Z7,Y3,X7,R5,T9,U2,R9,U1,R7,R8,U0,R6,S9,J2,I4,Nat.reduceMul,Nat.reduceLT,q9,C8,G7,F7,l8,D6,q8,F6,F3,Bool.not_false,Bool.not_true,Bool.and_true,Bool.true_and,Bool.and_self,r9,D5,Nat.zero_add,Nat.reduceAdd,j4,F8,Nat.reduceBEq,G9,H6,E5,j6,A8,l7,l6,l9,C9,j4,F4,G6,G5,F9,H8,H9,D7,z8,D9,w9,o8,o9,F5,D8,I7,IntKind.bits,E9,A9,o7] <;> omega) | assumption) only [a0u,a2B,a2t,a2s,a2u,a2z,a2v,a2r,a2w,a2A,a2y,a1r,a1O,a1A,a1q,a1E,a1s,a1g,a1y,a1W,a1J,a1T,a1l,a1X,a1M,a1K,a1j,a1v,a1R,a1P,a1z,a1V,a1L,a1C,a1o,a1m,a1h,a1w,a1t,a1Q,a1S,a1F,a1N,a1Z,a1Y,a1D,a1H,a1f,a1B,a1k,a1G,a1n,a0o,a1u,a0q,a1i,a0t,a1x,a7A,a0r,a1p,a0s,a1e,a0p,a1I,a4h,a2L,a4p,a2M,a3b,a2Z,H7,hA,hB,List.length_map,h34',h35,h39,h36',h38,h44,h96,q2,h41,nx,hz,decide_true,K4,J4,V9,G6,G5,F9,Bool.not_true,Bool.not_false,U7,r9,D5,I5,Nat.reduceMul,ap9,b3w,a0P,a0Q,a2e,a2f,a0k,X6,a0g,V3,X4,a0J,bn,un,U6,a0d,V6,a2F,K6,I8,M0,J8,U5,O5,O4,A9,o7,K4,J4,l_0,l_s,P5,L9,V.d9Z,P7,Q8,Q7,a0S,U3,Q0,a0G,j6,l7,l9,U9,V4,a0l,R3,Q5,q9,C8,l8,Bool.and_self,K8,M9,P8,a0j,a0Z,V5,K7,N9,X5,I5,I9,E8,K9,N8,O6,Q9,J6,J7,Nat.zero_add,Nat.add_zero,Nat.reduceAdd,U8,O8,P9,a0L,V8]
   exact I6.done ⟨by simp only [a0V,Z8,J4,hz,  M7,List.append_nil],fun i hi=>by simp (config:={ maxSteps:=10000000 }) (disch:=first | assumption | omega | (simp only [Y9,Y2,Y1,Y8,Z5,Y6,Y4,X9,Y0,X8,Z4,Y7,Z0,Y5,Z6,Z7,Y3,X7,R5,T9,U2,R9,U1,R7,R8,U0,R6,S9,J2,I4,Nat.reduceMul,Nat.reduceLT,q9,C8,G7,F7,l8,D6,q8,F6,F3,Bool.not_false,Bool.not_true,Bool.and_true,Bool.true_and,Bool.and_self,r9,D5,Nat.zero_add,Nat.reduceAdd,j4,F8,Nat.reduceBEq,G9,H6,E5,j6,A8,l7,l6,l9,C9,j4,F4,G6,G5,F9,H8,H9,D7,z8,D9,w9,o8,o9,F5,D8,I7,IntKind.bits,E9,A9,o7] <;> omega) | assumption) only [E8]⟩
end Go.Proofs.YtmomonnlmbljoaaGreatDoor
end
section
namespace Go.Proofs.YtmomonnlmbljoaaGreatDoor
open Go.V Go.RowKit Go.Shelf Go.Proofs
set_option maxRecDepth 1000000
set_option maxHeartbeats 4000000
set_option linter.unusedVariables false
attribute [local congr] a0b Z9 a0A a0B a0M a0T a3c
variable {mL:Int}
def b3Y (l:List UInt8):Value:=.string ⟨⟨l⟩⟩
structure Lst (h:Trie VObj) (lb ab g:Nat) (cs:List (Value × Nat)) (ws:List (List UInt8)):Prop where
 cell:h.get lb=some (.cells [(.slice (some ⟨ab, 0,some g⟩) ws.length 1, 0)] 0 false)
 obj:h.get ab=some (.cells cs g false)
 take:a0w g cs ws.length=some (ws.map b3Y)
 len:M4 cs=ws.length
theorem c2n {α:Type}:∀ (l:List α) (n:Nat),M4 l=n → a6d l n=l:=by
 intro l
 induction l with
 | nil=>intro n h; cases h; exact a2e _
 | cons x l ih=>
   intro n h
   cases n with
   | zero=>cases h
   | succ n=>rw [a2f,ih n (by have:M4 l + 1=n + 1:=h; omega)]
theorem c3O {g:Nat} {v:Value}:∀ (cs:List (Value × Nat)) (n:Nat) (vs:List Value),M4 cs=n → a0w g cs n=some vs → a0w (g + 1) (M6 cs [(v,g + 1)]) (n + 1)=some (vs ++ [v]):=by
 intro cs
 induction cs with
 | nil=>
   intro n vs hl ht
   cases hl
   cases ht
   show (match Nat.ble (g + 1) (g + 1) with | true=>_ | false=>none)=_
   rw [F4]; rfl
 | cons x cs ih=>
   intro n vs hl ht
   cases n with
   | zero=>cases hl
   | succ n=>
     have hl':M4 cs=n:=by have:M4 cs + 1=n + 1:=hl; omega
     have ht':(match Nat.ble x.2 g with | true=>(match a0w g cs n with | some vs=>some (x.1 :: vs) | none=>none) | false=>none)=some vs:=ht
     show (match Nat.ble x.2 (g + 1) with | true=>(match a0w (g + 1) (M6 cs [(v,g + 1)]) (n + 1) with | some vs=>some (x.1 :: vs) | none=>none) | false=>none)=_
     cases hb:Nat.ble x.2 g with
     | false=>rw [hb] at ht'; cases ht'
     | true=>
       rw [hb] at ht'
       have hb':Nat.ble x.2 (g + 1)=true:=by
        have:=Nat.le_of_ble_eq_true hb
        exact Nat.ble_eq_true_of_le (by omega)
       rw [hb']
       cases hc:a0w g cs n with
       | none=>rw [hc] at ht'; cases ht'
       | some us=>
         rw [hc] at ht'
         cases ht'
         rw [ih n us hl' hc]
         rfl
theorem t36 (N:Nat) (call:j5) (m:Nat) (lb ab g:Nat) (cs:List (Value × Nat)) (ws:List (List UInt8)) (hw:ws.length < 10000) (c:Nat) (h:Trie VObj) (r w:List Nat) (hm:m < 9223372036854775808) (h37:∀ m:Nat,m < 9223372036854775808 → call 37 [.int .i64 (.ofNat m)]=M.pure (.ret (.string ⟨⟨Lib.decDigits m⟩⟩)))
 (H:Lst h lb ab g cs ws) (hlb:lb < c) (hab:ab < c) (hne:lb ≠ ab) :
 I6 (go (a4h G8 N call (.int .i64 (.ofNat m)) (.pointer (some ⟨lb, 0,some 0⟩))) ⟨c,h,r,w⟩) fun x s=>x=.ret (.tuple ⟨[]⟩) ∧ s.c=c + 1 ∧ Lst s.h lb ab (g + 1) (M6 cs [(b3Y (Lib.decDigits m),g + 1)]) (ws ++ [Lib.decDigits m]) ∧ ∀ i,i < c → i ≠ lb → i ≠ ab → s.h.get i=h.get i:=by
 obtain ⟨h1,h2,h3,h4⟩:=H
 have q1:=h37 m hm
 have b1:Nat.beq lb c=false:=a2j _ _ (by omega)
 have b2:Nat.beq c lb=false:=a2j _ _ (by omega)
 have l1:=a0h m (by omega)
 have tk:=c2n cs ws.length h4
 have hb:Nat.ble ws.length (M4 cs)=true:=by rw [h4]; exact F4 _
 have b3:Nat.beq lb ab=false:=a2j _ _ hne
 have ft:a1b a9q (a2I a9q [([lb], []),([], []),([], []),([], [c]),([ab,c], [ab]),([lb], [lb])]) [] [] 0=true:=a2M rfl (by simp only [b2,Bool.not_false,Bool.and_self,G9,H6,D7,z8,D9,w9,o8,o9,F5,D8])
 simp (config:={ maxSteps:=10000000 }) (disch:=first | assumption | omega | (simp only [Y9,Y2,Y1,Y8,Z5,Y6,Y4,X9,Y0,X8,Z4,Y7,Z0,Y5,Z6,Z7,Y3,X7,R5,T9,U2,R9,U1,R7,R8,U0,R6,S9,J2,I4,Nat.reduceMul,Nat.reduceLT,q9,C8,G7,F7,l8,D6,q8,F6,F3,Bool.not_false,Bool.not_true,Bool.and_true,Bool.true_and,Bool.and_self,r9,D5,Nat.zero_add,Nat.reduceAdd,j4,F8,Nat.reduceBEq,G9,H6,E5,j6,A8,l7,l6,l9,C9,j4,F4,G6,G5,F9,H8,H9,D7,z8,D9,w9,o8,o9,F5,D8,I7,IntKind.bits,E9,A9,o7] <;> omega) | assumption) only [a4h,a2L,a4p,ft,q1,h1,h2,h3,tk,K4,r9,D5,I5,ap9,a0P,a0Q,a0d,K6,I8,M0,J8,O5,O4,A9,o7,K4,l_0,V.d9Z,Q8,j6,l7,U9,V4,a0l,R3,Q5,q9,C8,l8,Bool.and_self,M9,a0j,V5,K7,N9,X5,I5,I9,E8,K9,N8,O6,J6,J7,Nat.zero_add,U8,O8,P9,a0L,V8]
 refine I6.done ⟨rfl,rfl,⟨?_, ?_, ?_, ?_⟩,fun i hi n1 n2=>by simp (config:={ maxSteps:=10000000 }) (disch:=first | assumption | omega | (simp only [Y9,Y2,Y1,Y8,Z5,Y6,Y4,X9,Y0,X8,Z4,Y7,Z0,Y5,Z6,Z7,Y3,X7,R5,T9,U2,R9,U1,R7,R8,U0,R6,S9,J2,I4,Nat.reduceMul,Nat.reduceLT,q9,C8,G7,F7,l8,D6,q8,F6,F3,Bool.not_false,Bool.not_true,Bool.and_true,Bool.true_and,Bool.and_self,r9,D5,Nat.zero_add,Nat.reduceAdd,j4,F8,Nat.reduceBEq,G9,H6,E5,j6,A8,l7,l6,l9,C9,j4,F4,G6,G5,F9,H8,H9,D7,z8,D9,w9,o8,o9,F5,D8,I7,IntKind.bits,E9,A9,o7] <;> omega) | assumption) only [E8]⟩
 · simp only [I9,List.length_append,List.length_cons,List.length_nil,Nat.zero_add]
 · simp (config:={ maxSteps:=10000000 }) (disch:=first | assumption | omega | (simp only [Y9,Y2,Y1,Y8,Z5,Y6,Y4,X9,Y0,X8,Z4,Y7,Z0,Y5,Z6,Z7,Y3,X7,R5,T9,U2,R9,U1,R7,R8,U0,R6,S9,J2,I4,Nat.reduceMul,Nat.reduceLT,q9,C8,G7,F7,l8,D6,q8,F6,F3,Bool.not_false,Bool.not_true,Bool.and_true,Bool.true_and,Bool.and_self,r9,D5,Nat.zero_add,Nat.reduceAdd,j4,F8,Nat.reduceBEq,G9,H6,E5,j6,A8,l7,l6,l9,C9,j4,F4,G6,G5,F9,H8,H9,D7,z8,D9,w9,o8,o9,F5,D8,I7,IntKind.bits,E9,A9,o7] <;> omega) | assumption) only [E8,I9]; rfl
 · rw [List.length_append]; have:=c3O (v:=b3Y (Lib.decDigits m)) cs ws.length _ h4 h3; rw [List.map_append]; exact this
 · rw [List.length_append,E9,h4]; rfl
end Go.Proofs.YtmomonnlmbljoaaGreatDoor
end
section
namespace Go.Proofs.YtmomonnlmbljoaaGreatDoor
open Go.V Go.RowKit Go.Shelf Go.Proofs
set_option maxRecDepth 1000000
set_option maxHeartbeats 4000000
set_option linter.unusedVariables false
attribute [local congr] a0b Z9 a0A a0B a0M a0T a3c
variable {mL:Int}
theorem a9A {α β γ:Type} (x:Option (α × V.S)) (f:α → M β) (g:β → M γ):a3u (a3u x f) g=a3u x fun a=>M.bind (f a) g:=by
 cases x with
 | none=>rfl
 | some y=>rw [show y=(y.1,y.2) from rfl,I8,I8,K6]
theorem c0K:∀ ws:List (List UInt8),a5m (ws.map b3Y)=some ws:=by
 intro ws
 induction ws with
 | nil=>rfl
 | cons x ws ih=>rw [List.map_cons]; show a5m (.string ⟨⟨x⟩⟩ :: _)=_; rw [X6,ih,N9]
theorem c3R {h:Trie VObj} {lb ab g c:Nat} {cs:List (Value × Nat)} {w0:List UInt8} {ws:List (List UInt8)} (H:Lst h lb ab g cs (w0 :: ws)) (hab:ab < c) (hw:ws.length < 10000) (hlen:M4 (a5V [32] (w0 :: ws)) < 4294967296) (r w:List Nat) :
 go (a7M [.slice (some ⟨ab, 0,some g⟩) (w0 :: ws).length 1,.string ⟨⟨[32]⟩⟩]) ⟨c,h,r,w⟩=some (.string ⟨⟨a5V [32] (w0 :: ws)⟩⟩,⟨c,h,ab :: r,w⟩):=by
 obtain ⟨h1,h2,h3,h4⟩:=H
 show go (a7M [.slice (some ⟨ab, 0,some g⟩) (ws.length + 1) 1,.string ⟨⟨[32]⟩⟩]) ⟨c,h,r,w⟩=_
 rw [a0J,I5 hab,h2,K7,O6]
 rw [show a0w g cs (ws.length + 1)=some ((w0 :: ws).map b3Y) from h3,N9,c0K,N9,I5 (show ws.length < 4294967295 by omega)]
 rw [show (⟨⟨[32]⟩⟩:ByteArray).data.toList=[32] from rfl,I5 hlen]
 rfl
theorem c4g (L:List Nat) (a:Nat):a5M [32] (L.map Lib.decDigits ++ [Lib.decDigits a])=M6 (a7q L) (Z8 a):=by
 induction L with
 | nil=>rw [List.map_nil,List.nil_append,X4,V3]; simp only [M7,Z8,List.append_nil]; rfl
 | cons x L ih=>rw [List.map_cons,List.cons_append,X4,ih,b1f]; simp only [M7,Z8,List.append_assoc,List.cons_append,List.nil_append]
theorem c3v (N:Nat) (call a0D:j5) (h36:∀ a b,call 36 [a,b]=a4h G8 N a0D a b) (h37:∀ m:Nat,m < 9223372036854775808 → a0D 37 [.int .i64 (.ofNat m)]=M.pure (.ret (.string ⟨⟨Lib.decDigits m⟩⟩)))
 (c0:Nat) (h0:Trie VObj) (lb ab nb:Nat) (hlb:c0 ≤ lb) (hab:c0 ≤ ab) (hne:lb ≠ ab) (hn1:nb ≠ lb) (hn2:nb ≠ ab) (L:List Nat) (lv:Value) (H:P6 c0 h0 lv (O9 (L.map Int.ofNat))) (hL:∀ m ∈ L,m < 4294967296) (hl:L.length < 1000) :
 ∀ (t:List Nat) (i k:Nat) (g0 g1 g2 g3 g4 g5 g6 g7:Value) (g:Nat) (cs:List (Value × Nat)) (ws:List (List UInt8)) (c:Nat) (h:Trie VObj) (r w:List Nat),L.drop i=t → t.length < k → ws.length + t.length < 5000 →
 c0 ≤ c → lb < c → ab < c → nb < c → (∀ b,b < c0 → h.get b=h0.get b) → h.get nb=some (.cells [(.func (.func 36) ⟨[]⟩ ⟨[.pointer (some ⟨lb, 0,some 0⟩)]⟩, 0)] 0 false) → Lst h lb ab g cs ws →
 I6 (go (a4d (b3r G8 N call (.int .i64 (.ofNat L.length)) lv (.pointer (some ⟨nb, 0,some 0⟩))) k [g0,g1,g2,g3,g4,g5,g6,g7,.int .i64 (.ofNat i)]) ⟨c,h,r,w⟩)
  fun x s=>x.1=.exit 1 ∧ c ≤ s.c ∧ (∃ g cs,Lst s.h lb ab g cs (ws ++ t.map Lib.decDigits)) ∧ ∀ i,i < c → i ≠ lb → i ≠ ab → s.h.get i=h.get i:=by
 intro t
 induction t with
 | nil=>
   intro i k g0 g1 g2 g3 g4 g5 g6 g7 g cs ws c h r w hd hk hws hc hlc hac hnc hh hn HL
   obtain ⟨k,rfl⟩:∃ m,k=m + 1:=⟨k - 1,by simp at hk; omega⟩
   have hi:Nat.blt i L.length=false:=by
    have:L.length ≤ i:=by simpa [List.drop_eq_nil_iff] using hd
    cases q:Nat.blt i L.length with
    | false=>rfl
    | true=>have:i < L.length:=by simpa [Nat.blt_eq] using q
            omega
   simp (config:={ maxSteps:=10000000 }) (disch:=first | assumption | omega | (simp only [Y9,Y2,Y1,Y8,Z5,Y6,Y4,X9,Y0,X8,Z4,Y7,Z0,Y5,Z6,Z7,Y3,X7,R5,T9,U2,R9,U1,R7,R8,U0,R6,S9,J2,I4,Nat.reduceMul,Nat.reduceLT,q9,C8,G7,F7,l8,D6,q8,F6,F3,Bool.not_false,Bool.not_true,Bool.and_true,Bool.true_and,Bool.and_self,r9,D5,Nat.zero_add,Nat.reduceAdd,j4,F8,Nat.reduceBEq,G9,H6,E5,j6,A8,l7,l6,l9,C9,j4,F4,G6,G5,F9,H8,H9,D7,z8,D9,w9,o8,o9,F5,D8,I7,IntKind.bits,E9,A9,o7] <;> omega) | assumption) only [a3B,b8j,b3r,a4Z,hi,bn,U6,V6,I8,M0,J4,l_0,l_s,P5,a6z,V.d9Z,a2l,a2R]
   exact I6.done ⟨rfl,Nat.le_refl _,⟨g,cs,by rw [List.map_nil,List.append_nil]; exact HL⟩,fun _ _ _ _=>rfl⟩
 | cons q t ih=>
   intro i k g0 g1 g2 g3 g4 g5 g6 g7 g cs ws c h r w hd hk hws hc hlc hac hnc hh hn HL
   obtain ⟨k,rfl⟩:∃ m,k=m + 1:=⟨k - 1,by simp at hk; omega⟩
   have hil:i < L.length:=by
    have:=congrArg List.length hd; simp at this; omega
   have hi:Nat.blt i L.length=true:=I5 hil
   have hq:L[i]?=some q:=by
    have:=congrArg (fun t=>t[0]?) hd; simpa using this
   have hqm:q < 4294967296:=hL q (List.mem_of_getElem? hq)
   have hd':L.drop (i + 1)=t:=by
    have:=congrArg List.tail hd; simpa using this
   have hinc:=a7X i (by omega)
   rw [List.length_cons] at hws
   obtain ⟨p,b,_,e1,e2⟩:=H.read hc hh (i:=i) (x:=.int .i64 (.ofNat q)) (by rw [List.getElem?_map,List.getElem?_map,hq]; rfl)
   obtain ⟨x,s,e36,rfl,hsc,HL2,hfr⟩:=t36 N a0D q lb ab g cs ws (by omega) c h (nb :: b :: r) w (by omega) h37 HL hlc hac hne
   obtain ⟨c2,h2,r2,w2⟩:=s
   simp only at hsc HL2 hfr
   subst hsc
   simp (config:={ maxSteps:=10000000 }) (disch:=first | assumption | omega | (simp only [Y9,Y2,Y1,Y8,Z5,Y6,Y4,X9,Y0,X8,Z4,Y7,Z0,Y5,Z6,Z7,Y3,X7,R5,T9,U2,R9,U1,R7,R8,U0,R6,S9,J2,I4,Nat.reduceMul,Nat.reduceLT,q9,C8,G7,F7,l8,D6,q8,F6,F3,Bool.not_false,Bool.not_true,Bool.and_true,Bool.true_and,Bool.and_self,r9,D5,Nat.zero_add,Nat.reduceAdd,j4,F8,Nat.reduceBEq,G9,H6,E5,j6,A8,l7,l6,l9,C9,j4,F4,G6,G5,F9,H8,H9,D7,z8,D9,w9,o8,o9,F5,D8,I7,IntKind.bits,E9,A9,o7] <;> omega) | assumption) only [a3B,b8j,b3r,a4Z,hi,e1,e2,hn,U7,h36,e36,hinc,bn,U6,V6,K6,I8,M0,J8,A9,o7,K4,l_0,l_s,P5,L9,V.d9Z,P7,a2l,a2R,M9,K7,N9,I5,O6,J6,J7]
   refine (ih (i + 1) k _ _ _ _ _ _ _ _ _ _ (ws ++ [Lib.decDigits q]) (c + 1) h2 _ _ hd' (by simp at hk; omega) (by rw [List.length_append,List.length_cons,List.length_nil]; omega) (by omega) (by omega) (by omega) (by omega) (fun b hb=>(hfr b (by omega) (by omega) (by omega)).trans (hh b hb)) ((hfr nb hnc hn1 hn2).trans hn) HL2).mono fun x s ⟨p1,p2,p3,p4⟩=>⟨p1,by omega, ?_,fun i hi n1 n2=>(p4 i (by omega) n1 n2).trans (hfr i hi n1 n2)⟩
   rw [List.map_cons,show ws ++ Lib.decDigits q :: t.map Lib.decDigits=(ws ++ [Lib.decDigits q]) ++ t.map Lib.decDigits by rw [List.append_assoc]; rfl]
   exact p3
end Go.Proofs.YtmomonnlmbljoaaGreatDoor
end
section
namespace Go.Proofs.YtmomonnlmbljoaaGreatDoor
open Go.V Go.RowKit Go.Shelf Go.Proofs
set_option maxRecDepth 1000000
set_option maxHeartbeats 4000000
set_option linter.unusedVariables false
attribute [local congr] a0b Z9 a0A a0B a0M a0T a3c
variable {mL:Int}
theorem d9l (N:Nat) (call:j5) (X:Ins) (tv lv:Value) (c:Nat) (h:Trie VObj) (h34:∀ hh,(∀ b,b < c → hh.get b=h.get b) → ∃ z:List Nat → List Nat, ∀ r w,go (call 34 [H7 X tv lv]) ⟨c + 1,hh,r,w⟩=some (.ret (.bool false),⟨c + 1,hh,z r,w⟩))
 (Ht:P6 c h tv (O9 X.types)) (Hl:P6 c h lv (O9 X.labels)) (r w:List Nat) :
 I6 (go (a0u G8 N call (H7 X tv lv)) ⟨c,h,r,w⟩) fun x s=>x=.ret (.string ⟨⟨[]⟩⟩) ∧ ∀ i,i < c → s.h.get i=h.get i:=by
 obtain ⟨z,h34'⟩:=h34 (upd h c (.cells [(.int .i64 X.op, 0),(.int .i64 X.A, 0),(.int .i64 X.B, 0),(.int .u64 (Int.ofNat X.N), 0),(.int .i64 X.k, 0),(.int .i64 X.v, 0),(.int .i64 X.i, 0),(tv, 0),(lv, 0)] 0 false)) (fun b hb=>E8 (by omega))
 obtain ⟨ta,te,rfl,_⟩:=Ht
 obtain ⟨la,le,rfl,_⟩:=Hl
 simp only [H7,List.length_map] at h34'
 simp (config:={ maxSteps:=10000000 }) (disch:=first | assumption | omega | (simp only [Y9,Y2,Y1,Y8,Z5,Y6,Y4,X9,Y0,X8,Z4,Y7,Z0,Y5,Z6,Z7,Y3,X7,R5,T9,U2,R9,U1,R7,R8,U0,R6,S9,J2,I4,Nat.reduceMul,Nat.reduceLT,q9,C8,G7,F7,l8,D6,q8,F6,F3,Bool.not_false,Bool.not_true,Bool.and_true,Bool.true_and,Bool.and_self,r9,D5,Nat.zero_add,Nat.reduceAdd,j4,F8,Nat.reduceBEq,G9,H6,E5,j6,A8,l7,l6,l9,C9,j4,F4,G6,G5,F9,H8,H9,D7,z8,D9,w9,o8,o9,F5,D8,I7,IntKind.bits,E9,A9,o7] <;> omega) | assumption) only [a0u,a2B,a2t,a2s,a2u,a2z,a2v,a2r,a2w,a2A,a2y,a1r,a1O,a1A,a1q,a1E,a1s,a1g,a1y,a1W,a1J,a1T,a1l,a1X,a1M,a1K,a1j,a1v,a1R,a1P,a1z,a1V,a1L,a1C,a1o,a1m,a1h,a1w,a1t,a1Q,a1S,a1F,a1N,a1Z,a1Y,a1D,a1H,a1f,a1B,a1k,a1G,a1n,a0o,a1u,a0q,a1i,a0t,a1x,a0r,a1p,a0s,a1e,a0p,a1I,H7,List.length_map,h34',K4,Bool.not_false,bn,un,U6,a0d,V6,a2F,K6,I8,M0,J8,U5,O5,O4,K4,P5,V.d9Z,U3,Q0,a0G,K8,P8,K7,N9,I5,I9,K9,N8,O6,J6,J7,Nat.zero_add,Nat.add_zero]
 exact I6.done ⟨rfl,fun i hi=>by simp (config:={ maxSteps:=10000000 }) (disch:=first | assumption | omega | (simp only [Y9,Y2,Y1,Y8,Z5,Y6,Y4,X9,Y0,X8,Z4,Y7,Z0,Y5,Z6,Z7,Y3,X7,R5,T9,U2,R9,U1,R7,R8,U0,R6,S9,J2,I4,Nat.reduceMul,Nat.reduceLT,q9,C8,G7,F7,l8,D6,q8,F6,F3,Bool.not_false,Bool.not_true,Bool.and_true,Bool.true_and,Bool.and_self,r9,D5,Nat.zero_add,Nat.reduceAdd,j4,F8,Nat.reduceBEq,G9,H6,E5,j6,A8,l7,l6,l9,C9,j4,F4,G6,G5,F9,H8,H9,D7,z8,D9,w9,o8,o9,F5,D8,I7,IntKind.bits,E9,A9,o7] <;> omega) | assumption) only [E8]⟩
theorem d4P (N:Nat) (hNN:1000 < N) (call a0D call3:j5) (X:Ins) (tv lv:Value) (a b:Nat) (hA:X.A=.ofNat a) (hB:X.B=.ofNat b) (ha:a < 4294967296) (hb:b < 4294967296) (L:List Nat) (hX:X.labels=L.map Int.ofNat) (hL:∀ m ∈ L,m < 4294967296) (hl:L.length < 1000)
 (c:Nat) (h:Trie VObj) (h34:∀ hh,(∀ b,b < c → hh.get b=h.get b) → ∃ z:List Nat → List Nat, ∀ r w,go (call 34 [H7 X tv lv]) ⟨c + 1,hh,r,w⟩=some (.ret (.bool true),⟨c + 1,hh,z r,w⟩))
 (C:Calls12 N call a0D call3 X 3)
 (Ht:P6 c h tv (O9 X.types)) (Hl:P6 c h lv (O9 X.labels)) (r w:List Nat) :
 I6 (go (a0u G8 N call (H7 X tv lv)) ⟨c,h,r,w⟩) fun x s=>x=.ret (.string ⟨⟨M6 (V7 X.op) (M6 (a7q L) (Z8 a))⟩⟩) ∧ ∀ i,i < c → s.h.get i=h.get i:=by
 obtain ⟨z,h34'⟩:=h34 (upd h c (.cells [(.int .i64 X.op, 0),(.int .i64 X.A, 0),(.int .i64 X.B, 0),(.int .u64 (Int.ofNat X.N), 0),(.int .i64 X.k, 0),(.int .i64 X.v, 0),(.int .i64 X.i, 0),(tv, 0),(lv, 0)] 0 false)) (fun b hb=>E8 (by omega))
 obtain ⟨h35,h39,h36,h36',h37c,h37,h37',h38,h44,h96⟩:=C
 have Hl':=Hl
 rw [hX] at Hl'
 have hlen:X.labels.length=L.length:=by rw [hX,List.length_map]
 obtain ⟨ta,te,rfl,_⟩:=id Ht
 obtain ⟨la,le,rfl,_⟩:=id Hl
 simp only [H7,hA,hB,List.length_map,hlen] at h34' Hl'
 have nl:=a0e X.op
 simp (config:={ maxSteps:=10000000 }) (disch:=first | assumption | omega | (simp only [Y9,Y2,Y1,Y8,Z5,Y6,Y4,X9,Y0,X8,Z4,Y7,Z0,Y5,Z6,Z7,Y3,X7,R5,T9,U2,R9,U1,R7,R8,U0,R6,S9,J2,I4,Nat.reduceMul,Nat.reduceLT,q9,C8,G7,F7,l8,D6,q8,F6,F3,Bool.not_false,Bool.not_true,Bool.and_true,Bool.true_and,Bool.and_self,r9,D5,Nat.zero_add,Nat.reduceAdd,j4,F8,Nat.reduceBEq,G9,H6,E5,j6,A8,l7,l6,l9,C9,j4,F4,G6,G5,F9,H8,H9,D7,z8,D9,w9,o8,o9,F5,D8,I7,IntKind.bits,E9,A9,o7] <;> omega) | assumption) only [a0u,a2B,a2t,a2s,a2u,a2z,a2v,a2r,a2w,a2A,a2y,a1r,a1O,a1A,a1q,a1E,a1s,a1g,a1y,a1W,a1J,a1T,a1l,a1X,a1M,a1K,a1j,a1v,a1R,a1P,a1z,a1V,a1L,a1C,a1o,a1m,a1h,a1w,a1t,a1Q,a1S,a1F,a1N,a1Z,a1Y,a1D,a1H,a1f,a1B,a1k,a1G,a1n,a0o,a1u,a0q,a1i,a0t,a1x,a0r,a1p,a0s,a1e,a0p,a1I,H7,hA,hB,hlen,List.length_map,h34',h35,h39,decide_true,K4,J4,V9,G6,G5,F9,Bool.not_true,U7,I5,a9A,bn,un,U6,a0d,V6,a2F,K6,I8,J8,U5,O5,O4,A9,o7,K4,J4,l_0,l_s,P5,L9,V.d9Z,P7,Q7,U3,Q0,a6m,a0G,j6,l7,l9,U9,V4,a0l,R3,Q5,q9,C8,l8,Bool.and_self,K8,M9,P8,a0j,a0Z,V5,K7,N9,X5,I5,I9,E8,K9,N8,O6,Q9,J6,J7,Nat.zero_add,Nat.add_zero,U8,O8,P9]
 refine I6.bindS (c3v N call a0D h36 h37 c h (c + 1 + 1) (c + 1) (c + 1 + 1 + 1) (by omega) (by omega) (by omega) (by omega) (by omega) L _ Hl' hL hl L 0 N _ _ _ _ _ _ _ _ 0 [(.string ⟨⟨V7 X.op⟩⟩, 0)] [V7 X.op] _ _ _ _ rfl (by omega) (by rw [List.length_cons,List.length_nil]; omega) (by omega) (by omega) (by omega) (by omega) ?_ ?_ ?_) fun x s hq=>?_
 · intro b hb; simp (config:={ maxSteps:=10000000 }) (disch:=first | assumption | omega | (simp only [Y9,Y2,Y1,Y8,Z5,Y6,Y4,X9,Y0,X8,Z4,Y7,Z0,Y5,Z6,Z7,Y3,X7,R5,T9,U2,R9,U1,R7,R8,U0,R6,S9,J2,I4,Nat.reduceMul,Nat.reduceLT,q9,C8,G7,F7,l8,D6,q8,F6,F3,Bool.not_false,Bool.not_true,Bool.and_true,Bool.true_and,Bool.and_self,r9,D5,Nat.zero_add,Nat.reduceAdd,j4,F8,Nat.reduceBEq,G9,H6,E5,j6,A8,l7,l6,l9,C9,j4,F4,G6,G5,F9,H8,H9,D7,z8,D9,w9,o8,o9,F5,D8,I7,IntKind.bits,E9,A9,o7] <;> omega) | assumption) only [E8]
 · simp (config:={ maxSteps:=10000000 }) (disch:=first | assumption | omega | (simp only [Y9,Y2,Y1,Y8,Z5,Y6,Y4,X9,Y0,X8,Z4,Y7,Z0,Y5,Z6,Z7,Y3,X7,R5,T9,U2,R9,U1,R7,R8,U0,R6,S9,J2,I4,Nat.reduceMul,Nat.reduceLT,q9,C8,G7,F7,l8,D6,q8,F6,F3,Bool.not_false,Bool.not_true,Bool.and_true,Bool.true_and,Bool.and_self,r9,D5,Nat.zero_add,Nat.reduceAdd,j4,F8,Nat.reduceBEq,G9,H6,E5,j6,A8,l7,l6,l9,C9,j4,F4,G6,G5,F9,H8,H9,D7,z8,D9,w9,o8,o9,F5,D8,I7,IntKind.bits,E9,A9,o7] <;> omega) | assumption) only [I9]
 · refine ⟨?_, ?_,rfl,rfl⟩
   · simp (config:={ maxSteps:=10000000 }) (disch:=first | assumption | omega | (simp only [Y9,Y2,Y1,Y8,Z5,Y6,Y4,X9,Y0,X8,Z4,Y7,Z0,Y5,Z6,Z7,Y3,X7,R5,T9,U2,R9,U1,R7,R8,U0,R6,S9,J2,I4,Nat.reduceMul,Nat.reduceLT,q9,C8,G7,F7,l8,D6,q8,F6,F3,Bool.not_false,Bool.not_true,Bool.and_true,Bool.true_and,Bool.and_self,r9,D5,Nat.zero_add,Nat.reduceAdd,j4,F8,Nat.reduceBEq,G9,H6,E5,j6,A8,l7,l6,l9,C9,j4,F4,G6,G5,F9,H8,H9,D7,z8,D9,w9,o8,o9,F5,D8,I7,IntKind.bits,E9,A9,o7] <;> omega) | assumption) only [E8,I9,List.length_cons,List.length_nil]
   · simp (config:={ maxSteps:=10000000 }) (disch:=first | assumption | omega | (simp only [Y9,Y2,Y1,Y8,Z5,Y6,Y4,X9,Y0,X8,Z4,Y7,Z0,Y5,Z6,Z7,Y3,X7,R5,T9,U2,R9,U1,R7,R8,U0,R6,S9,J2,I4,Nat.reduceMul,Nat.reduceLT,q9,C8,G7,F7,l8,D6,q8,F6,F3,Bool.not_false,Bool.not_true,Bool.and_true,Bool.true_and,Bool.and_self,r9,D5,Nat.zero_add,Nat.reduceAdd,j4,F8,Nat.reduceBEq,G9,H6,E5,j6,A8,l7,l6,l9,C9,j4,F4,G6,G5,F9,H8,H9,D7,z8,D9,w9,o8,o9,F5,D8,I7,IntKind.bits,E9,A9,o7] <;> omega) | assumption) only [E8,I9]
 obtain ⟨x1,x2⟩:=x
 obtain ⟨c',h',r',w'⟩:=s
 obtain ⟨rfl,hc',⟨g,cs,HL⟩,hfr⟩:=hq
 simp only at hc' HL hfr
 have hbox:=hfr c (by omega) (by omega) (by omega)
 have hnum:=hfr (c + 1 + 1 + 1) (by omega) (by omega) (by omega)
 simp (config:={ maxSteps:=10000000 }) (disch:=first | assumption | omega | (simp only [Y9,Y2,Y1,Y8,Z5,Y6,Y4,X9,Y0,X8,Z4,Y7,Z0,Y5,Z6,Z7,Y3,X7,R5,T9,U2,R9,U1,R7,R8,U0,R6,S9,J2,I4,Nat.reduceMul,Nat.reduceLT,q9,C8,G7,F7,l8,D6,q8,F6,F3,Bool.not_false,Bool.not_true,Bool.and_true,Bool.true_and,Bool.and_self,r9,D5,Nat.zero_add,Nat.reduceAdd,j4,F8,Nat.reduceBEq,G9,H6,E5,j6,A8,l7,l6,l9,C9,j4,F4,G6,G5,F9,H8,H9,D7,z8,D9,w9,o8,o9,F5,D8,I7,IntKind.bits,E9,A9,o7] <;> omega) | assumption) only [E8,I9] at hbox hnum
 simp (config:={ maxSteps:=10000000 }) (disch:=first | assumption | omega | (simp only [Y9,Y2,Y1,Y8,Z5,Y6,Y4,X9,Y0,X8,Z4,Y7,Z0,Y5,Z6,Z7,Y3,X7,R5,T9,U2,R9,U1,R7,R8,U0,R6,S9,J2,I4,Nat.reduceMul,Nat.reduceLT,q9,C8,G7,F7,l8,D6,q8,F6,F3,Bool.not_false,Bool.not_true,Bool.and_true,Bool.true_and,Bool.and_self,r9,D5,Nat.zero_add,Nat.reduceAdd,j4,F8,Nat.reduceBEq,G9,H6,E5,j6,A8,l7,l6,l9,C9,j4,F4,G6,G5,F9,H8,H9,D7,z8,D9,w9,o8,o9,F5,D8,I7,IntKind.bits,E9,A9,o7] <;> omega) | assumption) only [hbox,hnum,h36,U7,a9A,j4,K4,K6,I8,A9,o7,K4,l_0,a6z,P7,M9,K7,N9,I5,O6,Q9,J6,J7]
 refine I6.bindS (t36 N a0D a (c + 1 + 1) (c + 1) g cs _ (by rw [List.length_append,List.length_cons,List.length_nil,List.length_map]; omega) c' h' _ _ (by omega) h37 HL (by omega) (by omega) (by omega)) fun x s hq=>?_
 obtain ⟨c2,h2,r2,w2⟩:=s
 obtain ⟨rfl,hc2,HL2,hfr2⟩:=hq
 simp only at hc2 HL2 hfr2
 have HL3:Lst h2 (c + 1 + 1) (c + 1) (g + 1) (M6 cs [(b3Y (Lib.decDigits a),g + 1)]) (V7 X.op :: (L.map Lib.decDigits ++ [Lib.decDigits a])):=HL2
 have hj:a5V [32] (V7 X.op :: (L.map Lib.decDigits ++ [Lib.decDigits a]))=M6 (V7 X.op) (M6 (a7q L) (Z8 a)):=by rw [a0g,c4g]
 have hcl:=b2n L hL
 have hsl:=a2T a (by omega)
 have hcell:=HL3.cell
 have hgo:=c3R (c:=c2) HL3 (by omega) (by rw [List.length_append,List.length_cons,List.length_nil,List.length_map]; omega) (by rw [hj,E9,E9]; omega)
 rw [hj] at hgo
 simp (config:={ maxSteps:=10000000 }) (disch:=first | assumption | omega | (simp only [Y9,Y2,Y1,Y8,Z5,Y6,Y4,X9,Y0,X8,Z4,Y7,Z0,Y5,Z6,Z7,Y3,X7,R5,T9,U2,R9,U1,R7,R8,U0,R6,S9,J2,I4,Nat.reduceMul,Nat.reduceLT,q9,C8,G7,F7,l8,D6,q8,F6,F3,Bool.not_false,Bool.not_true,Bool.and_true,Bool.true_and,Bool.and_self,r9,D5,Nat.zero_add,Nat.reduceAdd,j4,F8,Nat.reduceBEq,G9,H6,E5,j6,A8,l7,l6,l9,C9,j4,F4,G6,G5,F9,H8,H9,D7,z8,D9,w9,o8,o9,F5,D8,I7,IntKind.bits,E9,A9,o7] <;> omega) | assumption) only [hcell,h44,h96,a2Z,hgo,V6,K6,I8,M0,J8,l_0,L9,V.d9Z,M9,K7,N9,I5,O6,J6,J7]
 refine I6.done ⟨rfl,fun i hi=>?_⟩
 refine (hfr2 i (by omega) (by omega) (by omega)).trans ((hfr i (by omega) (by omega) (by omega)).trans ?_)
 simp (config:={ maxSteps:=10000000 }) (disch:=first | assumption | omega | (simp only [Y9,Y2,Y1,Y8,Z5,Y6,Y4,X9,Y0,X8,Z4,Y7,Z0,Y5,Z6,Z7,Y3,X7,R5,T9,U2,R9,U1,R7,R8,U0,R6,S9,J2,I4,Nat.reduceMul,Nat.reduceLT,q9,C8,G7,F7,l8,D6,q8,F6,F3,Bool.not_false,Bool.not_true,Bool.and_true,Bool.true_and,Bool.and_self,r9,D5,Nat.zero_add,Nat.reduceAdd,j4,F8,Nat.reduceBEq,G9,H6,E5,j6,A8,l7,l6,l9,C9,j4,F4,G6,G5,F9,H8,H9,D7,z8,D9,w9,o8,o9,F5,D8,I7,IntKind.bits,E9,A9,o7] <;> omega) | assumption) only [E8]
end Go.Proofs.YtmomonnlmbljoaaGreatDoor
end
section
namespace Go.Proofs.YtmomonnlmbljoaaGreatDoor
open Go.V Go.RowKit Go.Shelf Go.Proofs
set_option maxRecDepth 1000000
set_option linter.unusedVariables false
variable {mL:Int}
noncomputable def e7:Nat → Option (List Value → M Value):=a0H (a0H e6 13 (XI a7i)) 41 (a6Y q41)
noncomputable def s7:a2i:=a2h (a2h s6 13 (XI a7i)) 41 (a6Y q41)
theorem L7:Shelf' Tryz.prog Q6 (W9 mL) NN e7 s7:=(L6.add d6M).add d4k
theorem c0L (n m:Nat) (h:m < 9223372036854775808):J9 s7 (n + 1) 37 [.int .i64 (.ofNat m)]=M.pure (.ret (.string ⟨⟨Lib.decDigits m⟩⟩)):=by
 refine a5P s7 n 37 _ (g:=b1B) (by kernel_rfl) ?_
 show bcase (decide (-9223372036854775808 ≤ (Int.ofNat m)) && decide ((Int.ofNat m) ≤ 9223372036854775807)) _ none=_
 rw [decide_eq_true (by simp only [Int.ofNat_eq_natCast]; omega),decide_eq_true (by simp only [Int.ofNat_eq_natCast]; omega)]; rfl
theorem a2G (X:Ins) {K:Nat} (hk:a0K X.op=K):Calls12 NN (J9 s7 3) (J9 s7 2) (J9 s7 1) X K where
 h35:=a2P (q:=fun z=>some (.string ⟨⟨V7 z⟩⟩)) (by kernel_rfl) 2 rfl
 h39:=by rw [← hk]; exact a2P (q:=fun z=>some (.int .i64 (.ofNat (a0K z)))) (by kernel_rfl) 2 rfl
 h36:=fun a b=>a9y (q:=a4h) (N:=NN) (by kernel_rfl) 2 a b
 h36':=fun a b=>a9y (q:=a4h) (N:=NN) (by kernel_rfl) 1 a b
 h37c:=c0L 2
 h37:=c0L 1
 h37':=c0L 0
 h38:=fun a b=>a9y (q:=a3b) (N:=NN) (by kernel_rfl) 2 a b
 h44:=fun a=>a3g (q:=a2Z) (N:=NN) (by kernel_rfl) 2 a
 h96:=fun a b=>a8x s7 1 96 [a,b] (g:=a7M) (by kernel_rfl)
theorem d7j (n:Nat) (z:Int):J9 s7 (n + 1) 40 [.int .i64 z]=M.pure (.ret (.string ⟨⟨a2k z⟩⟩)):=a2P (q:=fun z=>some (.string ⟨⟨a2k z⟩⟩)) (by kernel_rfl) n rfl
theorem d8j (n:Nat) (z:Int):J9 s7 (n + 1) 43 [.int .i64 z]=M.pure (.ret (.string ⟨⟨bcase (decide (z=3)) [102, 117, 110, 99] [101, 120, 116, 101, 114, 110]⟩⟩)):=a2P (q:=fun z=>some (.string ⟨⟨bcase (decide (z=3)) [102, 117, 110, 99] [101, 120, 116, 101, 114, 110]⟩⟩)) (by kernel_rfl) n rfl
theorem c7U (n m:Nat) (h:m < 4294967296):J9 s7 (n + 1) 42 [.int .u64 (.ofNat m),.int .i64 (.ofNat 32)]=M.pure (.ret (.string ⟨⟨Lib.itoa (sgn 32 m)⟩⟩)):=a0D (q:=a6l) (by kernel_rfl) n (b7X m h)
theorem c9n (n m:Nat) (h:m < 18446744073709551616):J9 s7 (n + 1) 42 [.int .u64 (.ofNat m),.int .i64 (.ofNat 64)]=M.pure (.ret (.string ⟨⟨Lib.itoa (sgn 64 m)⟩⟩)):=a0D (q:=a6l) (by kernel_rfl) n (b2E m h)
theorem d7T (n:Nat) (k v i:Int) (h1:-9223372036854775808 ≤ i) (h2:i ≤ 9223372036854775807):J9 s7 (n + 1) 14 [.agg ⟨[.int .i64 k,.int .i64 v,.int .i64 i]⟩]=M.pure (.ret (.string ⟨⟨a5J k v i⟩⟩)):=b1L (q:=a7Z) (by kernel_rfl) n (b1G k v i h1 h2)
theorem b5m (n:Nat) (a:Value):J9 s7 (n + 1) 41 [a]=M.bind (a6Y q41 [a]) fun v=>M.pure (.ret v):=a8x s7 n 41 [a] (g:=a6Y q41) (by kernel_rfl)
theorem cI3 {q:Ins → Option Value} {sh:a2i} {f:Nat} (hf:sh.get f=some (arX (XI q))) {c:Nat} {h:Trie VObj} {X:Ins} {x y:Value} (H:InsAt c h X x) (e:q X=some y) (hh:Trie VObj) (hb:∀ b,b < c → hh.get b=h.get b) :
 ∃ z:List Nat → List Nat, ∀ r w,go (J9 sh 3 f [x]) ⟨c + 1,hh,r,w⟩=some (.ret y,⟨c + 1,hh,z r,w⟩):=by
 obtain ⟨z,hz⟩:=b8g H (Nat.le_succ c) hb e
 exact ⟨z,fun r w=>b5q hf 2 (hz r w)⟩
theorem d0c {k v i:Int} (h:a5c k v i=true):beqBytes (a5J k v i) []=decide (k=0):=by
 unfold a5c at h
 cases h0:decide (k=0) with
 | true=>
   have:k=0:=of_decide_eq_true h0
   subst this
   rfl
 | false=>
   rw [h0] at h
   cases h1:decide (k=1) with
   | true=>
     rw [h1] at h
     have h':(a2X v && decide (i=0))=true:=h
     rw [Bool.and_eq_true] at h'
     unfold a5J
     rw [h1,h'.1]
     rfl
   | false=>
     rw [h1] at h
     have h':(decide (k=2) && decide (v=0) && idxB i)=true:=h
     rw [Bool.and_eq_true,Bool.and_eq_true] at h'
     unfold a5J
     rw [h1,h'.1.1]
     rfl
theorem d5u (X:Ins) (tv lv:Value) (hk:a0K X.op=0) (F:PlainF 0 X) (hN:X.N < 18446744073709551616) (c:Nat) (h:Trie VObj) (h34:∀ hh,(∀ b,b < c → hh.get b=h.get b) → ∃ z:List Nat → List Nat, ∀ r w,go (J9 s7 3 34 [H7 X tv lv]) ⟨c + 1,hh,r,w⟩=some (.ret (.bool true),⟨c + 1,hh,z r,w⟩))
 (H:InsAt c h X (H7 X tv lv)) (Ht:P6 c h tv (O9 X.types)) (Hl:P6 c h lv (O9 X.labels)) (r w:List Nat) :
 I6 (go (a0u G8 NN (J9 s7 3) (H7 X tv lv)) ⟨c,h,r,w⟩) fun x s=>x=.ret (.string ⟨⟨a2a X⟩⟩) ∧ ∀ i,i < c → s.h.get i=h.get i:=by
 obtain ⟨a,hA,ha⟩:=O1 F.A
 obtain ⟨b,hB,hb⟩:=O1 F.B
 exact (d6D NN _ _ _ X tv lv a b hA hB ha hb  c h h34 (a2G X hk) Ht Hl r w).mono fun x s ⟨q,q'⟩=>⟨by rw [q,a0I hk (by rfl)],q'⟩
theorem d8R (X:Ins) (tv lv:Value) (hk:a0K X.op=2) (F:PlainF 2 X) (hN:X.N < 18446744073709551616) (c:Nat) (h:Trie VObj) (h34:∀ hh,(∀ b,b < c → hh.get b=h.get b) → ∃ z:List Nat → List Nat, ∀ r w,go (J9 s7 3 34 [H7 X tv lv]) ⟨c + 1,hh,r,w⟩=some (.ret (.bool true),⟨c + 1,hh,z r,w⟩))
 (H:InsAt c h X (H7 X tv lv)) (Ht:P6 c h tv (O9 X.types)) (Hl:P6 c h lv (O9 X.labels)) (r w:List Nat) :
 I6 (go (a0u G8 NN (J9 s7 3) (H7 X tv lv)) ⟨c,h,r,w⟩) fun x s=>x=.ret (.string ⟨⟨a2a X⟩⟩) ∧ ∀ i,i < c → s.h.get i=h.get i:=by
 obtain ⟨a,hA,ha⟩:=O1 F.A
 obtain ⟨b,hB,hb⟩:=O1 F.B
 exact (d5Y NN _ _ _ X tv lv a b hA hB ha hb  c h h34 (a2G X hk) Ht Hl r w).mono fun x s ⟨q,q'⟩=>⟨by rw [q,a0I hk (by unfold a2O; rw [hA]; rfl)],q'⟩
theorem d8w (X:Ins) (tv lv:Value) (hk:a0K X.op=4) (F:PlainF 4 X) (hN:X.N < 18446744073709551616) (c:Nat) (h:Trie VObj) (h34:∀ hh,(∀ b,b < c → hh.get b=h.get b) → ∃ z:List Nat → List Nat, ∀ r w,go (J9 s7 3 34 [H7 X tv lv]) ⟨c + 1,hh,r,w⟩=some (.ret (.bool true),⟨c + 1,hh,z r,w⟩))
 (H:InsAt c h X (H7 X tv lv)) (Ht:P6 c h tv (O9 X.types)) (Hl:P6 c h lv (O9 X.labels)) (r w:List Nat) :
 I6 (go (a0u G8 NN (J9 s7 3) (H7 X tv lv)) ⟨c,h,r,w⟩) fun x s=>x=.ret (.string ⟨⟨a2a X⟩⟩) ∧ ∀ i,i < c → s.h.get i=h.get i:=by
 obtain ⟨a,hA,ha⟩:=O1 F.A
 obtain ⟨b,hB,hb⟩:=O1 F.B
 exact (d6V NN _ _ _ X tv lv a b hA hB ha hb  c h h34 (a2G X hk) Ht Hl r w).mono fun x s ⟨q,q'⟩=>⟨by rw [q,a0I hk (by unfold a2O; rw [hA]; rfl)],q'⟩
theorem d9k (X:Ins) (tv lv:Value) (hk:a0K X.op=7) (F:PlainF 7 X) (hN:X.N < 18446744073709551616) (c:Nat) (h:Trie VObj) (h34:∀ hh,(∀ b,b < c → hh.get b=h.get b) → ∃ z:List Nat → List Nat, ∀ r w,go (J9 s7 3 34 [H7 X tv lv]) ⟨c + 1,hh,r,w⟩=some (.ret (.bool true),⟨c + 1,hh,z r,w⟩))
 (H:InsAt c h X (H7 X tv lv)) (Ht:P6 c h tv (O9 X.types)) (Hl:P6 c h lv (O9 X.labels)) (r w:List Nat) :
 I6 (go (a0u G8 NN (J9 s7 3) (H7 X tv lv)) ⟨c,h,r,w⟩) fun x s=>x=.ret (.string ⟨⟨a2a X⟩⟩) ∧ ∀ i,i < c → s.h.get i=h.get i:=by
 obtain ⟨a,hA,ha⟩:=O1 F.A
 obtain ⟨b,hB,hb⟩:=O1 F.B
 exact (d5L NN _ _ _ X tv lv a b hA hB ha hb  c h h34 (a2G X hk) Ht Hl r w).mono fun x s ⟨q,q'⟩=>⟨by rw [q,a0I hk (by unfold a2O; rw [hA]; rfl)],q'⟩
theorem d8X (X:Ins) (tv lv:Value) (hk:a0K X.op=8) (F:PlainF 8 X) (hN:X.N < 18446744073709551616) (c:Nat) (h:Trie VObj) (h34:∀ hh,(∀ b,b < c → hh.get b=h.get b) → ∃ z:List Nat → List Nat, ∀ r w,go (J9 s7 3 34 [H7 X tv lv]) ⟨c + 1,hh,r,w⟩=some (.ret (.bool true),⟨c + 1,hh,z r,w⟩))
 (H:InsAt c h X (H7 X tv lv)) (Ht:P6 c h tv (O9 X.types)) (Hl:P6 c h lv (O9 X.labels)) (r w:List Nat) :
 I6 (go (a0u G8 NN (J9 s7 3) (H7 X tv lv)) ⟨c,h,r,w⟩) fun x s=>x=.ret (.string ⟨⟨a2a X⟩⟩) ∧ ∀ i,i < c → s.h.get i=h.get i:=by
 obtain ⟨a,hA,ha⟩:=O1 F.A
 obtain ⟨b,hB,hb⟩:=O1 F.B
 exact (d2d NN _ _ _ X tv lv a b hA hB ha hb  c h h34 (a2G X hk) Ht Hl r w).mono fun x s ⟨q,q'⟩=>⟨by rw [q,a0I hk (by unfold a2O; rw [hA]; rfl)],q'⟩
theorem c8N (X:Ins) (tv lv:Value) (hk:a0K X.op=12) (F:PlainF 12 X) (hN:X.N < 18446744073709551616) (c:Nat) (h:Trie VObj) (h34:∀ hh,(∀ b,b < c → hh.get b=h.get b) → ∃ z:List Nat → List Nat, ∀ r w,go (J9 s7 3 34 [H7 X tv lv]) ⟨c + 1,hh,r,w⟩=some (.ret (.bool true),⟨c + 1,hh,z r,w⟩))
 (H:InsAt c h X (H7 X tv lv)) (Ht:P6 c h tv (O9 X.types)) (Hl:P6 c h lv (O9 X.labels)) (r w:List Nat) :
 I6 (go (a0u G8 NN (J9 s7 3) (H7 X tv lv)) ⟨c,h,r,w⟩) fun x s=>x=.ret (.string ⟨⟨a2a X⟩⟩) ∧ ∀ i,i < c → s.h.get i=h.get i:=by
 obtain ⟨a,hA,ha⟩:=O1 F.A
 obtain ⟨b,hB,hb⟩:=O1 F.B
 exact (c9F NN _ _ _ X tv lv a b hA hB ha hb  c h h34 (a2G X hk) Ht Hl r w).mono fun x s ⟨q,q'⟩=>⟨by rw [q,a0I hk (by unfold a2O; rw [hA]; rfl)],q'⟩
theorem d0s (X:Ins) (tv lv:Value) (hk:a0K X.op=16) (F:PlainF 16 X) (hN:X.N < 18446744073709551616) (c:Nat) (h:Trie VObj) (h34:∀ hh,(∀ b,b < c → hh.get b=h.get b) → ∃ z:List Nat → List Nat, ∀ r w,go (J9 s7 3 34 [H7 X tv lv]) ⟨c + 1,hh,r,w⟩=some (.ret (.bool true),⟨c + 1,hh,z r,w⟩))
 (H:InsAt c h X (H7 X tv lv)) (Ht:P6 c h tv (O9 X.types)) (Hl:P6 c h lv (O9 X.labels)) (r w:List Nat) :
 I6 (go (a0u G8 NN (J9 s7 3) (H7 X tv lv)) ⟨c,h,r,w⟩) fun x s=>x=.ret (.string ⟨⟨a2a X⟩⟩) ∧ ∀ i,i < c → s.h.get i=h.get i:=by
 obtain ⟨a,hA,ha⟩:=O1 F.A
 obtain ⟨b,hB,hb⟩:=O1 F.B
 exact (c8b NN _ _ _ X tv lv a b hA hB ha hb  c h h34 (a2G X hk) Ht Hl r w).mono fun x s ⟨q,q'⟩=>⟨by rw [q,a0I hk (by unfold a2O; rw [hA]; rfl)],q'⟩
theorem d4u (X:Ins) (tv lv:Value) (hk:a0K X.op=9) (F:PlainF 9 X) (hN:X.N < 18446744073709551616) (c:Nat) (h:Trie VObj) (h34:∀ hh,(∀ b,b < c → hh.get b=h.get b) → ∃ z:List Nat → List Nat, ∀ r w,go (J9 s7 3 34 [H7 X tv lv]) ⟨c + 1,hh,r,w⟩=some (.ret (.bool true),⟨c + 1,hh,z r,w⟩))
 (H:InsAt c h X (H7 X tv lv)) (Ht:P6 c h tv (O9 X.types)) (Hl:P6 c h lv (O9 X.labels)) (r w:List Nat) :
 I6 (go (a0u G8 NN (J9 s7 3) (H7 X tv lv)) ⟨c,h,r,w⟩) fun x s=>x=.ret (.string ⟨⟨a2a X⟩⟩) ∧ ∀ i,i < c → s.h.get i=h.get i:=by
 obtain ⟨a,hA,ha⟩:=O1 F.A
 obtain ⟨b,hB,hb⟩:=O1 F.B
 exact (d7s NN _ _ _ X tv lv a b hA hB ha hb  c h h34 (a2G X hk) Ht Hl r w).mono fun x s ⟨q,q'⟩=>⟨by rw [q,a0I hk (by unfold a2O; rw [hA]; rfl)],q'⟩
theorem d1a (X:Ins) (tv lv:Value) (hk:a0K X.op=13) (F:PlainF 13 X) (hN:X.N < 18446744073709551616) (c:Nat) (h:Trie VObj) (h34:∀ hh,(∀ b,b < c → hh.get b=h.get b) → ∃ z:List Nat → List Nat, ∀ r w,go (J9 s7 3 34 [H7 X tv lv]) ⟨c + 1,hh,r,w⟩=some (.ret (.bool true),⟨c + 1,hh,z r,w⟩))
 (H:InsAt c h X (H7 X tv lv)) (Ht:P6 c h tv (O9 X.types)) (Hl:P6 c h lv (O9 X.labels)) (r w:List Nat) :
 I6 (go (a0u G8 NN (J9 s7 3) (H7 X tv lv)) ⟨c,h,r,w⟩) fun x s=>x=.ret (.string ⟨⟨a2a X⟩⟩) ∧ ∀ i,i < c → s.h.get i=h.get i:=by
 obtain ⟨a,hA,ha⟩:=O1 F.A
 obtain ⟨b,hB,hb⟩:=O1 F.B
 exact (c9m NN _ _ _ X tv lv a b hA hB ha hb  c h h34 (a2G X hk) Ht Hl r w).mono fun x s ⟨q,q'⟩=>⟨by rw [q,a0I hk (by unfold a2O; rw [hB]; rfl)],q'⟩
theorem d0O (X:Ins) (tv lv:Value) (hk:a0K X.op=10) (F:PlainF 10 X) (hN:X.N < 18446744073709551616) (c:Nat) (h:Trie VObj) (h34:∀ hh,(∀ b,b < c → hh.get b=h.get b) → ∃ z:List Nat → List Nat, ∀ r w,go (J9 s7 3 34 [H7 X tv lv]) ⟨c + 1,hh,r,w⟩=some (.ret (.bool true),⟨c + 1,hh,z r,w⟩))
 (H:InsAt c h X (H7 X tv lv)) (Ht:P6 c h tv (O9 X.types)) (Hl:P6 c h lv (O9 X.labels)) (r w:List Nat) :
 I6 (go (a0u G8 NN (J9 s7 3) (H7 X tv lv)) ⟨c,h,r,w⟩) fun x s=>x=.ret (.string ⟨⟨a2a X⟩⟩) ∧ ∀ i,i < c → s.h.get i=h.get i:=by
 obtain ⟨a,hA,ha⟩:=O1 F.A
 obtain ⟨b,hB,hb⟩:=O1 F.B
 exact (c8o NN _ _ _ X tv lv a b hA hB ha hb  c h h34 (a2G X hk) Ht Hl r w).mono fun x s ⟨q,q'⟩=>⟨by rw [q,a0I hk (by unfold a2O; rw [hA,hB]; rfl)],q'⟩
theorem c8E (X:Ins) (tv lv:Value) (hk:a0K X.op=14) (F:PlainF 14 X) (hN:X.N < 18446744073709551616) (c:Nat) (h:Trie VObj) (h34:∀ hh,(∀ b,b < c → hh.get b=h.get b) → ∃ z:List Nat → List Nat, ∀ r w,go (J9 s7 3 34 [H7 X tv lv]) ⟨c + 1,hh,r,w⟩=some (.ret (.bool true),⟨c + 1,hh,z r,w⟩))
 (H:InsAt c h X (H7 X tv lv)) (Ht:P6 c h tv (O9 X.types)) (Hl:P6 c h lv (O9 X.labels)) (r w:List Nat) :
 I6 (go (a0u G8 NN (J9 s7 3) (H7 X tv lv)) ⟨c,h,r,w⟩) fun x s=>x=.ret (.string ⟨⟨a2a X⟩⟩) ∧ ∀ i,i < c → s.h.get i=h.get i:=by
 obtain ⟨a,hA,ha⟩:=O1 F.A
 obtain ⟨b,hB,hb⟩:=O1 F.B
 exact (c8F NN _ _ _ X tv lv a b hA hB ha hb  c h h34 (a2G X hk) Ht Hl r w).mono fun x s ⟨q,q'⟩=>⟨by rw [q,a0I hk (by unfold a2O; rw [hA,hB]; rfl)],q'⟩
theorem c9s (X:Ins) (tv lv:Value) (hk:a0K X.op=11) (F:PlainF 11 X) (hN:X.N < 18446744073709551616) (c:Nat) (h:Trie VObj) (h34:∀ hh,(∀ b,b < c → hh.get b=h.get b) → ∃ z:List Nat → List Nat, ∀ r w,go (J9 s7 3 34 [H7 X tv lv]) ⟨c + 1,hh,r,w⟩=some (.ret (.bool true),⟨c + 1,hh,z r,w⟩))
 (H:InsAt c h X (H7 X tv lv)) (Ht:P6 c h tv (O9 X.types)) (Hl:P6 c h lv (O9 X.labels)) (r w:List Nat) :
 I6 (go (a0u G8 NN (J9 s7 3) (H7 X tv lv)) ⟨c,h,r,w⟩) fun x s=>x=.ret (.string ⟨⟨a2a X⟩⟩) ∧ ∀ i,i < c → s.h.get i=h.get i:=by
 obtain ⟨a,hA,ha⟩:=O1 F.A
 obtain ⟨b,hB,hb⟩:=O1 F.B
 exact (d1h NN _ _ _ X tv lv a b hA hB ha hb  c h h34 (a2G X hk) Ht Hl r w).mono fun x s ⟨q,q'⟩=>⟨by rw [q,a0I hk (by unfold a2O; rw [hA,hB]; rfl)],q'⟩
theorem c8c (X:Ins) (tv lv:Value) (hk:a0K X.op=15) (F:PlainF 15 X) (hN:X.N < 18446744073709551616) (c:Nat) (h:Trie VObj) (h34:∀ hh,(∀ b,b < c → hh.get b=h.get b) → ∃ z:List Nat → List Nat, ∀ r w,go (J9 s7 3 34 [H7 X tv lv]) ⟨c + 1,hh,r,w⟩=some (.ret (.bool true),⟨c + 1,hh,z r,w⟩))
 (H:InsAt c h X (H7 X tv lv)) (Ht:P6 c h tv (O9 X.types)) (Hl:P6 c h lv (O9 X.labels)) (r w:List Nat) :
 I6 (go (a0u G8 NN (J9 s7 3) (H7 X tv lv)) ⟨c,h,r,w⟩) fun x s=>x=.ret (.string ⟨⟨a2a X⟩⟩) ∧ ∀ i,i < c → s.h.get i=h.get i:=by
 obtain ⟨a,hA,ha⟩:=O1 F.A
 obtain ⟨b,hB,hb⟩:=O1 F.B
 exact (c8q NN _ _ _ X tv lv a b hA hB ha hb  c h h34 (a2G X hk) Ht Hl r w).mono fun x s ⟨q,q'⟩=>⟨by rw [q,a0I hk (by unfold a2O; rw [hA,hB]; rfl)],q'⟩
theorem d6A (X:Ins) (tv lv:Value) (hk:a0K X.op=5) (F:PlainF 5 X) (hN:X.N < 18446744073709551616) (c:Nat) (h:Trie VObj) (h34:∀ hh,(∀ b,b < c → hh.get b=h.get b) → ∃ z:List Nat → List Nat, ∀ r w,go (J9 s7 3 34 [H7 X tv lv]) ⟨c + 1,hh,r,w⟩=some (.ret (.bool true),⟨c + 1,hh,z r,w⟩))
 (H:InsAt c h X (H7 X tv lv)) (Ht:P6 c h tv (O9 X.types)) (Hl:P6 c h lv (O9 X.labels)) (r w:List Nat) :
 I6 (go (a0u G8 NN (J9 s7 3) (H7 X tv lv)) ⟨c,h,r,w⟩) fun x s=>x=.ret (.string ⟨⟨a2a X⟩⟩) ∧ ∀ i,i < c → s.h.get i=h.get i:=by
 obtain ⟨a,hA,ha⟩:=O1 F.A
 obtain ⟨b,hB,hb⟩:=O1 F.B
 exact (d1o NN _ _ _ X tv lv a b hA hB ha hb  c h h34 (a2G X hk) Ht Hl r w).mono fun x s ⟨q,q'⟩=>⟨by rw [q,a0I hk (by unfold a2O; rw [hA,hB]; rfl)],q'⟩
theorem c8g (X:Ins) (tv lv:Value) (hk:a0K X.op=18) (F:PlainF 18 X) (hN:X.N < 18446744073709551616) (c:Nat) (h:Trie VObj) (h34:∀ hh,(∀ b,b < c → hh.get b=h.get b) → ∃ z:List Nat → List Nat, ∀ r w,go (J9 s7 3 34 [H7 X tv lv]) ⟨c + 1,hh,r,w⟩=some (.ret (.bool true),⟨c + 1,hh,z r,w⟩))
 (H:InsAt c h X (H7 X tv lv)) (Ht:P6 c h tv (O9 X.types)) (Hl:P6 c h lv (O9 X.labels)) (r w:List Nat) :
 I6 (go (a0u G8 NN (J9 s7 3) (H7 X tv lv)) ⟨c,h,r,w⟩) fun x s=>x=.ret (.string ⟨⟨a2a X⟩⟩) ∧ ∀ i,i < c → s.h.get i=h.get i:=by
 obtain ⟨a,hA,ha⟩:=O1 F.A
 obtain ⟨b,hB,hb⟩:=O1 F.B
 exact (d0H NN _ _ _ X tv lv a b hA hB ha hb (c7U 2 _ (F.N rfl)) (Nat.le_trans (a7o (sgn 32 X.N) (b2v _ (F.N rfl)) (by have:=b2x _ (F.N rfl); omega)) (by decide)) c h h34 (a2G X hk) Ht Hl r w).mono fun x s ⟨q,q'⟩=>⟨by rw [q,a0I hk (by rfl)],q'⟩
theorem c9M (X:Ins) (tv lv:Value) (hk:a0K X.op=19) (F:PlainF 19 X) (hN:X.N < 18446744073709551616) (c:Nat) (h:Trie VObj) (h34:∀ hh,(∀ b,b < c → hh.get b=h.get b) → ∃ z:List Nat → List Nat, ∀ r w,go (J9 s7 3 34 [H7 X tv lv]) ⟨c + 1,hh,r,w⟩=some (.ret (.bool true),⟨c + 1,hh,z r,w⟩))
 (H:InsAt c h X (H7 X tv lv)) (Ht:P6 c h tv (O9 X.types)) (Hl:P6 c h lv (O9 X.labels)) (r w:List Nat) :
 I6 (go (a0u G8 NN (J9 s7 3) (H7 X tv lv)) ⟨c,h,r,w⟩) fun x s=>x=.ret (.string ⟨⟨a2a X⟩⟩) ∧ ∀ i,i < c → s.h.get i=h.get i:=by
 obtain ⟨a,hA,ha⟩:=O1 F.A
 obtain ⟨b,hB,hb⟩:=O1 F.B
 exact (d0j NN _ _ _ X tv lv a b hA hB ha hb (c9n 2 _ hN) (Nat.le_trans (a7o (sgn 64 X.N) (by unfold sgn; split <;> omega) (by unfold sgn; split <;> omega)) (by decide)) c h h34 (a2G X hk) Ht Hl r w).mono fun x s ⟨q,q'⟩=>⟨by rw [q,a0I hk (by rfl)],q'⟩
theorem c9c (X:Ins) (tv lv:Value) (hk:a0K X.op=20) (F:PlainF 20 X) (hN:X.N < 18446744073709551616) (c:Nat) (h:Trie VObj) (h34:∀ hh,(∀ b,b < c → hh.get b=h.get b) → ∃ z:List Nat → List Nat, ∀ r w,go (J9 s7 3 34 [H7 X tv lv]) ⟨c + 1,hh,r,w⟩=some (.ret (.bool true),⟨c + 1,hh,z r,w⟩))
 (H:InsAt c h X (H7 X tv lv)) (Ht:P6 c h tv (O9 X.types)) (Hl:P6 c h lv (O9 X.labels)) (r w:List Nat) :
 I6 (go (a0u G8 NN (J9 s7 3) (H7 X tv lv)) ⟨c,h,r,w⟩) fun x s=>x=.ret (.string ⟨⟨a2a X⟩⟩) ∧ ∀ i,i < c → s.h.get i=h.get i:=by
 obtain ⟨a,hA,ha⟩:=O1 F.A
 obtain ⟨b,hB,hb⟩:=O1 F.B
 exact (c8Q NN _ _ _ X tv lv a b hA hB ha hb (d8j 2 _) c h h34 (a2G X hk) Ht Hl r w).mono fun x s ⟨q,q'⟩=>⟨by rw [q,a0I hk (by rfl)],q'⟩
theorem d4g (X:Ins) (tv lv:Value) (hk:a0K X.op=1) (F:PlainF 1 X) (hN:X.N < 18446744073709551616) (c:Nat) (h:Trie VObj) (h34:∀ hh,(∀ b,b < c → hh.get b=h.get b) → ∃ z:List Nat → List Nat, ∀ r w,go (J9 s7 3 34 [H7 X tv lv]) ⟨c + 1,hh,r,w⟩=some (.ret (.bool true),⟨c + 1,hh,z r,w⟩))
 (H:InsAt c h X (H7 X tv lv)) (Ht:P6 c h tv (O9 X.types)) (Hl:P6 c h lv (O9 X.labels)) (r w:List Nat) :
 I6 (go (a0u G8 NN (J9 s7 3) (H7 X tv lv)) ⟨c,h,r,w⟩) fun x s=>x=.ret (.string ⟨⟨a2a X⟩⟩) ∧ ∀ i,i < c → s.h.get i=h.get i:=by
 obtain ⟨a,hA,ha⟩:=O1 F.A
 obtain ⟨b,hB,hb⟩:=O1 F.B
 have hbk:a5c X.k X.v X.i=true:=F.rest
 obtain ⟨i1,i2⟩:=c2t hbk
 exact (d1y NN _ _ _ X tv lv a b hA hB ha hb (b6f _ _ _ i1 i2) (d0c hbk) (d7T 2 _ _ _ i1 i2) c h h34 (a2G X hk) Ht Hl r w).mono fun x s ⟨q,q'⟩=>⟨by rw [q,a0I hk (by rfl)],q'⟩
theorem d6R (X:Ins) (tv lv:Value) (hk:a0K X.op=6) (F:PlainF 6 X) (hN:X.N < 18446744073709551616) (c:Nat) (h:Trie VObj) (h34:∀ hh,(∀ b,b < c → hh.get b=h.get b) → ∃ z:List Nat → List Nat, ∀ r w,go (J9 s7 3 34 [H7 X tv lv]) ⟨c + 1,hh,r,w⟩=some (.ret (.bool true),⟨c + 1,hh,z r,w⟩))
 (H:InsAt c h X (H7 X tv lv)) (Ht:P6 c h tv (O9 X.types)) (Hl:P6 c h lv (O9 X.labels)) (r w:List Nat) :
 I6 (go (a0u G8 NN (J9 s7 3) (H7 X tv lv)) ⟨c,h,r,w⟩) fun x s=>x=.ret (.string ⟨⟨a2a X⟩⟩) ∧ ∀ i,i < c → s.h.get i=h.get i:=by
 obtain ⟨a,hA,ha⟩:=O1 F.A
 obtain ⟨b,hB,hb⟩:=O1 F.B
 have ht:a7V X.types=true:=F.rest
 unfold a7V at ht
 split at ht
 · rename_i t e
   exact (d6m NN _ _ _ X tv lv a b hA hB ha hb t e (d7j 2) c h h34 (a2G X hk) Ht Hl r w).mono fun x s ⟨q,q'⟩=>⟨by rw [q,a0I hk (by unfold a2O; rw [e]; rfl)],q'⟩
 · cases ht
theorem d9o (X:Ins) (tv lv:Value) (hk:a0K X.op=3) (F:PlainF 3 X) (hN:X.N < 18446744073709551616) (c:Nat) (h:Trie VObj) (h34:∀ hh,(∀ b,b < c → hh.get b=h.get b) → ∃ z:List Nat → List Nat, ∀ r w,go (J9 s7 3 34 [H7 X tv lv]) ⟨c + 1,hh,r,w⟩=some (.ret (.bool true),⟨c + 1,hh,z r,w⟩))
 (H:InsAt c h X (H7 X tv lv)) (Ht:P6 c h tv (O9 X.types)) (Hl:P6 c h lv (O9 X.labels)) (r w:List Nat) :
 I6 (go (a0u G8 NN (J9 s7 3) (H7 X tv lv)) ⟨c,h,r,w⟩) fun x s=>x=.ret (.string ⟨⟨a2a X⟩⟩) ∧ ∀ i,i < c → s.h.get i=h.get i:=by
 obtain ⟨a,hA,ha⟩:=O1 F.A
 obtain ⟨b,hB,hb⟩:=O1 F.B
 obtain ⟨q1,q2⟩:=b0r (show idxAll X.labels=true from F.rest)
 have hl:=H.l
 exact (d4P NN (by decide) _ _ _ X tv lv a b hA hB ha hb _ q1 q2 (by rw [List.length_map]; exact hl) c h h34 (a2G X hk) Ht Hl r w).mono fun x s ⟨q,q'⟩=>⟨by rw [q,a0I hk (by unfold a2O; rw [hA]; rfl)],q'⟩
theorem c9X (X:Ins) (tv lv:Value) (hk:a0K X.op=17) (F:PlainF 17 X) (hN:X.N < 18446744073709551616) (c:Nat) (h:Trie VObj) (h34:∀ hh,(∀ b,b < c → hh.get b=h.get b) → ∃ z:List Nat → List Nat, ∀ r w,go (J9 s7 3 34 [H7 X tv lv]) ⟨c + 1,hh,r,w⟩=some (.ret (.bool true),⟨c + 1,hh,z r,w⟩))
 (H:InsAt c h X (H7 X tv lv)) (Ht:P6 c h tv (O9 X.types)) (Hl:P6 c h lv (O9 X.labels)) (r w:List Nat) :
 I6 (go (a0u G8 NN (J9 s7 3) (H7 X tv lv)) ⟨c,h,r,w⟩) fun x s=>x=.ret (.string ⟨⟨a2a X⟩⟩) ∧ ∀ i,i < c → s.h.get i=h.get i:=by
 obtain ⟨a,hA,ha⟩:=O1 F.A
 obtain ⟨b,hB,hb⟩:=O1 F.B
 have ha63:X.A ≤ 63:=by simpa using (show decide (X.A ≤ 63)=true from F.rest)
 obtain ⟨al,hal⟩:=c5c hk
 have hN':X.N < 4294967296:=F.N rfl
 have ha':a ≤ 63:=by rw [hA] at ha63; simp only [Int.ofNat_eq_natCast] at ha63; omega
 have e0:q41 [H7 X tv lv]=some (a6F a X.N al):=by
  obtain ⟨ta,te,rfl,_⟩:=Ht
  obtain ⟨la,le,rfl,_⟩:=Hl
  unfold H7
  rw [hA]
  show bcase (decide (a ≤ 63) && (Nat.blt X.N 4294967296 && (a4G a4O X.op).isSome)) _ none=_
  rw [decide_eq_true ha',I5 hN',hal]; rfl
 have lo:M4 (111 :: 102 :: 102 :: 115 :: 101 :: 116 :: 61 :: Lib.decDigits X.N) ≤ 60:=by
  have:=a0h X.N (by omega)
  simp only [r9]; omega
 have la:M4 (97 :: 108 :: 105 :: 103 :: 110 :: 61 :: Lib.decDigits (2 ^ a)) ≤ 60:=by
  have:=a0h (2 ^ a) (a9e a ha')
  simp only [r9]; omega
 cases hz:X.N.beq 0 with
 | true=>
   cases hy:a.beq al with
   | true=>
     have hq:q41 [H7 X tv lv]=some []:=by rw [e0]; unfold a6F; rw [hz,hy]; rfl
     exact (c6R NN _ _ _ X tv lv a b hA hB ha hb [] [] (Nat.zero_le _) (Nat.zero_le _) (b5m 2) hq c h h34 (a2G X hk) Ht Hl r w).mono fun x s ⟨q,q'⟩=>⟨by rw [q,a0I hk (by unfold a2O; rw [hA,hB,hal]; show M6 (M6 (a0V b) (a5p X.N)) (a5t a al)=_; unfold a5p a5t; rw [hz,hy]; simp only [b4d,M7,List.append_nil])],q'⟩
   | false=>
     have hq:q41 [H7 X tv lv]=some [.string ⟨⟨(97 :: 108 :: 105 :: 103 :: 110 :: 61 :: Lib.decDigits (2 ^ a))⟩⟩]:=by rw [e0]; unfold a6F; rw [hz,hy]; rfl
     exact (b9p NN _ _ _ X tv lv a b hA hB ha hb (97 :: 108 :: 105 :: 103 :: 110 :: 61 :: Lib.decDigits (2 ^ a)) [] la (Nat.zero_le _) (b5m 2) hq c h h34 (a2G X hk) Ht Hl r w).mono fun x s ⟨q,q'⟩=>⟨by rw [q,a0I hk (by unfold a2O; rw [hA,hB,hal]; show M6 (M6 (a0V b) (a5p X.N)) (a5t a al)=_; unfold a5p a5t; rw [hz,hy]; simp only [b4d,b3X,M7,List.append_nil])],q'⟩
 | false=>
   cases hy:a.beq al with
   | true=>
     have hq:q41 [H7 X tv lv]=some [.string ⟨⟨(111 :: 102 :: 102 :: 115 :: 101 :: 116 :: 61 :: Lib.decDigits X.N)⟩⟩]:=by rw [e0]; unfold a6F; rw [hz,hy]; rfl
     exact (b9p NN _ _ _ X tv lv a b hA hB ha hb (111 :: 102 :: 102 :: 115 :: 101 :: 116 :: 61 :: Lib.decDigits X.N) [] lo (Nat.zero_le _) (b5m 2) hq c h h34 (a2G X hk) Ht Hl r w).mono fun x s ⟨q,q'⟩=>⟨by rw [q,a0I hk (by unfold a2O; rw [hA,hB,hal]; show M6 (M6 (a0V b) (a5p X.N)) (a5t a al)=_; unfold a5p a5t; rw [hz,hy]; simp only [b4d,b3X,M7,List.append_nil])],q'⟩
   | false=>
     have hq:q41 [H7 X tv lv]=some [.string ⟨⟨(111 :: 102 :: 102 :: 115 :: 101 :: 116 :: 61 :: Lib.decDigits X.N)⟩⟩,.string ⟨⟨(97 :: 108 :: 105 :: 103 :: 110 :: 61 :: Lib.decDigits (2 ^ a))⟩⟩]:=by rw [e0]; unfold a6F; rw [hz,hy]; rfl
     exact (c7u NN _ _ _ X tv lv a b hA hB ha hb (111 :: 102 :: 102 :: 115 :: 101 :: 116 :: 61 :: Lib.decDigits X.N) (97 :: 108 :: 105 :: 103 :: 110 :: 61 :: Lib.decDigits (2 ^ a)) lo la (b5m 2) hq c h h34 (a2G X hk) Ht Hl r w).mono fun x s ⟨q,q'⟩=>⟨by rw [q,a0I hk (by unfold a2O; rw [hA,hB,hal]; show M6 (M6 (a0V b) (a5p X.N)) (a5t a al)=_; unfold a5p a5t; rw [hz,hy]; simp only [b3X,M7,List.append_assoc,List.cons_append])],q'⟩
theorem l12 (X:Ins) (tv lv:Value) (K:Nat) (hK:K ≤ 20) (hk:a0K X.op=K) (F:PlainF K X) (hN:X.N < 18446744073709551616) (c:Nat) (h:Trie VObj) (h34:∀ hh,(∀ b,b < c → hh.get b=h.get b) → ∃ z:List Nat → List Nat, ∀ r w,go (J9 s7 3 34 [H7 X tv lv]) ⟨c + 1,hh,r,w⟩=some (.ret (.bool true),⟨c + 1,hh,z r,w⟩))
 (H:InsAt c h X (H7 X tv lv)) (Ht:P6 c h tv (O9 X.types)) (Hl:P6 c h lv (O9 X.labels)) (r w:List Nat) :
 I6 (go (a0u G8 NN (J9 s7 3) (H7 X tv lv)) ⟨c,h,r,w⟩) fun x s=>x=.ret (.string ⟨⟨a2a X⟩⟩) ∧ ∀ i,i < c → s.h.get i=h.get i:=by
 match K,hk,F with
 | 0,hk,F=>exact d5u X tv lv hk F hN c h h34 H Ht Hl r w
 | 1,hk,F=>exact d4g X tv lv hk F hN c h h34 H Ht Hl r w
 | 2,hk,F=>exact d8R X tv lv hk F hN c h h34 H Ht Hl r w
 | 3,hk,F=>exact d9o X tv lv hk F hN c h h34 H Ht Hl r w
 | 4,hk,F=>exact d8w X tv lv hk F hN c h h34 H Ht Hl r w
 | 5,hk,F=>exact d6A X tv lv hk F hN c h h34 H Ht Hl r w
 | 6,hk,F=>exact d6R X tv lv hk F hN c h h34 H Ht Hl r w
 | 7,hk,F=>exact d9k X tv lv hk F hN c h h34 H Ht Hl r w
 | 8,hk,F=>exact d8X X tv lv hk F hN c h h34 H Ht Hl r w
 | 9,hk,F=>exact d4u X tv lv hk F hN c h h34 H Ht Hl r w
 | 10,hk,F=>exact d0O X tv lv hk F hN c h h34 H Ht Hl r w
 | 11,hk,F=>exact c9s X tv lv hk F hN c h h34 H Ht Hl r w
 | 12,hk,F=>exact c8N X tv lv hk F hN c h h34 H Ht Hl r w
 | 13,hk,F=>exact d1a X tv lv hk F hN c h h34 H Ht Hl r w
 | 14,hk,F=>exact c8E X tv lv hk F hN c h h34 H Ht Hl r w
 | 15,hk,F=>exact c8c X tv lv hk F hN c h h34 H Ht Hl r w
 | 16,hk,F=>exact d0s X tv lv hk F hN c h h34 H Ht Hl r w
 | 17,hk,F=>exact c9X X tv lv hk F hN c h h34 H Ht Hl r w
 | 18,hk,F=>exact c8g X tv lv hk F hN c h h34 H Ht Hl r w
 | 19,hk,F=>exact c9M X tv lv hk F hN c h h34 H Ht Hl r w
 | 20,hk,F=>exact c9c X tv lv hk F hN c h h34 H Ht Hl r w
 | k + 21,hk,F=>omega
theorem d2F:a0f Tryz.prog Q6 (W9 mL) 12 (XI a7i):=b3Q L7 Tryz.func12 (by kernel_rfl) rfl fun X x y c hp H e=>by
 have H0:=H
 obtain ⟨⟨tv,lv,rfl,Ht,Hl⟩,h3,h4⟩:=H0
 unfold a7i at e
 have h34:=fun hh hb=>cI3 (sh:=s7) (f:=34) (q:=fun X=>some (.bool (a4N X))) (by kernel_rfl) H (y:=.bool (a4N X)) rfl hh hb
 cases hpl:a4N X with
 | false=>
   rw [hpl] at e h34
   cases e
   refine ⟨rfl, 4,fun r w=>?_⟩
   rw [a3g (q:=a0u) (N:=NN) (by kernel_rfl) 3]
   exact d9l NN _ X tv lv c hp h34 Ht Hl r w
 | true=>
   rw [hpl] at e h34
   obtain ⟨h1,rfl⟩:=a3d e
   rw [Nat.blt_eq] at h1
   refine ⟨rfl, 4,fun r w=>?_⟩
   rw [a3g (q:=a0u) (N:=NN) (by kernel_rfl) 3]
   have hp2:pK (a0K X.op) X=true:=by
    unfold a4N at hpl
    cases hk:a2V X.op with
    | true=>rw [hk] at hpl; exact hpl
    | false=>rw [hk] at hpl; cases hpl
   exact l12 X tv lv _ (a9F _) rfl (c2H hp2) h1 c hp h34 H Ht Hl r w
end Go.Proofs.YtmomonnlmbljoaaGreatDoor
end
