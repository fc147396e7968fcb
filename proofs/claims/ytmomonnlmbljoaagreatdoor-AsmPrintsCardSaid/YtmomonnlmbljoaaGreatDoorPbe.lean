import Derived.Test.YtmomonnlmbljoaaGreatDoorPbd
section
namespace Go.Proofs.YtmomonnlmbljoaaGreatDoor
open Go.V Go.RowKit Go.Shelf Go.Proofs
set_option maxRecDepth 1000000
set_option maxHeartbeats 2000000
set_option linter.unusedVariables false
attribute [local congr] U8 U7 Y8 Z0 a0i a0h
variable {mL:Int}
theorem d9a (N:Nat) (call:o8) (X:Ins) (tv lv:Value) (a b:Nat) (hA:X.A=.ofNat a) (hB:X.B=.ofNat b) (ha:a<4294967296) (hb:b<4294967296)
 (c:Nat) (h:Trie VObj) (h19:∀ hh,(∀ b,b<c→hh.get b=h.get b)→∃ z:List Nat→List Nat, ∀ r w,go (call 19 [I7 X tv lv]) ⟨c+1,hh,r,w⟩=some (.ret (.bool true),⟨c+1,hh,z r,w⟩))
 (h45:call 45 [.int .i64 X.op]=M.pure (.ret (.string ⟨⟨V4 X.op⟩⟩))) (h46:call 46 [.int .i64 X.op]=M.pure (.ret (.int .i64 (.ofNat 0))))
 (Ht:Q6 c h tv (P6 X.types)) (Hl:Q6 c h lv (P6 X.labels)) (r w:List Nat) :
 H6 (go (a0F H8 N call (I7 X tv lv)) ⟨c,h,r,w⟩) fun x s=>x=.ret (.string ⟨⟨M4 (V4 X.op) []⟩⟩)∧∀ i,i<c→s.h.get i=h.get i:=by
 obtain ⟨z,h19'⟩:=h19 (upd h c (.cells [(.int .i64 X.op, 0),(.int .i64 X.A, 0),(.int .i64 X.B, 0),(.int .u64 (Int.ofNat X.N), 0),(.int .i64 X.k, 0),(.int .i64 X.v, 0),(.int .i64 X.i, 0),(tv, 0),(lv, 0)] 0 false)) (fun b hb=>F6 (by omega))
 have Ht2:=Ht
 have Hl2:=Hl
 obtain ⟨ta,te,rfl,_⟩:=Ht
 obtain ⟨la,le,rfl,_⟩:=Hl
 simp only [I7,hA,hB,List.length_map] at h19'
 have nl:=X9 X.op
 simp (config:={ maxSteps:=10000000 }) (disch:=first | assumption | omega | (simp only [l9,w9,F3,j6,A8,E8,D8,I5,G9,I9,I8,H7,o9,D5,G8,Nat.reduceAdd,D7,E9,Nat.reduceBEq,G5,F9,d9,j5,l6,z8,D9,F7,F5,F4,G6,C8,q9,A9,q8,l8,l7,E5,C9,G7,IntKind.bits,D6,r9,o7] <;> omega) | assumption) only [a0F,a4p,a4j,a4g,a4d,a4r,a4f,a4n,a4u,a4s,a4k,a3f,a3y,a3H,a3z,a3o,a3e,a3g,a3x,a3n,a3h,a3E,a3q,a3t,a3l,a3j,a3B,a3k,a3C,a3F,a3u,a3p,a3G,a3D,a2l,a3A,a2k,a3i,I7,hA,hB,List.length_map,h19',h45,h46,J2,V9,F5,G9,bn,un,U0,V5,U6,J6,I4,K3,J4,P7,P9,J2,X4,Y3,M6,K6,V.e1g,P8,R7,X7,Q7,M7,M8,Q8,K8,M5,H9,I6,K9,M0,O6,J5,J7,G8,Nat.add_zero]
 exact H6.done ⟨by simp only [N9,List.append_nil],fun i hi=>by simp (config:={ maxSteps:=10000000 }) (disch:=first | assumption | omega | (simp only [l9,w9,F3,j6,A8,E8,D8,I5,G9,I9,I8,H7,o9,D5,G8,Nat.reduceAdd,D7,E9,Nat.reduceBEq,G5,F9,d9,j5,l6,z8,D9,F7,F5,F4,G6,C8,q9,A9,q8,l8,l7,E5,C9,G7,IntKind.bits,D6,r9,o7] <;> omega) | assumption) only [F6]⟩
theorem d7F (N:Nat) (call:o8) (X:Ins) (tv lv:Value) (a b:Nat) (hA:X.A=.ofNat a) (hB:X.B=.ofNat b) (ha:a<4294967296) (hb:b<4294967296) (h47:∀ m:Nat,m<18446744073709551616→call 47 [.int .i64 (.ofNat m)]=M.pure (.ret (.string ⟨⟨X8 m⟩⟩)))
 (c:Nat) (h:Trie VObj) (h19:∀ hh,(∀ b,b<c→hh.get b=h.get b)→∃ z:List Nat→List Nat, ∀ r w,go (call 19 [I7 X tv lv]) ⟨c+1,hh,r,w⟩=some (.ret (.bool true),⟨c+1,hh,z r,w⟩))
 (h45:call 45 [.int .i64 X.op]=M.pure (.ret (.string ⟨⟨V4 X.op⟩⟩))) (h46:call 46 [.int .i64 X.op]=M.pure (.ret (.int .i64 (.ofNat 2))))
 (Ht:Q6 c h tv (P6 X.types)) (Hl:Q6 c h lv (P6 X.labels)) (r w:List Nat) :
 H6 (go (a0F H8 N call (I7 X tv lv)) ⟨c,h,r,w⟩) fun x s=>x=.ret (.string ⟨⟨M4 (V4 X.op) (X8 a)⟩⟩)∧∀ i,i<c→s.h.get i=h.get i:=by
 obtain ⟨z,h19'⟩:=h19 (upd h c (.cells [(.int .i64 X.op, 0),(.int .i64 X.A, 0),(.int .i64 X.B, 0),(.int .u64 (Int.ofNat X.N), 0),(.int .i64 X.k, 0),(.int .i64 X.v, 0),(.int .i64 X.i, 0),(tv, 0),(lv, 0)] 0 false)) (fun b hb=>F6 (by omega))
 have Ht2:=Ht
 have Hl2:=Hl
 obtain ⟨ta,te,rfl,_⟩:=Ht
 obtain ⟨la,le,rfl,_⟩:=Hl
 simp only [I7,hA,hB,List.length_map] at h19'
 have nl:=X9 X.op
 have q1:=h47 a (by omega)
 have q2:=a2z a (by omega)
 simp (config:={ maxSteps:=10000000 }) (disch:=first | assumption | omega | (simp only [l9,w9,F3,j6,A8,E8,D8,I5,G9,I9,I8,H7,o9,D5,G8,Nat.reduceAdd,D7,E9,Nat.reduceBEq,G5,F9,d9,j5,l6,z8,D9,F7,F5,F4,G6,C8,q9,A9,q8,l8,l7,E5,C9,G7,IntKind.bits,D6,r9,o7] <;> omega) | assumption) only [a0F,a4p,a4j,a4g,a4d,a4r,a4f,a4n,a4u,a4s,a4k,a3f,a3y,a3H,a3z,a3o,a3e,a3g,a3x,a3n,a3h,a3E,a3q,a3t,a3l,a3j,a3B,a3k,a3C,a3F,a3u,a3p,a3G,a3D,a2l,a3A,a2k,a3i,I7,hA,hB,List.length_map,h19',h45,h46,decide_true,J3,J2,V9,F7,F5,F4,q1,G9,bn,un,U0,V5,U6,J6,I4,K3,J4,P7,P9,J3,J2,X4,Y3,M6,K6,V.e1g,P8,R7,X7,Q7,M7,M8,Q8,K8,M5,H9,I6,K9,M0,O6,S9,J5,J7,G8,Nat.add_zero]
 exact H6.done ⟨by simp only [N9],fun i hi=>by simp (config:={ maxSteps:=10000000 }) (disch:=first | assumption | omega | (simp only [l9,w9,F3,j6,A8,E8,D8,I5,G9,I9,I8,H7,o9,D5,G8,Nat.reduceAdd,D7,E9,Nat.reduceBEq,G5,F9,d9,j5,l6,z8,D9,F7,F5,F4,G6,C8,q9,A9,q8,l8,l7,E5,C9,G7,IntKind.bits,D6,r9,o7] <;> omega) | assumption) only [F6]⟩
theorem d4O (N:Nat) (call:o8) (X:Ins) (tv lv:Value) (a b:Nat) (hA:X.A=.ofNat a) (hB:X.B=.ofNat b) (ha:a<4294967296) (hb:b<4294967296) (h47:∀ m:Nat,m<18446744073709551616→call 47 [.int .i64 (.ofNat m)]=M.pure (.ret (.string ⟨⟨X8 m⟩⟩)))
 (c:Nat) (h:Trie VObj) (h19:∀ hh,(∀ b,b<c→hh.get b=h.get b)→∃ z:List Nat→List Nat, ∀ r w,go (call 19 [I7 X tv lv]) ⟨c+1,hh,r,w⟩=some (.ret (.bool true),⟨c+1,hh,z r,w⟩))
 (h45:call 45 [.int .i64 X.op]=M.pure (.ret (.string ⟨⟨V4 X.op⟩⟩))) (h46:call 46 [.int .i64 X.op]=M.pure (.ret (.int .i64 (.ofNat 4))))
 (Ht:Q6 c h tv (P6 X.types)) (Hl:Q6 c h lv (P6 X.labels)) (r w:List Nat) :
 H6 (go (a0F H8 N call (I7 X tv lv)) ⟨c,h,r,w⟩) fun x s=>x=.ret (.string ⟨⟨M4 (V4 X.op) (X8 a)⟩⟩)∧∀ i,i<c→s.h.get i=h.get i:=by
 obtain ⟨z,h19'⟩:=h19 (upd h c (.cells [(.int .i64 X.op, 0),(.int .i64 X.A, 0),(.int .i64 X.B, 0),(.int .u64 (Int.ofNat X.N), 0),(.int .i64 X.k, 0),(.int .i64 X.v, 0),(.int .i64 X.i, 0),(tv, 0),(lv, 0)] 0 false)) (fun b hb=>F6 (by omega))
 have Ht2:=Ht
 have Hl2:=Hl
 obtain ⟨ta,te,rfl,_⟩:=Ht
 obtain ⟨la,le,rfl,_⟩:=Hl
 simp only [I7,hA,hB,List.length_map] at h19'
 have nl:=X9 X.op
 have q1:=h47 a (by omega)
 have q2:=a2z a (by omega)
 simp (config:={ maxSteps:=10000000 }) (disch:=first | assumption | omega | (simp only [l9,w9,F3,j6,A8,E8,D8,I5,G9,I9,I8,H7,o9,D5,G8,Nat.reduceAdd,D7,E9,Nat.reduceBEq,G5,F9,d9,j5,l6,z8,D9,F7,F5,F4,G6,C8,q9,A9,q8,l8,l7,E5,C9,G7,IntKind.bits,D6,r9,o7] <;> omega) | assumption) only [a0F,a4p,a4j,a4g,a4d,a4r,a4f,a4n,a4u,a4s,a4k,a3f,a3y,a3H,a3z,a3o,a3e,a3g,a3x,a3n,a3h,a3E,a3q,a3t,a3l,a3j,a3B,a3k,a3C,a3F,a3u,a3p,a3G,a3D,a2l,a3A,a2k,a3i,I7,hA,hB,List.length_map,h19',h45,h46,decide_true,J3,J2,V9,F7,F5,F4,q1,G9,bn,un,U0,V5,U6,J6,I4,K3,J4,P7,P9,J3,J2,X4,Y3,M6,K6,V.e1g,P8,R7,X7,Q7,M7,M8,Q8,K8,M5,H9,I6,K9,M0,O6,S9,J5,J7,G8,Nat.add_zero]
 exact H6.done ⟨by simp only [N9],fun i hi=>by simp (config:={ maxSteps:=10000000 }) (disch:=first | assumption | omega | (simp only [l9,w9,F3,j6,A8,E8,D8,I5,G9,I9,I8,H7,o9,D5,G8,Nat.reduceAdd,D7,E9,Nat.reduceBEq,G5,F9,d9,j5,l6,z8,D9,F7,F5,F4,G6,C8,q9,A9,q8,l8,l7,E5,C9,G7,IntKind.bits,D6,r9,o7] <;> omega) | assumption) only [F6]⟩
theorem d7w (N:Nat) (call:o8) (X:Ins) (tv lv:Value) (a b:Nat) (hA:X.A=.ofNat a) (hB:X.B=.ofNat b) (ha:a<4294967296) (hb:b<4294967296) (h47:∀ m:Nat,m<18446744073709551616→call 47 [.int .i64 (.ofNat m)]=M.pure (.ret (.string ⟨⟨X8 m⟩⟩)))
 (c:Nat) (h:Trie VObj) (h19:∀ hh,(∀ b,b<c→hh.get b=h.get b)→∃ z:List Nat→List Nat, ∀ r w,go (call 19 [I7 X tv lv]) ⟨c+1,hh,r,w⟩=some (.ret (.bool true),⟨c+1,hh,z r,w⟩))
 (h45:call 45 [.int .i64 X.op]=M.pure (.ret (.string ⟨⟨V4 X.op⟩⟩))) (h46:call 46 [.int .i64 X.op]=M.pure (.ret (.int .i64 (.ofNat 7))))
 (Ht:Q6 c h tv (P6 X.types)) (Hl:Q6 c h lv (P6 X.labels)) (r w:List Nat) :
 H6 (go (a0F H8 N call (I7 X tv lv)) ⟨c,h,r,w⟩) fun x s=>x=.ret (.string ⟨⟨M4 (V4 X.op) (X8 a)⟩⟩)∧∀ i,i<c→s.h.get i=h.get i:=by
 obtain ⟨z,h19'⟩:=h19 (upd h c (.cells [(.int .i64 X.op, 0),(.int .i64 X.A, 0),(.int .i64 X.B, 0),(.int .u64 (Int.ofNat X.N), 0),(.int .i64 X.k, 0),(.int .i64 X.v, 0),(.int .i64 X.i, 0),(tv, 0),(lv, 0)] 0 false)) (fun b hb=>F6 (by omega))
 have Ht2:=Ht
 have Hl2:=Hl
 obtain ⟨ta,te,rfl,_⟩:=Ht
 obtain ⟨la,le,rfl,_⟩:=Hl
 simp only [I7,hA,hB,List.length_map] at h19'
 have nl:=X9 X.op
 have q1:=h47 a (by omega)
 have q2:=a2z a (by omega)
 simp (config:={ maxSteps:=10000000 }) (disch:=first | assumption | omega | (simp only [l9,w9,F3,j6,A8,E8,D8,I5,G9,I9,I8,H7,o9,D5,G8,Nat.reduceAdd,D7,E9,Nat.reduceBEq,G5,F9,d9,j5,l6,z8,D9,F7,F5,F4,G6,C8,q9,A9,q8,l8,l7,E5,C9,G7,IntKind.bits,D6,r9,o7] <;> omega) | assumption) only [a0F,a4p,a4j,a4g,a4d,a4r,a4f,a4n,a4u,a4s,a4k,a3f,a3y,a3H,a3z,a3o,a3e,a3g,a3x,a3n,a3h,a3E,a3q,a3t,a3l,a3j,a3B,a3k,a3C,a3F,a3u,a3p,a3G,a3D,a2l,a3A,a2k,a3i,I7,hA,hB,List.length_map,h19',h45,h46,decide_true,J3,J2,V9,F7,F5,F4,q1,G9,bn,un,U0,V5,U6,J6,I4,K3,J4,P7,P9,J3,J2,X4,Y3,M6,K6,V.e1g,P8,R7,X7,Q7,M7,M8,Q8,K8,M5,H9,I6,K9,M0,O6,S9,J5,J7,G8,Nat.add_zero]
 exact H6.done ⟨by simp only [N9],fun i hi=>by simp (config:={ maxSteps:=10000000 }) (disch:=first | assumption | omega | (simp only [l9,w9,F3,j6,A8,E8,D8,I5,G9,I9,I8,H7,o9,D5,G8,Nat.reduceAdd,D7,E9,Nat.reduceBEq,G5,F9,d9,j5,l6,z8,D9,F7,F5,F4,G6,C8,q9,A9,q8,l8,l7,E5,C9,G7,IntKind.bits,D6,r9,o7] <;> omega) | assumption) only [F6]⟩
theorem d5T (N:Nat) (call:o8) (X:Ins) (tv lv:Value) (a b:Nat) (hA:X.A=.ofNat a) (hB:X.B=.ofNat b) (ha:a<4294967296) (hb:b<4294967296) (h47:∀ m:Nat,m<18446744073709551616→call 47 [.int .i64 (.ofNat m)]=M.pure (.ret (.string ⟨⟨X8 m⟩⟩)))
 (c:Nat) (h:Trie VObj) (h19:∀ hh,(∀ b,b<c→hh.get b=h.get b)→∃ z:List Nat→List Nat, ∀ r w,go (call 19 [I7 X tv lv]) ⟨c+1,hh,r,w⟩=some (.ret (.bool true),⟨c+1,hh,z r,w⟩))
 (h45:call 45 [.int .i64 X.op]=M.pure (.ret (.string ⟨⟨V4 X.op⟩⟩))) (h46:call 46 [.int .i64 X.op]=M.pure (.ret (.int .i64 (.ofNat 8))))
 (Ht:Q6 c h tv (P6 X.types)) (Hl:Q6 c h lv (P6 X.labels)) (r w:List Nat) :
 H6 (go (a0F H8 N call (I7 X tv lv)) ⟨c,h,r,w⟩) fun x s=>x=.ret (.string ⟨⟨M4 (V4 X.op) (X8 a)⟩⟩)∧∀ i,i<c→s.h.get i=h.get i:=by
 obtain ⟨z,h19'⟩:=h19 (upd h c (.cells [(.int .i64 X.op, 0),(.int .i64 X.A, 0),(.int .i64 X.B, 0),(.int .u64 (Int.ofNat X.N), 0),(.int .i64 X.k, 0),(.int .i64 X.v, 0),(.int .i64 X.i, 0),(tv, 0),(lv, 0)] 0 false)) (fun b hb=>F6 (by omega))
 have Ht2:=Ht
 have Hl2:=Hl
 obtain ⟨ta,te,rfl,_⟩:=Ht
 obtain ⟨la,le,rfl,_⟩:=Hl
 simp only [I7,hA,hB,List.length_map] at h19'
 have nl:=X9 X.op
 have q1:=h47 a (by omega)
 have q2:=a2z a (by omega)
 simp (config:={ maxSteps:=10000000 }) (disch:=first | assumption | omega | (simp only [l9,w9,F3,j6,A8,E8,D8,I5,G9,I9,I8,H7,o9,D5,G8,Nat.reduceAdd,D7,E9,Nat.reduceBEq,G5,F9,d9,j5,l6,z8,D9,F7,F5,F4,G6,C8,q9,A9,q8,l8,l7,E5,C9,G7,IntKind.bits,D6,r9,o7] <;> omega) | assumption) only [a0F,a4p,a4j,a4g,a4d,a4r,a4f,a4n,a4u,a4s,a4k,a3f,a3y,a3H,a3z,a3o,a3e,a3g,a3x,a3n,a3h,a3E,a3q,a3t,a3l,a3j,a3B,a3k,a3C,a3F,a3u,a3p,a3G,a3D,a2l,a3A,a2k,a3i,I7,hA,hB,List.length_map,h19',h45,h46,decide_true,J3,J2,V9,F7,F5,F4,q1,G9,bn,un,U0,V5,U6,J6,I4,K3,J4,P7,P9,J3,J2,X4,Y3,M6,K6,V.e1g,P8,R7,X7,Q7,M7,M8,Q8,K8,M5,H9,I6,K9,M0,O6,S9,J5,J7,G8,Nat.add_zero]
 exact H6.done ⟨by simp only [N9],fun i hi=>by simp (config:={ maxSteps:=10000000 }) (disch:=first | assumption | omega | (simp only [l9,w9,F3,j6,A8,E8,D8,I5,G9,I9,I8,H7,o9,D5,G8,Nat.reduceAdd,D7,E9,Nat.reduceBEq,G5,F9,d9,j5,l6,z8,D9,F7,F5,F4,G6,C8,q9,A9,q8,l8,l7,E5,C9,G7,IntKind.bits,D6,r9,o7] <;> omega) | assumption) only [F6]⟩
theorem d2m (N:Nat) (call:o8) (X:Ins) (tv lv:Value) (a b:Nat) (hA:X.A=.ofNat a) (hB:X.B=.ofNat b) (ha:a<4294967296) (hb:b<4294967296) (h47:∀ m:Nat,m<18446744073709551616→call 47 [.int .i64 (.ofNat m)]=M.pure (.ret (.string ⟨⟨X8 m⟩⟩)))
 (c:Nat) (h:Trie VObj) (h19:∀ hh,(∀ b,b<c→hh.get b=h.get b)→∃ z:List Nat→List Nat, ∀ r w,go (call 19 [I7 X tv lv]) ⟨c+1,hh,r,w⟩=some (.ret (.bool true),⟨c+1,hh,z r,w⟩))
 (h45:call 45 [.int .i64 X.op]=M.pure (.ret (.string ⟨⟨V4 X.op⟩⟩))) (h46:call 46 [.int .i64 X.op]=M.pure (.ret (.int .i64 (.ofNat 12))))
 (Ht:Q6 c h tv (P6 X.types)) (Hl:Q6 c h lv (P6 X.labels)) (r w:List Nat) :
 H6 (go (a0F H8 N call (I7 X tv lv)) ⟨c,h,r,w⟩) fun x s=>x=.ret (.string ⟨⟨M4 (V4 X.op) (X8 a)⟩⟩)∧∀ i,i<c→s.h.get i=h.get i:=by
 obtain ⟨z,h19'⟩:=h19 (upd h c (.cells [(.int .i64 X.op, 0),(.int .i64 X.A, 0),(.int .i64 X.B, 0),(.int .u64 (Int.ofNat X.N), 0),(.int .i64 X.k, 0),(.int .i64 X.v, 0),(.int .i64 X.i, 0),(tv, 0),(lv, 0)] 0 false)) (fun b hb=>F6 (by omega))
 have Ht2:=Ht
 have Hl2:=Hl
 obtain ⟨ta,te,rfl,_⟩:=Ht
 obtain ⟨la,le,rfl,_⟩:=Hl
 simp only [I7,hA,hB,List.length_map] at h19'
 have nl:=X9 X.op
 have q1:=h47 a (by omega)
 have q2:=a2z a (by omega)
 simp (config:={ maxSteps:=10000000 }) (disch:=first | assumption | omega | (simp only [l9,w9,F3,j6,A8,E8,D8,I5,G9,I9,I8,H7,o9,D5,G8,Nat.reduceAdd,D7,E9,Nat.reduceBEq,G5,F9,d9,j5,l6,z8,D9,F7,F5,F4,G6,C8,q9,A9,q8,l8,l7,E5,C9,G7,IntKind.bits,D6,r9,o7] <;> omega) | assumption) only [a0F,a4p,a4j,a4g,a4d,a4r,a4f,a4n,a4u,a4s,a4k,a3f,a3y,a3H,a3z,a3o,a3e,a3g,a3x,a3n,a3h,a3E,a3q,a3t,a3l,a3j,a3B,a3k,a3C,a3F,a3u,a3p,a3G,a3D,a2l,a3A,a2k,a3i,I7,hA,hB,List.length_map,h19',h45,h46,decide_true,J3,J2,V9,F7,F5,F4,q1,G9,bn,un,U0,V5,U6,J6,I4,K3,J4,P7,P9,J3,J2,X4,Y3,M6,K6,V.e1g,P8,R7,X7,Q7,M7,M8,Q8,K8,M5,H9,I6,K9,M0,O6,S9,J5,J7,G8,Nat.add_zero]
 exact H6.done ⟨by simp only [N9],fun i hi=>by simp (config:={ maxSteps:=10000000 }) (disch:=first | assumption | omega | (simp only [l9,w9,F3,j6,A8,E8,D8,I5,G9,I9,I8,H7,o9,D5,G8,Nat.reduceAdd,D7,E9,Nat.reduceBEq,G5,F9,d9,j5,l6,z8,D9,F7,F5,F4,G6,C8,q9,A9,q8,l8,l7,E5,C9,G7,IntKind.bits,D6,r9,o7] <;> omega) | assumption) only [F6]⟩
theorem d0e (N:Nat) (call:o8) (X:Ins) (tv lv:Value) (a b:Nat) (hA:X.A=.ofNat a) (hB:X.B=.ofNat b) (ha:a<4294967296) (hb:b<4294967296) (h47:∀ m:Nat,m<18446744073709551616→call 47 [.int .i64 (.ofNat m)]=M.pure (.ret (.string ⟨⟨X8 m⟩⟩)))
 (c:Nat) (h:Trie VObj) (h19:∀ hh,(∀ b,b<c→hh.get b=h.get b)→∃ z:List Nat→List Nat, ∀ r w,go (call 19 [I7 X tv lv]) ⟨c+1,hh,r,w⟩=some (.ret (.bool true),⟨c+1,hh,z r,w⟩))
 (h45:call 45 [.int .i64 X.op]=M.pure (.ret (.string ⟨⟨V4 X.op⟩⟩))) (h46:call 46 [.int .i64 X.op]=M.pure (.ret (.int .i64 (.ofNat 16))))
 (Ht:Q6 c h tv (P6 X.types)) (Hl:Q6 c h lv (P6 X.labels)) (r w:List Nat) :
 H6 (go (a0F H8 N call (I7 X tv lv)) ⟨c,h,r,w⟩) fun x s=>x=.ret (.string ⟨⟨M4 (V4 X.op) (X8 a)⟩⟩)∧∀ i,i<c→s.h.get i=h.get i:=by
 obtain ⟨z,h19'⟩:=h19 (upd h c (.cells [(.int .i64 X.op, 0),(.int .i64 X.A, 0),(.int .i64 X.B, 0),(.int .u64 (Int.ofNat X.N), 0),(.int .i64 X.k, 0),(.int .i64 X.v, 0),(.int .i64 X.i, 0),(tv, 0),(lv, 0)] 0 false)) (fun b hb=>F6 (by omega))
 have Ht2:=Ht
 have Hl2:=Hl
 obtain ⟨ta,te,rfl,_⟩:=Ht
 obtain ⟨la,le,rfl,_⟩:=Hl
 simp only [I7,hA,hB,List.length_map] at h19'
 have nl:=X9 X.op
 have q1:=h47 a (by omega)
 have q2:=a2z a (by omega)
 simp (config:={ maxSteps:=10000000 }) (disch:=first | assumption | omega | (simp only [l9,w9,F3,j6,A8,E8,D8,I5,G9,I9,I8,H7,o9,D5,G8,Nat.reduceAdd,D7,E9,Nat.reduceBEq,G5,F9,d9,j5,l6,z8,D9,F7,F5,F4,G6,C8,q9,A9,q8,l8,l7,E5,C9,G7,IntKind.bits,D6,r9,o7] <;> omega) | assumption) only [a0F,a4p,a4j,a4g,a4d,a4r,a4f,a4n,a4u,a4s,a4k,a3f,a3y,a3H,a3z,a3o,a3e,a3g,a3x,a3n,a3h,a3E,a3q,a3t,a3l,a3j,a3B,a3k,a3C,a3F,a3u,a3p,a3G,a3D,a2l,a3A,a2k,a3i,I7,hA,hB,List.length_map,h19',h45,h46,decide_true,J3,J2,V9,F7,F5,F4,q1,G9,bn,un,U0,V5,U6,J6,I4,K3,J4,P7,P9,J3,J2,X4,Y3,M6,K6,V.e1g,P8,R7,X7,Q7,M7,M8,Q8,K8,M5,H9,I6,K9,M0,O6,S9,J5,J7,G8,Nat.add_zero]
 exact H6.done ⟨by simp only [N9],fun i hi=>by simp (config:={ maxSteps:=10000000 }) (disch:=first | assumption | omega | (simp only [l9,w9,F3,j6,A8,E8,D8,I5,G9,I9,I8,H7,o9,D5,G8,Nat.reduceAdd,D7,E9,Nat.reduceBEq,G5,F9,d9,j5,l6,z8,D9,F7,F5,F4,G6,C8,q9,A9,q8,l8,l7,E5,C9,G7,IntKind.bits,D6,r9,o7] <;> omega) | assumption) only [F6]⟩
theorem d3B (N:Nat) (call:o8) (X:Ins) (tv lv:Value) (a b:Nat) (hA:X.A=.ofNat a) (hB:X.B=.ofNat b) (ha:a<4294967296) (hb:b<4294967296) (h49:∀ m:Nat,m<18446744073709551616→call 49 [.int .i64 (.ofNat m)]=M.pure (.ret (.string ⟨⟨a0C m⟩⟩)))
 (c:Nat) (h:Trie VObj) (h19:∀ hh,(∀ b,b<c→hh.get b=h.get b)→∃ z:List Nat→List Nat, ∀ r w,go (call 19 [I7 X tv lv]) ⟨c+1,hh,r,w⟩=some (.ret (.bool true),⟨c+1,hh,z r,w⟩))
 (h45:call 45 [.int .i64 X.op]=M.pure (.ret (.string ⟨⟨V4 X.op⟩⟩))) (h46:call 46 [.int .i64 X.op]=M.pure (.ret (.int .i64 (.ofNat 9))))
 (Ht:Q6 c h tv (P6 X.types)) (Hl:Q6 c h lv (P6 X.labels)) (r w:List Nat) :
 H6 (go (a0F H8 N call (I7 X tv lv)) ⟨c,h,r,w⟩) fun x s=>x=.ret (.string ⟨⟨M4 (V4 X.op) (a0C a)⟩⟩)∧∀ i,i<c→s.h.get i=h.get i:=by
 obtain ⟨z,h19'⟩:=h19 (upd h c (.cells [(.int .i64 X.op, 0),(.int .i64 X.A, 0),(.int .i64 X.B, 0),(.int .u64 (Int.ofNat X.N), 0),(.int .i64 X.k, 0),(.int .i64 X.v, 0),(.int .i64 X.i, 0),(tv, 0),(lv, 0)] 0 false)) (fun b hb=>F6 (by omega))
 have Ht2:=Ht
 have Hl2:=Hl
 obtain ⟨ta,te,rfl,_⟩:=Ht
 obtain ⟨la,le,rfl,_⟩:=Hl
 simp only [I7,hA,hB,List.length_map] at h19'
 have nl:=X9 X.op
 have q1:=h49 a (by omega)
 have q2:=a5D a (by omega)
 simp (config:={ maxSteps:=10000000 }) (disch:=first | assumption | omega | (simp only [l9,w9,F3,j6,A8,E8,D8,I5,G9,I9,I8,H7,o9,D5,G8,Nat.reduceAdd,D7,E9,Nat.reduceBEq,G5,F9,d9,j5,l6,z8,D9,F7,F5,F4,G6,C8,q9,A9,q8,l8,l7,E5,C9,G7,IntKind.bits,D6,r9,o7] <;> omega) | assumption) only [a0F,a4p,a4j,a4g,a4d,a4r,a4f,a4n,a4u,a4s,a4k,a3f,a3y,a3H,a3z,a3o,a3e,a3g,a3x,a3n,a3h,a3E,a3q,a3t,a3l,a3j,a3B,a3k,a3C,a3F,a3u,a3p,a3G,a3D,a2l,a3A,a2k,a3i,I7,hA,hB,List.length_map,h19',h45,h46,decide_true,J3,J2,V9,F7,F5,F4,q1,G9,bn,un,U0,V5,U6,J6,I4,K3,J4,P7,P9,J3,J2,X4,Y3,M6,K6,V.e1g,P8,R7,X7,Q7,M7,M8,Q8,K8,M5,H9,I6,K9,M0,O6,S9,J5,J7,G8,Nat.add_zero]
 exact H6.done ⟨by simp only [N9],fun i hi=>by simp (config:={ maxSteps:=10000000 }) (disch:=first | assumption | omega | (simp only [l9,w9,F3,j6,A8,E8,D8,I5,G9,I9,I8,H7,o9,D5,G8,Nat.reduceAdd,D7,E9,Nat.reduceBEq,G5,F9,d9,j5,l6,z8,D9,F7,F5,F4,G6,C8,q9,A9,q8,l8,l7,E5,C9,G7,IntKind.bits,D6,r9,o7] <;> omega) | assumption) only [F6]⟩
theorem d0Y (N:Nat) (call:o8) (X:Ins) (tv lv:Value) (a b:Nat) (hA:X.A=.ofNat a) (hB:X.B=.ofNat b) (ha:a<4294967296) (hb:b<4294967296) (h49:∀ m:Nat,m<18446744073709551616→call 49 [.int .i64 (.ofNat m)]=M.pure (.ret (.string ⟨⟨a0C m⟩⟩)))
 (c:Nat) (h:Trie VObj) (h19:∀ hh,(∀ b,b<c→hh.get b=h.get b)→∃ z:List Nat→List Nat, ∀ r w,go (call 19 [I7 X tv lv]) ⟨c+1,hh,r,w⟩=some (.ret (.bool true),⟨c+1,hh,z r,w⟩))
 (h45:call 45 [.int .i64 X.op]=M.pure (.ret (.string ⟨⟨V4 X.op⟩⟩))) (h46:call 46 [.int .i64 X.op]=M.pure (.ret (.int .i64 (.ofNat 13))))
 (Ht:Q6 c h tv (P6 X.types)) (Hl:Q6 c h lv (P6 X.labels)) (r w:List Nat) :
 H6 (go (a0F H8 N call (I7 X tv lv)) ⟨c,h,r,w⟩) fun x s=>x=.ret (.string ⟨⟨M4 (V4 X.op) (a0C b)⟩⟩)∧∀ i,i<c→s.h.get i=h.get i:=by
 obtain ⟨z,h19'⟩:=h19 (upd h c (.cells [(.int .i64 X.op, 0),(.int .i64 X.A, 0),(.int .i64 X.B, 0),(.int .u64 (Int.ofNat X.N), 0),(.int .i64 X.k, 0),(.int .i64 X.v, 0),(.int .i64 X.i, 0),(tv, 0),(lv, 0)] 0 false)) (fun b hb=>F6 (by omega))
 have Ht2:=Ht
 have Hl2:=Hl
 obtain ⟨ta,te,rfl,_⟩:=Ht
 obtain ⟨la,le,rfl,_⟩:=Hl
 simp only [I7,hA,hB,List.length_map] at h19'
 have nl:=X9 X.op
 have q1:=h49 b (by omega)
 have q2:=a5D b (by omega)
 simp (config:={ maxSteps:=10000000 }) (disch:=first | assumption | omega | (simp only [l9,w9,F3,j6,A8,E8,D8,I5,G9,I9,I8,H7,o9,D5,G8,Nat.reduceAdd,D7,E9,Nat.reduceBEq,G5,F9,d9,j5,l6,z8,D9,F7,F5,F4,G6,C8,q9,A9,q8,l8,l7,E5,C9,G7,IntKind.bits,D6,r9,o7] <;> omega) | assumption) only [a0F,a4p,a4j,a4g,a4d,a4r,a4f,a4n,a4u,a4s,a4k,a3f,a3y,a3H,a3z,a3o,a3e,a3g,a3x,a3n,a3h,a3E,a3q,a3t,a3l,a3j,a3B,a3k,a3C,a3F,a3u,a3p,a3G,a3D,a2l,a3A,a2k,a3i,I7,hA,hB,List.length_map,h19',h45,h46,decide_true,J3,J2,V9,F7,F5,F4,q1,G9,bn,un,U0,V5,U6,J6,I4,K3,J4,P7,P9,J3,J2,X4,Y3,M6,K6,V.e1g,P8,R7,X7,Q7,M7,M8,Q8,K8,M5,H9,I6,K9,M0,O6,S9,J5,J7,G8,Nat.add_zero]
 exact H6.done ⟨by simp only [N9],fun i hi=>by simp (config:={ maxSteps:=10000000 }) (disch:=first | assumption | omega | (simp only [l9,w9,F3,j6,A8,E8,D8,I5,G9,I9,I8,H7,o9,D5,G8,Nat.reduceAdd,D7,E9,Nat.reduceBEq,G5,F9,d9,j5,l6,z8,D9,F7,F5,F4,G6,C8,q9,A9,q8,l8,l7,E5,C9,G7,IntKind.bits,D6,r9,o7] <;> omega) | assumption) only [F6]⟩
theorem d0Q (N:Nat) (call:o8) (X:Ins) (tv lv:Value) (a b:Nat) (hA:X.A=.ofNat a) (hB:X.B=.ofNat b) (ha:a<4294967296) (hb:b<4294967296) (h51:∀ m n:Nat,m<18446744073709551616→n<18446744073709551616→call 51 [.int .i64 (.ofNat m),.int .i64 (.ofNat n)]=M.pure (.ret (.string ⟨⟨a4A m n⟩⟩)))
 (c:Nat) (h:Trie VObj) (h19:∀ hh,(∀ b,b<c→hh.get b=h.get b)→∃ z:List Nat→List Nat, ∀ r w,go (call 19 [I7 X tv lv]) ⟨c+1,hh,r,w⟩=some (.ret (.bool true),⟨c+1,hh,z r,w⟩))
 (h45:call 45 [.int .i64 X.op]=M.pure (.ret (.string ⟨⟨V4 X.op⟩⟩))) (h46:call 46 [.int .i64 X.op]=M.pure (.ret (.int .i64 (.ofNat 10))))
 (Ht:Q6 c h tv (P6 X.types)) (Hl:Q6 c h lv (P6 X.labels)) (r w:List Nat) :
 H6 (go (a0F H8 N call (I7 X tv lv)) ⟨c,h,r,w⟩) fun x s=>x=.ret (.string ⟨⟨M4 (V4 X.op) (a4A a b)⟩⟩)∧∀ i,i<c→s.h.get i=h.get i:=by
 obtain ⟨z,h19'⟩:=h19 (upd h c (.cells [(.int .i64 X.op, 0),(.int .i64 X.A, 0),(.int .i64 X.B, 0),(.int .u64 (Int.ofNat X.N), 0),(.int .i64 X.k, 0),(.int .i64 X.v, 0),(.int .i64 X.i, 0),(tv, 0),(lv, 0)] 0 false)) (fun b hb=>F6 (by omega))
 have Ht2:=Ht
 have Hl2:=Hl
 obtain ⟨ta,te,rfl,_⟩:=Ht
 obtain ⟨la,le,rfl,_⟩:=Hl
 simp only [I7,hA,hB,List.length_map] at h19'
 have nl:=X9 X.op
 have q1:=h51 a b (by omega) (by omega)
 have q2:=b1t a b (by omega) (by omega)
 simp (config:={ maxSteps:=10000000 }) (disch:=first | assumption | omega | (simp only [l9,w9,F3,j6,A8,E8,D8,I5,G9,I9,I8,H7,o9,D5,G8,Nat.reduceAdd,D7,E9,Nat.reduceBEq,G5,F9,d9,j5,l6,z8,D9,F7,F5,F4,G6,C8,q9,A9,q8,l8,l7,E5,C9,G7,IntKind.bits,D6,r9,o7] <;> omega) | assumption) only [a0F,a4p,a4j,a4g,a4d,a4r,a4f,a4n,a4u,a4s,a4k,a3f,a3y,a3H,a3z,a3o,a3e,a3g,a3x,a3n,a3h,a3E,a3q,a3t,a3l,a3j,a3B,a3k,a3C,a3F,a3u,a3p,a3G,a3D,a2l,a3A,a2k,a3i,I7,hA,hB,List.length_map,h19',h45,h46,decide_true,J3,J2,V9,F7,F5,F4,q1,G9,bn,un,U0,V5,U6,J6,I4,K3,J4,P7,P9,J3,J2,X4,Y3,M6,K6,V.e1g,P8,R7,X7,Q7,M7,M8,Q8,K8,M5,H9,I6,K9,M0,O6,S9,J5,J7,G8,Nat.add_zero]
 exact H6.done ⟨by simp only [N9],fun i hi=>by simp (config:={ maxSteps:=10000000 }) (disch:=first | assumption | omega | (simp only [l9,w9,F3,j6,A8,E8,D8,I5,G9,I9,I8,H7,o9,D5,G8,Nat.reduceAdd,D7,E9,Nat.reduceBEq,G5,F9,d9,j5,l6,z8,D9,F7,F5,F4,G6,C8,q9,A9,q8,l8,l7,E5,C9,G7,IntKind.bits,D6,r9,o7] <;> omega) | assumption) only [F6]⟩
theorem d0F (N:Nat) (call:o8) (X:Ins) (tv lv:Value) (a b:Nat) (hA:X.A=.ofNat a) (hB:X.B=.ofNat b) (ha:a<4294967296) (hb:b<4294967296) (h51:∀ m n:Nat,m<18446744073709551616→n<18446744073709551616→call 51 [.int .i64 (.ofNat m),.int .i64 (.ofNat n)]=M.pure (.ret (.string ⟨⟨a4A m n⟩⟩)))
 (c:Nat) (h:Trie VObj) (h19:∀ hh,(∀ b,b<c→hh.get b=h.get b)→∃ z:List Nat→List Nat, ∀ r w,go (call 19 [I7 X tv lv]) ⟨c+1,hh,r,w⟩=some (.ret (.bool true),⟨c+1,hh,z r,w⟩))
 (h45:call 45 [.int .i64 X.op]=M.pure (.ret (.string ⟨⟨V4 X.op⟩⟩))) (h46:call 46 [.int .i64 X.op]=M.pure (.ret (.int .i64 (.ofNat 14))))
 (Ht:Q6 c h tv (P6 X.types)) (Hl:Q6 c h lv (P6 X.labels)) (r w:List Nat) :
 H6 (go (a0F H8 N call (I7 X tv lv)) ⟨c,h,r,w⟩) fun x s=>x=.ret (.string ⟨⟨M4 (V4 X.op) (a4A a b)⟩⟩)∧∀ i,i<c→s.h.get i=h.get i:=by
 obtain ⟨z,h19'⟩:=h19 (upd h c (.cells [(.int .i64 X.op, 0),(.int .i64 X.A, 0),(.int .i64 X.B, 0),(.int .u64 (Int.ofNat X.N), 0),(.int .i64 X.k, 0),(.int .i64 X.v, 0),(.int .i64 X.i, 0),(tv, 0),(lv, 0)] 0 false)) (fun b hb=>F6 (by omega))
 have Ht2:=Ht
 have Hl2:=Hl
 obtain ⟨ta,te,rfl,_⟩:=Ht
 obtain ⟨la,le,rfl,_⟩:=Hl
 simp only [I7,hA,hB,List.length_map] at h19'
 have nl:=X9 X.op
 have q1:=h51 a b (by omega) (by omega)
 have q2:=b1t a b (by omega) (by omega)
 simp (config:={ maxSteps:=10000000 }) (disch:=first | assumption | omega | (simp only [l9,w9,F3,j6,A8,E8,D8,I5,G9,I9,I8,H7,o9,D5,G8,Nat.reduceAdd,D7,E9,Nat.reduceBEq,G5,F9,d9,j5,l6,z8,D9,F7,F5,F4,G6,C8,q9,A9,q8,l8,l7,E5,C9,G7,IntKind.bits,D6,r9,o7] <;> omega) | assumption) only [a0F,a4p,a4j,a4g,a4d,a4r,a4f,a4n,a4u,a4s,a4k,a3f,a3y,a3H,a3z,a3o,a3e,a3g,a3x,a3n,a3h,a3E,a3q,a3t,a3l,a3j,a3B,a3k,a3C,a3F,a3u,a3p,a3G,a3D,a2l,a3A,a2k,a3i,I7,hA,hB,List.length_map,h19',h45,h46,decide_true,J3,J2,V9,F7,F5,F4,q1,G9,bn,un,U0,V5,U6,J6,I4,K3,J4,P7,P9,J3,J2,X4,Y3,M6,K6,V.e1g,P8,R7,X7,Q7,M7,M8,Q8,K8,M5,H9,I6,K9,M0,O6,S9,J5,J7,G8,Nat.add_zero]
 exact H6.done ⟨by simp only [N9],fun i hi=>by simp (config:={ maxSteps:=10000000 }) (disch:=first | assumption | omega | (simp only [l9,w9,F3,j6,A8,E8,D8,I5,G9,I9,I8,H7,o9,D5,G8,Nat.reduceAdd,D7,E9,Nat.reduceBEq,G5,F9,d9,j5,l6,z8,D9,F7,F5,F4,G6,C8,q9,A9,q8,l8,l7,E5,C9,G7,IntKind.bits,D6,r9,o7] <;> omega) | assumption) only [F6]⟩
theorem d0n (N:Nat) (call:o8) (X:Ins) (tv lv:Value) (a b:Nat) (hA:X.A=.ofNat a) (hB:X.B=.ofNat b) (ha:a<4294967296) (hb:b<4294967296) (h47:∀ m:Nat,m<18446744073709551616→call 47 [.int .i64 (.ofNat m)]=M.pure (.ret (.string ⟨⟨X8 m⟩⟩))) (h49:∀ m:Nat,m<18446744073709551616→call 49 [.int .i64 (.ofNat m)]=M.pure (.ret (.string ⟨⟨a0C m⟩⟩)))
 (c:Nat) (h:Trie VObj) (h19:∀ hh,(∀ b,b<c→hh.get b=h.get b)→∃ z:List Nat→List Nat, ∀ r w,go (call 19 [I7 X tv lv]) ⟨c+1,hh,r,w⟩=some (.ret (.bool true),⟨c+1,hh,z r,w⟩))
 (h45:call 45 [.int .i64 X.op]=M.pure (.ret (.string ⟨⟨V4 X.op⟩⟩))) (h46:call 46 [.int .i64 X.op]=M.pure (.ret (.int .i64 (.ofNat 11))))
 (Ht:Q6 c h tv (P6 X.types)) (Hl:Q6 c h lv (P6 X.labels)) (r w:List Nat) :
 H6 (go (a0F H8 N call (I7 X tv lv)) ⟨c,h,r,w⟩) fun x s=>x=.ret (.string ⟨⟨M4 (V4 X.op) (M4 (a0C b) (X8 a))⟩⟩)∧∀ i,i<c→s.h.get i=h.get i:=by
 obtain ⟨z,h19'⟩:=h19 (upd h c (.cells [(.int .i64 X.op, 0),(.int .i64 X.A, 0),(.int .i64 X.B, 0),(.int .u64 (Int.ofNat X.N), 0),(.int .i64 X.k, 0),(.int .i64 X.v, 0),(.int .i64 X.i, 0),(tv, 0),(lv, 0)] 0 false)) (fun b hb=>F6 (by omega))
 have Ht2:=Ht
 have Hl2:=Hl
 obtain ⟨ta,te,rfl,_⟩:=Ht
 obtain ⟨la,le,rfl,_⟩:=Hl
 simp only [I7,hA,hB,List.length_map] at h19'
 have nl:=X9 X.op
 have q1:=h47 a (by omega)
 have q2:=a2z a (by omega)
 have q3:=h49 b (by omega)
 have q4:=a5D b (by omega)
 simp (config:={ maxSteps:=10000000 }) (disch:=first | assumption | omega | (simp only [l9,w9,F3,j6,A8,E8,D8,I5,G9,I9,I8,H7,o9,D5,G8,Nat.reduceAdd,D7,E9,Nat.reduceBEq,G5,F9,d9,j5,l6,z8,D9,F7,F5,F4,G6,C8,q9,A9,q8,l8,l7,E5,C9,G7,IntKind.bits,D6,r9,o7] <;> omega) | assumption) only [a0F,a4p,a4j,a4g,a4d,a4r,a4f,a4n,a4u,a4s,a4k,a3f,a3y,a3H,a3z,a3o,a3e,a3g,a3x,a3n,a3h,a3E,a3q,a3t,a3l,a3j,a3B,a3k,a3C,a3F,a3u,a3p,a3G,a3D,a2l,a3A,a2k,a3i,b5i,I7,hA,hB,List.length_map,h19',h45,h46,decide_true,J3,J2,V9,F7,F5,F4,q1,q3,G9,bn,un,U0,V5,U6,J6,I4,K3,J4,P7,P9,r9,o7,J3,J2,X4,Y3,M6,K6,V.e1g,R5,P8,R7,X7,Q7,M7,M8,Q8,K8,M5,H9,I6,K9,M0,O6,S9,J5,J7,G8,Nat.add_zero,a0q,V7]
 exact H6.done ⟨by simp only [N9,List.append_assoc],fun i hi=>by simp (config:={ maxSteps:=10000000 }) (disch:=first | assumption | omega | (simp only [l9,w9,F3,j6,A8,E8,D8,I5,G9,I9,I8,H7,o9,D5,G8,Nat.reduceAdd,D7,E9,Nat.reduceBEq,G5,F9,d9,j5,l6,z8,D9,F7,F5,F4,G6,C8,q9,A9,q8,l8,l7,E5,C9,G7,IntKind.bits,D6,r9,o7] <;> omega) | assumption) only [F6]⟩
theorem d1J (N:Nat) (call:o8) (X:Ins) (tv lv:Value) (a b:Nat) (hA:X.A=.ofNat a) (hB:X.B=.ofNat b) (ha:a<4294967296) (hb:b<4294967296) (h47:∀ m:Nat,m<18446744073709551616→call 47 [.int .i64 (.ofNat m)]=M.pure (.ret (.string ⟨⟨X8 m⟩⟩))) (h49:∀ m:Nat,m<18446744073709551616→call 49 [.int .i64 (.ofNat m)]=M.pure (.ret (.string ⟨⟨a0C m⟩⟩)))
 (c:Nat) (h:Trie VObj) (h19:∀ hh,(∀ b,b<c→hh.get b=h.get b)→∃ z:List Nat→List Nat, ∀ r w,go (call 19 [I7 X tv lv]) ⟨c+1,hh,r,w⟩=some (.ret (.bool true),⟨c+1,hh,z r,w⟩))
 (h45:call 45 [.int .i64 X.op]=M.pure (.ret (.string ⟨⟨V4 X.op⟩⟩))) (h46:call 46 [.int .i64 X.op]=M.pure (.ret (.int .i64 (.ofNat 15))))
 (Ht:Q6 c h tv (P6 X.types)) (Hl:Q6 c h lv (P6 X.labels)) (r w:List Nat) :
 H6 (go (a0F H8 N call (I7 X tv lv)) ⟨c,h,r,w⟩) fun x s=>x=.ret (.string ⟨⟨M4 (V4 X.op) (M4 (a0C b) (X8 a))⟩⟩)∧∀ i,i<c→s.h.get i=h.get i:=by
 obtain ⟨z,h19'⟩:=h19 (upd h c (.cells [(.int .i64 X.op, 0),(.int .i64 X.A, 0),(.int .i64 X.B, 0),(.int .u64 (Int.ofNat X.N), 0),(.int .i64 X.k, 0),(.int .i64 X.v, 0),(.int .i64 X.i, 0),(tv, 0),(lv, 0)] 0 false)) (fun b hb=>F6 (by omega))
 have Ht2:=Ht
 have Hl2:=Hl
 obtain ⟨ta,te,rfl,_⟩:=Ht
 obtain ⟨la,le,rfl,_⟩:=Hl
 simp only [I7,hA,hB,List.length_map] at h19'
 have nl:=X9 X.op
 have q1:=h47 a (by omega)
 have q2:=a2z a (by omega)
 have q3:=h49 b (by omega)
 have q4:=a5D b (by omega)
 simp (config:={ maxSteps:=10000000 }) (disch:=first | assumption | omega | (simp only [l9,w9,F3,j6,A8,E8,D8,I5,G9,I9,I8,H7,o9,D5,G8,Nat.reduceAdd,D7,E9,Nat.reduceBEq,G5,F9,d9,j5,l6,z8,D9,F7,F5,F4,G6,C8,q9,A9,q8,l8,l7,E5,C9,G7,IntKind.bits,D6,r9,o7] <;> omega) | assumption) only [a0F,a4p,a4j,a4g,a4d,a4r,a4f,a4n,a4u,a4s,a4k,a3f,a3y,a3H,a3z,a3o,a3e,a3g,a3x,a3n,a3h,a3E,a3q,a3t,a3l,a3j,a3B,a3k,a3C,a3F,a3u,a3p,a3G,a3D,a2l,a3A,a2k,a3i,b5i,I7,hA,hB,List.length_map,h19',h45,h46,decide_true,J3,J2,V9,F7,F5,F4,q1,q3,G9,bn,un,U0,V5,U6,J6,I4,K3,J4,P7,P9,r9,o7,J3,J2,X4,Y3,M6,K6,V.e1g,R5,P8,R7,X7,Q7,M7,M8,Q8,K8,M5,H9,I6,K9,M0,O6,S9,J5,J7,G8,Nat.add_zero,a0q,V7]
 exact H6.done ⟨by simp only [N9,List.append_assoc],fun i hi=>by simp (config:={ maxSteps:=10000000 }) (disch:=first | assumption | omega | (simp only [l9,w9,F3,j6,A8,E8,D8,I5,G9,I9,I8,H7,o9,D5,G8,Nat.reduceAdd,D7,E9,Nat.reduceBEq,G5,F9,d9,j5,l6,z8,D9,F7,F5,F4,G6,C8,q9,A9,q8,l8,l7,E5,C9,G7,IntKind.bits,D6,r9,o7] <;> omega) | assumption) only [F6]⟩
theorem d9Y (N:Nat) (call:o8) (X:Ins) (tv lv:Value) (a b:Nat) (hA:X.A=.ofNat a) (hB:X.B=.ofNat b) (ha:a<4294967296) (hb:b<4294967296) (h47:∀ m:Nat,m<18446744073709551616→call 47 [.int .i64 (.ofNat m)]=M.pure (.ret (.string ⟨⟨X8 m⟩⟩))) (h49:∀ m:Nat,m<18446744073709551616→call 49 [.int .i64 (.ofNat m)]=M.pure (.ret (.string ⟨⟨a0C m⟩⟩)))
 (c:Nat) (h:Trie VObj) (h19:∀ hh,(∀ b,b<c→hh.get b=h.get b)→∃ z:List Nat→List Nat, ∀ r w,go (call 19 [I7 X tv lv]) ⟨c+1,hh,r,w⟩=some (.ret (.bool true),⟨c+1,hh,z r,w⟩))
 (h45:call 45 [.int .i64 X.op]=M.pure (.ret (.string ⟨⟨V4 X.op⟩⟩))) (h46:call 46 [.int .i64 X.op]=M.pure (.ret (.int .i64 (.ofNat 5))))
 (Ht:Q6 c h tv (P6 X.types)) (Hl:Q6 c h lv (P6 X.labels)) (r w:List Nat) :
 H6 (go (a0F H8 N call (I7 X tv lv)) ⟨c,h,r,w⟩) fun x s=>x=.ret (.string ⟨⟨M4 (V4 X.op) (M4 (M4 (a0C b) [32, 40, 116, 121, 112, 101]) (M4 (X8 a) [41]))⟩⟩)∧∀ i,i<c→s.h.get i=h.get i:=by
 obtain ⟨z,h19'⟩:=h19 (upd h c (.cells [(.int .i64 X.op, 0),(.int .i64 X.A, 0),(.int .i64 X.B, 0),(.int .u64 (Int.ofNat X.N), 0),(.int .i64 X.k, 0),(.int .i64 X.v, 0),(.int .i64 X.i, 0),(tv, 0),(lv, 0)] 0 false)) (fun b hb=>F6 (by omega))
 have Ht2:=Ht
 have Hl2:=Hl
 obtain ⟨ta,te,rfl,_⟩:=Ht
 obtain ⟨la,le,rfl,_⟩:=Hl
 simp only [I7,hA,hB,List.length_map] at h19'
 have nl:=X9 X.op
 have q1:=h47 a (by omega)
 have q2:=a2z a (by omega)
 have q3:=h49 b (by omega)
 have q4:=a5D b (by omega)
 simp (config:={ maxSteps:=10000000 }) (disch:=first | assumption | omega | (simp only [l9,w9,F3,j6,A8,E8,D8,I5,G9,I9,I8,H7,o9,D5,G8,Nat.reduceAdd,D7,E9,Nat.reduceBEq,G5,F9,d9,j5,l6,z8,D9,F7,F5,F4,G6,C8,q9,A9,q8,l8,l7,E5,C9,G7,IntKind.bits,D6,r9,o7] <;> omega) | assumption) only [a0F,a4p,a4j,a4g,a4d,a4r,a4f,a4n,a4u,a4s,a4k,a3f,a3y,a3H,a3z,a3o,a3e,a3g,a3x,a3n,a3h,a3E,a3q,a3t,a3l,a3j,a3B,a3k,a3C,a3F,a3u,a3p,a3G,a3D,a2l,a3A,c3i,a2k,a3i,I7,hA,hB,List.length_map,h19',h45,h46,decide_true,J3,J2,V9,F7,F5,F4,q1,q3,G9,bn,un,U0,V5,U6,J6,I4,K3,J4,P7,P9,r9,o7,J3,J2,X4,Y3,M6,K6,V.e1g,R5,P8,R7,X7,Q7,M7,M8,Q8,K8,M5,H9,I6,K9,M0,O6,S9,J5,J7,G8,Nat.add_zero,a0q,V7]
 exact H6.done ⟨by simp only [N9,List.append_assoc,List.cons_append,List.nil_append],fun i hi=>by simp (config:={ maxSteps:=10000000 }) (disch:=first | assumption | omega | (simp only [l9,w9,F3,j6,A8,E8,D8,I5,G9,I9,I8,H7,o9,D5,G8,Nat.reduceAdd,D7,E9,Nat.reduceBEq,G5,F9,d9,j5,l6,z8,D9,F7,F5,F4,G6,C8,q9,A9,q8,l8,l7,E5,C9,G7,IntKind.bits,D6,r9,o7] <;> omega) | assumption) only [F6]⟩
theorem d1n (N:Nat) (call:o8) (X:Ins) (tv lv:Value) (a b:Nat) (hA:X.A=.ofNat a) (hB:X.B=.ofNat b) (ha:a<4294967296) (hb:b<4294967296) (hN:X.N<4294967296) (h53:call 53 [.int .u64 (.ofNat X.N),.int .i64 (.ofNat 32)]=M.pure (.ret (.string ⟨⟨Lib.itoa (sgn 32 X.N)⟩⟩)))
 (c:Nat) (h:Trie VObj) (h19:∀ hh,(∀ b,b<c→hh.get b=h.get b)→∃ z:List Nat→List Nat, ∀ r w,go (call 19 [I7 X tv lv]) ⟨c+1,hh,r,w⟩=some (.ret (.bool true),⟨c+1,hh,z r,w⟩))
 (h45:call 45 [.int .i64 X.op]=M.pure (.ret (.string ⟨⟨V4 X.op⟩⟩))) (h46:call 46 [.int .i64 X.op]=M.pure (.ret (.int .i64 (.ofNat 18))))
 (Ht:Q6 c h tv (P6 X.types)) (Hl:Q6 c h lv (P6 X.labels)) (r w:List Nat) :
 H6 (go (a0F H8 N call (I7 X tv lv)) ⟨c,h,r,w⟩) fun x s=>x=.ret (.string ⟨⟨M4 (V4 X.op) (32::Lib.itoa (sgn 32 X.N))⟩⟩)∧∀ i,i<c→s.h.get i=h.get i:=by
 obtain ⟨z,h19'⟩:=h19 (upd h c (.cells [(.int .i64 X.op, 0),(.int .i64 X.A, 0),(.int .i64 X.B, 0),(.int .u64 (Int.ofNat X.N), 0),(.int .i64 X.k, 0),(.int .i64 X.v, 0),(.int .i64 X.i, 0),(tv, 0),(lv, 0)] 0 false)) (fun b hb=>F6 (by omega))
 have Ht2:=Ht
 have Hl2:=Hl
 obtain ⟨ta,te,rfl,_⟩:=Ht
 obtain ⟨la,le,rfl,_⟩:=Hl
 simp only [I7,hA,hB,List.length_map] at h19'
 have nl:=X9 X.op
 have q2:=a6g (sgn 32 X.N) (b1e _ hN) (by have:=b0H _ hN; omega)
 simp (config:={ maxSteps:=10000000 }) (disch:=first | assumption | omega | (simp only [l9,w9,F3,j6,A8,E8,D8,I5,G9,I9,I8,H7,o9,D5,G8,Nat.reduceAdd,D7,E9,Nat.reduceBEq,G5,F9,d9,j5,l6,z8,D9,F7,F5,F4,G6,C8,q9,A9,q8,l8,l7,E5,C9,G7,IntKind.bits,D6,r9,o7] <;> omega) | assumption) only [a0F,a4p,a4j,a4g,a4d,a4r,a4f,a4n,a4u,a4s,a4k,a3f,a3y,a3H,a3z,a3o,a3e,a3g,a3x,a3n,a3h,a3E,a3q,a3t,a3l,a3j,a3B,a3k,a3C,a3F,a3u,a3p,a3G,a3D,a2l,a3A,a2k,a3i,I7,hA,hB,List.length_map,h19',h45,h46,decide_true,J3,J2,V9,F7,F5,F4,h53,G9,bn,un,U0,V5,U6,J6,I4,K3,J4,P7,P9,J3,J2,X4,Y3,M6,K6,V.e1g,P8,R7,X7,Q7,M7,M8,Q8,K8,M5,H9,I6,K9,M0,O6,S9,J5,J7,G8,Nat.add_zero]
 exact H6.done ⟨by simp only [N9,List.append_assoc,List.cons_append,List.nil_append],fun i hi=>by simp (config:={ maxSteps:=10000000 }) (disch:=first | assumption | omega | (simp only [l9,w9,F3,j6,A8,E8,D8,I5,G9,I9,I8,H7,o9,D5,G8,Nat.reduceAdd,D7,E9,Nat.reduceBEq,G5,F9,d9,j5,l6,z8,D9,F7,F5,F4,G6,C8,q9,A9,q8,l8,l7,E5,C9,G7,IntKind.bits,D6,r9,o7] <;> omega) | assumption) only [F6]⟩
end Go.Proofs.YtmomonnlmbljoaaGreatDoor
end
