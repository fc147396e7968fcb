import Derived.Test.YtmomonnlmbljoaaGreatDoorPay
import Derived.Test.YtmomonnlmbljoaaGreatDoorPbc
section
namespace Go.Proofs.YtmomonnlmbljoaaGreatDoor
open Go.V Go.RowKit Go.Shelf Go.Proofs
set_option maxRecDepth 1000000
attribute [local congr] U8 U7 Y8 Z0 a0i
variable {mL:Int}
theorem e3D (N:Nat) (call:o8) (X:Ins) (tv lv:Value) (K:Nat) (hK:K≤20) (h46:call 46 [.int .i64 X.op]=M.pure (.ret (.int .i64 (.ofNat K)))) (h57:call 57 [.int .i64 X.op]=M.pure (.ret (.bool true)))
 (h59:∀ n,call 59 [.int .i64 n]=M.pure (.ret (.bool (idxB n)))) (h61:∀ n,call 61 [.int .i64 n]=M.pure (.ret (.bool (a2E n)))) (h58:∀ a b d,call 58 [.agg ⟨[.int .i64 a,.int .i64 b,.int .i64 d]⟩]=M.pure (.ret (.bool (a4H a b d))))
 (c:Nat) (h:Trie VObj) (h60:∀ hh,(∀ b,b<c→hh.get b=h.get b)→∃ q:List Nat→List Nat, ∀ r w,go (call 60 [lv]) ⟨c+1,hh,r,w⟩=some (.ret (.bool (idxAll X.labels)),⟨c+1,hh,q r,w⟩)) (Ht:Q6 c h tv (P6 X.types)) (Hl:Q6 c h lv (P6 X.labels)) (r w:List Nat) :
 H6 (go (b2R H8 N call (I7 X tv lv)) ⟨c,h,r,w⟩) fun x s=>x=.ret (.bool (pK K X))∧∀ i,i<c→s.h.get i=h.get i:=by
 obtain ⟨ta,te,rfl,_⟩:=id Ht
 obtain ⟨la,le,rfl,_⟩:=id Hl
 rw [List.length_map] at h60
 obtain ⟨q,h60'⟩:=h60 (upd h c (.cells [(.int .i64 X.op, 0),(.int .i64 X.A, 0),(.int .i64 X.B, 0),(.int .u64 (Int.ofNat X.N), 0),(.int .i64 X.k, 0),(.int .i64 X.v, 0),(.int .i64 X.i, 0),(.slice ta X.types.length te, 0),(.slice la X.labels.length le, 0)] 0 false)) (fun b hb=>F6 (by omega))
 clear h60
 simp (config:={ maxSteps:=10000000 }) (disch:=first | assumption | omega | (simp only [l9,w9,F3,j6,A8,E8,D8,I5,G9,I9,I8,H7,o9,D5,G8,Nat.reduceAdd,D7,E9,Nat.reduceBEq,G5,F9,d9,j5,l6,z8,D9,F7,F5,F4,G6,C8,q9,A9,q8,l8,l7,E5,C9,G7,IntKind.bits,D6,r9,o7] <;> omega) | assumption) only [b2R,c1j,c1t,c1L,c1g,c1I,c3e,c3f,c1Z,c2y,c2U,b7E,b8N,b7o,b9t,b7G,b7I,b9u,b8C,b6Q,b7C,b8v,b7z,b7s,b8V,b8R,b6R,b6X,b6O,b6K,b6L,b6N,b7e,b8g,b8n,b7F,b6F,b7a,b7m,b8U,b7y,b7p,b8G,b9r,b7D,b7q,b9v,I7,h46,h57,h58,h59,h60',List.length_map,V9,b1m,a2t,I9,I8,G9,I5,bn,un,U0,V5,U6,J6,I4,K3,J4,a2W,a5N,U3,a4w,a1X,J3,a2M,a3P,a3O,a5y,X4,Y3,b5Y,b0K,b3W,b8r,a4h,b3o,a5r,c0B,M6,K6,V.e1g,Q9,a6K,b2e,P8,a0v,a0t,a7R,a3s,a6x,R7,Q7,a5G,a7r,T9,M7,M8,Q8,K8,M5,H9,I6,K9,M0,O6,S9,J5,J7,G8,Nat.add_zero]
 refine H6.cases (fun g1=>?_) (fun g1=>?_)
 · exact H6.done ⟨by rw [c8t (K:=K) (X:=X) g1],fun i hi=>by simp (config:={ maxSteps:=10000000 }) (disch:=first | assumption | omega | (simp only [l9,w9,F3,j6,A8,E8,D8,I5,G9,I9,I8,H7,o9,D5,G8,Nat.reduceAdd,D7,E9,Nat.reduceBEq,G5,F9,d9,j5,l6,z8,D9,F7,F5,F4,G6,C8,q9,A9,q8,l8,l7,E5,C9,G7,IntKind.bits,D6,r9,o7] <;> omega) | assumption) only [F6]⟩
 refine H6.cases (fun k=>?_) (fun n0=>?_)
 · obtain rfl:=Nat.eq_of_beq_eq_true k
   exact H6.done ⟨by rw [← d8P (X:=X) g1]; rfl,fun i hi=>by simp (config:={ maxSteps:=10000000 }) (disch:=first | assumption | omega | (simp only [l9,w9,F3,j6,A8,E8,D8,I5,G9,I9,I8,H7,o9,D5,G8,Nat.reduceAdd,D7,E9,Nat.reduceBEq,G5,F9,d9,j5,l6,z8,D9,F7,F5,F4,G6,C8,q9,A9,q8,l8,l7,E5,C9,G7,IntKind.bits,D6,r9,o7] <;> omega) | assumption) only [F6]⟩
 refine H6.cases (fun k=>?_) (fun n1=>?_)
 · obtain rfl:=Nat.eq_of_beq_eq_true k
   exact H6.done ⟨by rw [← d8s (X:=X) g1]; rfl,fun i hi=>by simp (config:={ maxSteps:=10000000 }) (disch:=first | assumption | omega | (simp only [l9,w9,F3,j6,A8,E8,D8,I5,G9,I9,I8,H7,o9,D5,G8,Nat.reduceAdd,D7,E9,Nat.reduceBEq,G5,F9,d9,j5,l6,z8,D9,F7,F5,F4,G6,C8,q9,A9,q8,l8,l7,E5,C9,G7,IntKind.bits,D6,r9,o7] <;> omega) | assumption) only [F6]⟩
 refine H6.cases (fun k=>?_) (fun n3=>?_)
 · obtain rfl:=Nat.eq_of_beq_eq_true k
   exact H6.done ⟨by rw [← d7a (X:=X) g1]; rfl,fun i hi=>by simp (config:={ maxSteps:=10000000 }) (disch:=first | assumption | omega | (simp only [l9,w9,F3,j6,A8,E8,D8,I5,G9,I9,I8,H7,o9,D5,G8,Nat.reduceAdd,D7,E9,Nat.reduceBEq,G5,F9,d9,j5,l6,z8,D9,F7,F5,F4,G6,C8,q9,A9,q8,l8,l7,E5,C9,G7,IntKind.bits,D6,r9,o7] <;> omega) | assumption) only [F6]⟩
 refine H6.cases (fun k=>?_) (fun n6=>?_)
 · obtain rfl:=Nat.eq_of_beq_eq_true k
   rw [← d5X (X:=X) g1]
   have Ht2:Q6 c h (.slice ta X.types.length te) (P6 X.types):=by simpa only [List.length_map] using Ht
   cases hb:X.types.length.beq 1 with
   | true=>
     have hl1:=Nat.eq_of_beq_eq_true hb
     obtain ⟨t,ht⟩:∃ t,X.types=[t]:=List.length_eq_one_iff.1 hl1
     rw [show a7W X.types=a2E t by rw [ht]; rfl]
     obtain ⟨p,b,hlt,e1,e2⟩:=Ht2.read (Nat.le_succ c) (h':=upd h c (.cells [(.int .i64 X.op, 0),(.int .i64 X.A, 0),(.int .i64 X.B, 0),(.int .u64 (Int.ofNat X.N), 0),(.int .i64 X.k, 0),(.int .i64 X.v, 0),(.int .i64 X.i, 0),(.slice ta X.types.length te, 0),(.slice la X.labels.length le, 0)] 0 false)) (fun b hb=>F6 (by omega)) (i:=0) (x:=.int .i64 t) (by rw [ht]; rfl)
     simp (config:={ maxSteps:=10000000 }) (disch:=first | assumption | omega | (simp only [l9,w9,F3,j6,A8,E8,D8,I5,G9,I9,I8,H7,o9,D5,G8,Nat.reduceAdd,D7,E9,Nat.reduceBEq,G5,F9,d9,j5,l6,z8,D9,F7,F5,F4,G6,C8,q9,A9,q8,l8,l7,E5,C9,G7,IntKind.bits,D6,r9,o7] <;> omega) | assumption) only [e1,e2,h61,I9,J6,I4,K3,J4,a5N,U3,a3P,a3O,X4,Y3,a5r,K6,V.e1g]
     exact H6.done ⟨rfl,fun i hi=>by simp (config:={ maxSteps:=10000000 }) (disch:=first | assumption | omega | (simp only [l9,w9,F3,j6,A8,E8,D8,I5,G9,I9,I8,H7,o9,D5,G8,Nat.reduceAdd,D7,E9,Nat.reduceBEq,G5,F9,d9,j5,l6,z8,D9,F7,F5,F4,G6,C8,q9,A9,q8,l8,l7,E5,C9,G7,IntKind.bits,D6,r9,o7] <;> omega) | assumption) only [F6]⟩
   | false=>
     have hf:a7W X.types=false:=by
      cases ht:X.types with
      | nil=>rfl
      | cons t l=>cases l with
        | nil=>rw [ht] at hb; cases hb
        | cons t' l=>rfl
     rw [hf]
     simp (config:={ maxSteps:=10000000 }) (disch:=first | assumption | omega | (simp only [l9,w9,F3,j6,A8,E8,D8,I5,G9,I9,I8,H7,o9,D5,G8,Nat.reduceAdd,D7,E9,Nat.reduceBEq,G5,F9,d9,j5,l6,z8,D9,F7,F5,F4,G6,C8,q9,A9,q8,l8,l7,E5,C9,G7,IntKind.bits,D6,r9,o7] <;> omega) | assumption) only [Bool.and_false,I4,K3,J2,X4,Y3,a4h,K6,V.e1g]
     exact H6.done ⟨rfl,fun i hi=>by simp (config:={ maxSteps:=10000000 }) (disch:=first | assumption | omega | (simp only [l9,w9,F3,j6,A8,E8,D8,I5,G9,I9,I8,H7,o9,D5,G8,Nat.reduceAdd,D7,E9,Nat.reduceBEq,G5,F9,d9,j5,l6,z8,D9,F7,F5,F4,G6,C8,q9,A9,q8,l8,l7,E5,C9,G7,IntKind.bits,D6,r9,o7] <;> omega) | assumption) only [F6]⟩
 have n0':K≠0:=fun e=>by rw [e] at n0; cases n0
 have n1':K≠1:=fun e=>by rw [e] at n1; cases n1
 have n3':K≠3:=fun e=>by rw [e] at n3; cases n3
 have n6':K≠6:=fun e=>by rw [e] at n6; cases n6
 refine H6.done ⟨?_,fun i hi=>by simp (config:={ maxSteps:=10000000 }) (disch:=first | assumption | omega | (simp only [l9,w9,F3,j6,A8,E8,D8,I5,G9,I9,I8,H7,o9,D5,G8,Nat.reduceAdd,D7,E9,Nat.reduceBEq,G5,F9,d9,j5,l6,z8,D9,F7,F5,F4,G6,C8,q9,A9,q8,l8,l7,E5,C9,G7,IntKind.bits,D6,r9,o7] <;> omega) | assumption) only [F6]⟩
 clear n0 n1 n3 n6 h46 h57
 have hh:K=2∨K=4∨K=5∨K=7∨K=8∨K=9∨K=10∨K=11∨K=12∨K=13∨K=14∨K=15∨K=16∨K=17∨K=18∨K=19∨K=20:=by omega
 rcases hh with rfl | rfl | rfl | rfl | rfl | rfl | rfl | rfl | rfl | rfl | rfl | rfl | rfl | rfl | rfl | rfl | rfl
 · rw [← d5q (X:=X) g1]; rfl
 · rw [← d7H (X:=X) g1]; rfl
 · rw [← d6i (X:=X) g1]; rfl
 · rw [← d3e (X:=X) g1]; rfl
 · rw [← d3x (X:=X) g1]; rfl
 · rw [← d5H (X:=X) g1]; rfl
 · rw [← d1l (X:=X) g1]; rfl
 · rw [← d1L (X:=X) g1]; rfl
 · rw [← d0D (X:=X) g1]; rfl
 · rw [← d1Y (X:=X) g1]; rfl
 · rw [← d2S (X:=X) g1]; rfl
 · rw [← d1T (X:=X) g1]; rfl
 · rw [← d1w (X:=X) g1]; rfl
 · rw [← d2x (X:=X) g1]; rfl
 · rw [← c9E (X:=X) g1]; rfl
 · rw [← d0o (X:=X) g1]; rfl
 · rw [← c9G (X:=X) g1]; rfl
theorem d5E (N:Nat) (call:o8) (X:Ins) (tv lv:Value) (K:Nat) (h46:call 46 [.int .i64 X.op]=M.pure (.ret (.int .i64 (.ofNat K)))) (h57:call 57 [.int .i64 X.op]=M.pure (.ret (.bool false)))
 (c:Nat) (h:Trie VObj) (Ht:Q6 c h tv (P6 X.types)) (Hl:Q6 c h lv (P6 X.labels)) (r w:List Nat) :
 H6 (go (b2R H8 N call (I7 X tv lv)) ⟨c,h,r,w⟩) fun x s=>x=.ret (.bool false)∧∀ i,i<c→s.h.get i=h.get i:=by
 obtain ⟨ta,te,rfl,_⟩:=id Ht
 obtain ⟨la,le,rfl,_⟩:=id Hl
 simp (config:={ maxSteps:=10000000 }) (disch:=first | assumption | omega | (simp only [l9,w9,F3,j6,A8,E8,D8,I5,G9,I9,I8,H7,o9,D5,G8,Nat.reduceAdd,D7,E9,Nat.reduceBEq,G5,F9,d9,j5,l6,z8,D9,F7,F5,F4,G6,C8,q9,A9,q8,l8,l7,E5,C9,G7,IntKind.bits,D6,r9,o7] <;> omega) | assumption) only [b2R,c1j,c1t,c1L,c1g,c1I,c3e,c3f,c1Z,c2y,c2U,b7E,b8N,b7o,b9t,b7G,b7I,b9u,b8C,b6Q,b7C,b8v,b7z,b7s,b8V,b8R,b6R,b6X,b6O,b6K,b6L,b6N,b7e,b8g,b8n,b7F,b6F,b7a,b7m,b8U,b7y,b7p,b8G,b9r,b7D,b7q,b9v,I7,h46,h57,G9,I5,bn,un,U0,V5,U6,J6,I4,K3,J4,a2W,a4w,a1X,J3,J2,a2M,a3P,a3O,X4,Y3,b5Y,b0K,b3W,a6j,M6,K6,V.e1g,Q9,b2e,P8,a0v,R7,Q7,a7r,T9,M7,M8,Q8,K8,M5,H9,I6,K9,M0,O6,S9,J5,J7,G8,Nat.add_zero]
 exact H6.done ⟨rfl,fun i hi=>by simp (config:={ maxSteps:=10000000 }) (disch:=first | assumption | omega | (simp only [l9,w9,F3,j6,A8,E8,D8,I5,G9,I9,I8,H7,o9,D5,G8,Nat.reduceAdd,D7,E9,Nat.reduceBEq,G5,F9,d9,j5,l6,z8,D9,F7,F5,F4,G6,C8,q9,A9,q8,l8,l7,E5,C9,G7,IntKind.bits,D6,r9,o7] <;> omega) | assumption) only [F6]⟩
noncomputable def a1G (X:Ins):Bool:=bcase (a2q X.op) (pK (a0n X.op) X) false
theorem c7o (n:Nat) (z:Int):K4 s3 (n+1) 39 [.int .i64 z]=M.pure (.ret (.int .i64 (.ofNat (a0n z)))):=a2x (q:=fun z=>some (.int .i64 (.ofNat (a0n z)))) (by kernel_rfl) n rfl
theorem c7r (n:Nat) (z:Int):K4 s3 (n+1) 85 [.int .i64 z]=M.pure (.ret (.bool (a2q z))):=a2x (q:=fun z=>some (.bool (a2q z))) (by kernel_rfl) n rfl
theorem d3J (n:Nat) (z:Int):K4 s3 (n+1) 86 [.int .i64 z]=M.pure (.ret (.bool (idxB z))):=a2x (q:=fun z=>some (.bool (idxB z))) (by kernel_rfl) n rfl
theorem e0w (n:Nat) (z:Int):K4 s3 (n+1) 88 [.int .i64 z]=M.pure (.ret (.bool (a2E z))):=a2x (q:=fun z=>some (.bool (a2E z))) (by kernel_rfl) n rfl
theorem e0q (n:Nat) (a b d:Int):K4 s3 (n+1) 87 [.agg ⟨[.int .i64 a,.int .i64 b,.int .i64 d]⟩]=M.pure (.ret (.bool (a4H a b d))):=b6j (q:=fun a b d=>some (.bool (a4H a b d))) (by kernel_rfl) n rfl
theorem c6y (n:Nat) (k:Nat) (h:k≤20):K4 s3 (n+1) 84 [.int .i64 (.ofNat k)]=M.pure (.ret (.tuple ⟨[.bool (uA k),.bool (uB k),.bool (uN k)]⟩)):=by
 rw [a2H (q:=a4Y) (N:=NN) (by kernel_rfl) n]
 exact t84 _ _ k h
theorem d3z:Y4 Tryz.prog R4 (V6 mL) 34 (XI fun X=>some (.bool (a1G X))):=b4x L3 Tryz.func34 (by kernel_rfl) rfl fun X x y c hp H e=>by
 cases e
 obtain ⟨⟨tv,lv,rfl,h1,h2⟩,h3,h4⟩:=H
 refine ⟨rfl, 2,fun r w=>?_⟩
 rw [a2H (q:=b2W) (N:=NN) (by kernel_rfl) 1]
 unfold a1G
 cases hk:a2q X.op with
 | true=>exact t34 NN _ X tv lv (a0n X.op) _ _ _ (c7o 0 _) (c6y 0 _ (a9U _)) (by rw [c7r 0,hk]) (d3J 0) (e0w 0) (e0q 0) c hp h1 h2 (by show X.labels.length<100000; omega) (by omega) r w
 | false=>exact d3O NN _ X tv lv (a0n X.op) _ _ _ (c7o 0 _) (c6y 0 _ (a9U _)) (by rw [c7r 0,hk]) c hp h1 h2 r w
noncomputable def e4:Nat→Option (List Value→M Value):=a0m e3 60 (XL fun l=>some (.bool (idxAll l)))
noncomputable def s4:a1N:=a1O s3 60 (XL fun l=>some (.bool (idxAll l)))
theorem L4:Shelf' Tryz.prog R4 (V6 mL) NN e4 s4:=L3.add d6Z
theorem c7F (n:Nat) (z:Int):K4 s4 (n+1) 46 [.int .i64 z]=M.pure (.ret (.int .i64 (.ofNat (a0n z)))):=a2x (q:=fun z=>some (.int .i64 (.ofNat (a0n z)))) (by kernel_rfl) n rfl
theorem c7s (n:Nat) (z:Int):K4 s4 (n+1) 57 [.int .i64 z]=M.pure (.ret (.bool (a2q z))):=a2x (q:=fun z=>some (.bool (a2q z))) (by kernel_rfl) n rfl
theorem d4V (n:Nat) (z:Int):K4 s4 (n+1) 59 [.int .i64 z]=M.pure (.ret (.bool (idxB z))):=a2x (q:=fun z=>some (.bool (idxB z))) (by kernel_rfl) n rfl
theorem e0C (n:Nat) (z:Int):K4 s4 (n+1) 61 [.int .i64 z]=M.pure (.ret (.bool (a2E z))):=a2x (q:=fun z=>some (.bool (a2E z))) (by kernel_rfl) n rfl
theorem e0E (n:Nat) (a b d:Int):K4 s4 (n+1) 58 [.agg ⟨[.int .i64 a,.int .i64 b,.int .i64 d]⟩]=M.pure (.ret (.bool (a4H a b d))):=b6j (q:=fun a b d=>some (.bool (a4H a b d))) (by kernel_rfl) n rfl
theorem d4L:Y4 Tryz.prog R4 (V6 mL) 19 (XI fun X=>some (.bool (a1G X))):=b4x L4 Tryz.func19 (by kernel_rfl) rfl fun X x y c hp H e=>by
 cases e
 obtain ⟨⟨tv,lv,rfl,h1,h2⟩,h3,h4⟩:=H
 refine ⟨rfl, 2,fun r w=>?_⟩
 rw [a2H (q:=b2R) (N:=NN) (by kernel_rfl) 1]
 unfold a1G
 cases hk:a2q X.op with
 | true=>
   have hq:∀ hh,(∀ b,b<c→hh.get b=hp.get b)→∃ q:List Nat→List Nat, ∀ r w,go (K4 s4 1 60 [lv]) ⟨c+1,hh,r,w⟩=some (.ret (.bool (idxAll X.labels)),⟨c+1,hh,q r,w⟩):=fun hh hb=>by
    obtain ⟨z,hz⟩:=d2L (q:=fun l=>some (.bool (idxAll l))) (x:=.bool (idxAll X.labels)) h2 h4 (Nat.le_succ c) hb rfl
    exact ⟨z,fun r w=>b3P (by kernel_rfl) 0 (hz r w)⟩
   exact e3D NN _ X tv lv (a0n X.op) (a9U _) (c7F 0 _) (by rw [c7s 0,hk]) (d4V 0) (e0C 0) (e0E 0) c hp hq h1 h2 r w
 | false=>exact d5E NN _ X tv lv (a0n X.op) (c7F 0 _) (by rw [c7s 0,hk]) c hp h1 h2 r w
end Go.Proofs.YtmomonnlmbljoaaGreatDoor
end
section
noncomputable section
namespace Go.V
def b6c {α:Type} (x:Option (α×S)) (r w:List Nat):Option ((α×a2X)×S):=match x with
 | none=>none
 | some y=>some ((y.1,(y.2.r,y.2.w)),⟨y.2.c,y.2.h,M4 y.2.r r,M4 y.2.w w⟩)
theorem a0q {α:Type} (m:M α) (c:Nat) (h:Trie VObj) (r w:List Nat):go (M.foot m) ⟨c,h,r,w⟩=b6c (go m ⟨c,h, [], []⟩) r w:=rfl
theorem V7 {α:Type} (a:α) (c:Nat) (h:Trie VObj) (r' w' r w:List Nat):b6c (some (a,(⟨c,h,r',w'⟩:S))) r w=some ((a,(r',w')),⟨c,h,M4 r' r,M4 w' w⟩):=Eq.trans rfl rfl
theorem a0h {α:Type} {x y:Option (α×S)} (r w:List Nat) (h:x=y):b6c x r w=b6c y r w:=by rw [h]
section
variable {P:Program} {T:Tab} {vs:a3J}
def a6X (q:List Value→Option (List Value)) (bs:List Value):M Value:=M.obind (q bs) fun cs=>match cs with
 | []=>M.pure (.slice none 0 0)
 | v::cs=>M.bind (a1U (v::cs)) fun a=>M.pure (.slice (some a) (L9 cs+1) 1)
theorem c9q (q:List Value→Option (List Value)) (bs:List Value):Fr (a6X q bs):=Fr.obind _ fun cs=>by
 cases cs with
 | nil=>exact Fr.pure _
 | cons v cs=>exact Fr.bind (Fr.newCells _) fun _=>Fr.pure _
theorem c2K (hT:TabOk P T) (hM:P.follows .mixedOrders=true)
 {ext:Nat→Option (List Value→M Value)} (hE:a4C P T vs ext) {N:Nat} {sh:a1N} (hs:a7I P T ext N sh) {f:Nat} {fn:Func} {cd:Code}
 (hPf:P.funcs[f]?=some fn) (hnum:(fn.name == "runtime.NumGoroutine")=false) (hb:fn.body=some cd) {q:List Value→Option (List Value)}
 (h:∀ bs cs,q bs=some cs→a0o plain cs=true∧∀ c h r w, ∃ n,H6 (go (K4 sh n f bs) ⟨c,h,r,w⟩) fun x s2=>(∀ i,i<c→s2.h.get i=h.get i) ∧
   ((cs=[]∧x=.ret (.slice none 0 0))∨(cs≠[]∧∃ b g ds,x=.ret (.slice (some ⟨b, 0,some g⟩) cs.length 1)∧c≤b∧s2.h.get b=some (.cells ds g false)∧a1R (·.1) ds=cs))):Y4 P T vs f (a6X q):=by
 refine b2x hT hM hE hs hPf hnum hb (c9q q) fun bs s v s1 hg c' h1 h2 h3=>?_
 obtain ⟨cs,e,hg'⟩:=U2 hg
 obtain ⟨hpl,hr⟩:=h bs cs e
 obtain ⟨n,x,s2,hrun,hold,hor⟩:=hr c' s.h s.r s.w
 have hrun':K4 sh n f bs ⟨c',s.h,s.r,s.w⟩=some (x,s2):=hrun
 rcases hor with ⟨rfl,rfl⟩ | ⟨hne,b,g,ds,rfl,hb2,hds,hmap⟩
 · obtain ⟨rfl,rfl⟩:=J8 hg'
   refine ⟨n,_,s2,fun _=>none,hrun',⟨fun i hi=>Or.inr ⟨rfl,hold i hi.1⟩,fun b b2 g2 hm=>(by cases hm),fun b hb _=>?_,fun b b' x x' hm=>(by cases hm)⟩,.plain rfl,fun i _ hi=>hold i hi⟩
   exact h3 b (Nat.le_of_not_lt fun hlt=>hb ⟨hlt,fun hx=>by omega⟩)
 · cases cs with
   | nil=>exact absurd rfl hne
   | cons v0 cs0=>
     have hg2:M.bind (a1U (v0::cs0)) (fun a=>M.pure (Value.slice (some a) (L9 cs0+1) 1)) s=some (v,s1):=hg'
     obtain ⟨a,s1',q1,q2⟩:=O7 hg2
     obtain ⟨rfl,rfl⟩:=J8 q2
     obtain ⟨k1,k2,k3,k4⟩:=a9g q1
     have hc1:s1.c=s.c+1:=k3
     have hnew:s1.h.get s.c=some (.cells ((v0::cs0).map fun v=>(v, 0)) 0 false):=by rw [k4,if_pos rfl]
     have hoth:∀ i,i≠s.c→s1.h.get i=s.h.get i:=fun i hi=>by rw [k4,if_neg hi]
     refine ⟨n,_,s2,fun i=>if i=s.c then some (b,g) else none,hrun',⟨fun i hi=>Or.inr ⟨?_,hold i hi.1⟩,fun i b2 g2 hm=>?_,fun i hi hm=>?_,fun i i' x x' hm hm' hx=>?_⟩, ?_,fun i hi1 hi2=>hold i hi2⟩
     · exact hoth i (fun e=>hi.2 (by omega))
     · split at hm
       · rename_i hi
         cases hm
         subst hi
         refine ⟨fun hx=>hx.2 ⟨Nat.le_refl _,by omega⟩,fun hx=>by have:=hx.1; omega,_,ds,hnew,hds, ?_,fun i v w st st' hv hw=>?_⟩
         · have:=congrArg List.length hmap
           rw [a3I] at this
           simp at this ⊢; omega
         · rw [List.getElem?_map] at hv
           cases hvo:(v0::cs0)[i]? with
           | none=>rw [hvo] at hv; cases hv
           | some y=>
             rw [hvo] at hv
             cases hv
             refine ⟨rfl, ?_⟩
             rw [← hmap,a3I,List.getElem?_map,hw] at hvo
             have ey:w=v:=by simpa using hvo
             subst ey
             refine .plain ((a0y _ _).1 hpl w ?_)
             rw [← hmap,a3I]
             exact List.mem_map.2 ⟨_,List.mem_of_getElem? hw,rfl⟩
       · cases hm
     · split at hm
       · cases hm
       · rename_i hne'
         rw [hoth i hne']
         exact h3 i (Nat.le_of_not_lt fun hlt=>hi ⟨hlt,fun hx=>by omega⟩)
     · split at hm
       · split at hm'
         · rename_i e1 e2; rw [e1,e2]
         · cases hm'
       · cases hm
     · rw [k2,show L9 cs0+1=(v0::cs0).length by rw [Z5]; rfl]
       exact .sliceNew (by rw [if_pos rfl])
end
end Go.V
end
section
namespace Go.Proofs.YtmomonnlmbljoaaGreatDoor
open Go.V Go.RowKit Go.Shelf Go.Proofs
set_option maxRecDepth 1000000
attribute [local congr] U8 U7 Y8 Z0 a0i a0h
variable {mL:Int}
theorem d7B (n:Nat) (z:Int):K4 s4 (n+1) 50 [.int .i64 z]=M.pure (.ret (.string ⟨⟨a1Q z⟩⟩)):=a2x (q:=fun z=>some (.string ⟨⟨a1Q z⟩⟩)) (by kernel_rfl) n rfl
theorem d4q (n:Nat) (z:Int):K4 s4 (n+1) 54 [.int .i64 z]=M.pure (.ret (.bool (a2E z))):=a2x (q:=fun z=>some (.bool (a2E z))) (by kernel_rfl) n rfl
theorem d7m (n:Nat) (z:Int) (h1:-9223372036854775808≤z) (h2:z≤9223372036854775807):K4 s4 (n+1) 55 [.int .i64 z]=M.pure (.ret (.string ⟨⟨Lib.itoa z⟩⟩)):=a2x (q:=q55) (by kernel_rfl) n (d1g z h1 h2)
theorem d8q:Y4 Tryz.prog R4 (V6 mL) 15 (XB a9f):=c2S L4 Tryz.func15 (by kernel_rfl) rfl fun k v i x h=>by
 obtain ⟨h1,h2,rfl⟩:=b9d h
 exact ⟨rfl, 2,by rw [a2H (q:=b7P) (N:=NN) (by kernel_rfl) 1]; exact t15 _ _ (d7B 0) (d4q 0) k v i h1 h2 (d7m 0 i h1 h2)⟩
theorem b9R (mL:Int):a0o (fun x:Nat×Nat=>b1R (K4 s4 400 98 [.int .i64 (.ofNat x.1)] (Go.V.a4P (V6 mL))) x.2) a4i=true:=by kernel_rfl
theorem d6H:Y4 Tryz.prog R4 (V6 mL) 98 (X1 .i64 a6k):=b2l fun z v h=>by
 unfold a6k at h
 split at h
 · rename_i a ha
   cases h
   obtain ⟨x,hm,rfl,rfl⟩:=b2z z a4i a ha
   obtain ⟨s,hr⟩:=b0J ((a0y _ _).1 (b9R mL) x hm)
   exact ⟨rfl,a9K a2m a0w a8U a5U L4.e (L4 (mL:=mL)).s Tryz.func98 (by kernel_rfl) rfl rfl rfl hr⟩
 · cases h
noncomputable def a5e (N:Nat):List UInt8:=bcase (N.beq 0) [] (32::111::102::102::115::101::116::61::Lib.decDigits N)
noncomputable def a5f (a al:Nat):List UInt8:=bcase (a.beq al) [] (32::97::108::105::103::110::61::Lib.decDigits (2 ^ a))
theorem a9z (a:Nat) (h:a≤63):2 ^ a<18446744073709551616:=Nat.lt_of_le_of_lt (Nat.pow_le_pow_right (by omega) h) (by decide)
theorem a5D (m:Nat) (hm:m<18446744073709551616):L9 (a0C m)≤21:=by
 unfold a0C
 cases Nat.beq m 0 with
 | true=>show L9 ([]:List UInt8)≤21; decide
 | false=>exact a2z m hm
theorem t52 (N:Nat) (call:o8) (op:Int) (a b n al:Nat) (k v i:Int) (tv lv:Value) (hv:a0I tv=true∧a0I lv=true) (ha:a≤63) (hb:b<4294967296) (hn:n<4294967296)
 (h49:call 49 [.int .i64 (.ofNat b)]=M.pure (.ret (.string ⟨⟨a0C b⟩⟩))) (h25:∀ m:Nat,m<18446744073709551616→call 25 [.int .u64 (.ofNat m)]=M.pure (.ret (.string ⟨⟨Lib.decDigits m⟩⟩)))
 (h98:call 98 [.int .i64 op]=M.pure (.ret (.int .i64 (.ofNat al)))) (c:Nat) (h:Trie VObj) (r w:List Nat) (t1 t2:Option Addr) (n1 e1 n2 e2:Nat) (htv:tv=.slice t1 n1 e1) (hlv:lv=.slice t2 n2 e2) :
 H6 (go (b1S H8 N call (.agg ⟨[.int .i64 op,.int .i64 (.ofNat a),.int .i64 (.ofNat b),.int .u64 (.ofNat n),.int .i64 k,.int .i64 v,.int .i64 i,tv,lv]⟩)) ⟨c,h,r,w⟩) fun x s=>x=.ret (.string ⟨⟨M4 (M4 (a0C b) (a5e n)) (a5f a al)⟩⟩)∧∀ i,i<c→s.h.get i=h.get i:=by
 subst htv hlv
 have l1:=a5D b (by omega)
 have l2:L9 (Lib.decDigits n)≤20:=by rw [Z5]; exact a4x _ (by omega)
 have l3:L9 (Lib.decDigits (2 ^ a))≤20:=by rw [Z5]; exact a4x _ (a9z a ha)
 have g1:=h25 n (by omega)
 have g2:=h25 (2 ^ a) (a9z a ha)
 have p1:a0H .u64 (Int.ofNat (2 ^ a))=Int.ofNat (2 ^ a):=a3m .u64 _ (a9z a ha)
 cases hN:n.beq 0 with
 | true=>
   cases hA:a.beq al with
   | true=>
     have e1:a5e n=[]:=by unfold a5e; rw [hN]; rfl
     have e2:a5f a al=[]:=by unfold a5f; rw [hA]; rfl
     simp (config:={ maxSteps:=10000000 }) (disch:=first | assumption | omega | (simp only [l9,w9,F3,j6,A8,E8,D8,I5,G9,I9,I8,H7,o9,D5,G8,Nat.reduceAdd,D7,E9,Nat.reduceBEq,G5,F9,d9,j5,l6,z8,D9,F7,F5,F4,G6,C8,q9,A9,q8,l8,l7,E5,C9,G7,IntKind.bits,D6,r9,o7] <;> omega) | assumption) only [b1S,b3K,b4n,b4d,b0Y,b3I,b1g,h49,h98,V9,hN,hA,G9,bn,U0,V5,U6,J6,I4,K3,J4,P7,P9,r9,o7,J2,X4,Y3,M6,K6,V.e1g,R5,a0v,X7,Q7,M7,M8,K8,M5,H9,I6,K9,M0,O6,S9,J5,J7,G8,Nat.add_zero,a0q,V7]
     exact H6.done ⟨by rw [e1,e2,N9,N9]; simp,fun i hi=>by simp (config:={ maxSteps:=10000000 }) (disch:=first | assumption | omega | (simp only [l9,w9,F3,j6,A8,E8,D8,I5,G9,I9,I8,H7,o9,D5,G8,Nat.reduceAdd,D7,E9,Nat.reduceBEq,G5,F9,d9,j5,l6,z8,D9,F7,F5,F4,G6,C8,q9,A9,q8,l8,l7,E5,C9,G7,IntKind.bits,D6,r9,o7] <;> omega) | assumption) only [F6]⟩
   | false=>
     have e1:a5e n=[]:=by unfold a5e; rw [hN]; rfl
     have e2:a5f a al=32::97::108::105::103::110::61::Lib.decDigits (2 ^ a):=by unfold a5f; rw [hA]; rfl
     simp (config:={ maxSteps:=10000000 }) (disch:=first | assumption | omega | (simp only [l9,w9,F3,j6,A8,E8,D8,I5,G9,I9,I8,H7,o9,D5,G8,Nat.reduceAdd,D7,E9,Nat.reduceBEq,G5,F9,d9,j5,l6,z8,D9,F7,F5,F4,G6,C8,q9,A9,q8,l8,l7,E5,C9,G7,IntKind.bits,D6,r9,o7] <;> omega) | assumption) only [b1S,b3K,b4n,b4d,b0Y,b3I,b1g,h49,h98,V9,hN,hA,g2,Nat.one_mul,p1,G9,I5,bn,U0,V5,U6,J6,I4,K3,J4,P7,P9,r9,o7,J3,J2,X4,Y3,M6,K6,V.e1g,R5,a0v,a5J,X7,Q7,M7,M8,K8,M5,H9,I6,K9,M0,O6,S9,J5,J7,G8,Nat.add_zero,a0q,V7]
     exact H6.done ⟨by rw [e1,e2]; simp only [N9]; simp,fun i hi=>by simp (config:={ maxSteps:=10000000 }) (disch:=first | assumption | omega | (simp only [l9,w9,F3,j6,A8,E8,D8,I5,G9,I9,I8,H7,o9,D5,G8,Nat.reduceAdd,D7,E9,Nat.reduceBEq,G5,F9,d9,j5,l6,z8,D9,F7,F5,F4,G6,C8,q9,A9,q8,l8,l7,E5,C9,G7,IntKind.bits,D6,r9,o7] <;> omega) | assumption) only [F6]⟩
 | false=>
   cases hA:a.beq al with
   | true=>
     have e1:a5e n=32::111::102::102::115::101::116::61::Lib.decDigits n:=by unfold a5e; rw [hN]; rfl
     have e2:a5f a al=[]:=by unfold a5f; rw [hA]; rfl
     simp (config:={ maxSteps:=10000000 }) (disch:=first | assumption | omega | (simp only [l9,w9,F3,j6,A8,E8,D8,I5,G9,I9,I8,H7,o9,D5,G8,Nat.reduceAdd,D7,E9,Nat.reduceBEq,G5,F9,d9,j5,l6,z8,D9,F7,F5,F4,G6,C8,q9,A9,q8,l8,l7,E5,C9,G7,IntKind.bits,D6,r9,o7] <;> omega) | assumption) only [b1S,b3K,b4n,b4d,b0Y,b3I,b1g,h49,h98,V9,hN,hA,g1,G9,I5,bn,U0,V5,U6,J6,I4,K3,J4,P7,P9,r9,o7,J3,J2,X4,Y3,M6,K6,V.e1g,R5,a0v,X7,Q7,M7,M8,K8,M5,H9,I6,K9,M0,O6,S9,J5,J7,G8,Nat.add_zero,a0q,V7]
     exact H6.done ⟨by rw [e1,e2]; simp only [N9]; simp,fun i hi=>by simp (config:={ maxSteps:=10000000 }) (disch:=first | assumption | omega | (simp only [l9,w9,F3,j6,A8,E8,D8,I5,G9,I9,I8,H7,o9,D5,G8,Nat.reduceAdd,D7,E9,Nat.reduceBEq,G5,F9,d9,j5,l6,z8,D9,F7,F5,F4,G6,C8,q9,A9,q8,l8,l7,E5,C9,G7,IntKind.bits,D6,r9,o7] <;> omega) | assumption) only [F6]⟩
   | false=>
     have e1:a5e n=32::111::102::102::115::101::116::61::Lib.decDigits n:=by unfold a5e; rw [hN]; rfl
     have e2:a5f a al=32::97::108::105::103::110::61::Lib.decDigits (2 ^ a):=by unfold a5f; rw [hA]; rfl
     simp (config:={ maxSteps:=10000000 }) (disch:=first | assumption | omega | (simp only [l9,w9,F3,j6,A8,E8,D8,I5,G9,I9,I8,H7,o9,D5,G8,Nat.reduceAdd,D7,E9,Nat.reduceBEq,G5,F9,d9,j5,l6,z8,D9,F7,F5,F4,G6,C8,q9,A9,q8,l8,l7,E5,C9,G7,IntKind.bits,D6,r9,o7] <;> omega) | assumption) only [b1S,b3K,b4n,b4d,b0Y,b3I,b1g,h49,h98,V9,hN,hA,g1,g2,Nat.one_mul,p1,I5,bn,U0,V5,U6,J6,I4,K3,J4,P7,P9,r9,o7,J3,X4,Y3,M6,K6,V.e1g,R5,a0v,a5J,X7,Q7,M7,M8,K8,M5,H9,I6,K9,M0,O6,S9,J5,J7,G8,Nat.add_zero,a0q,V7]
     exact H6.done ⟨by rw [e1,e2]; simp only [N9]; simp,fun i hi=>by simp (config:={ maxSteps:=10000000 }) (disch:=first | assumption | omega | (simp only [l9,w9,F3,j6,A8,E8,D8,I5,G9,I9,I8,H7,o9,D5,G8,Nat.reduceAdd,D7,E9,Nat.reduceBEq,G5,F9,d9,j5,l6,z8,D9,F7,F5,F4,G6,C8,q9,A9,q8,l8,l7,E5,C9,G7,IntKind.bits,D6,r9,o7] <;> omega) | assumption) only [F6]⟩
noncomputable def a7n (l:List Nat):List UInt8:=List.rec (motive:=fun _=>List UInt8) [] (fun m _ ih=>M4 (X8 m) ih) l
theorem b1O (m:Nat) (l:List Nat):a7n (m::l)=M4 (X8 m) (a7n l):=rfl
theorem b0C (l:List Nat) (h:∀ m∈l,m<4294967296):L9 (a7n l)≤21 * l.length:=by
 induction l with
 | nil=>exact Nat.le_refl _
 | cons m l ih=>
   rw [b1O,D6,List.length_cons]
   have h1:=a2z m (by have:=h m List.mem_cons_self; omega)
   have h2:=ih (fun x hx=>h x (List.mem_cons_of_mem _ hx))
   omega
theorem c6a (N:Nat) (call:o8) (h47:∀ m:Nat,m<18446744073709551616→call 47 [.int .i64 (.ofNat m)]=M.pure (.ret (.string ⟨⟨X8 m⟩⟩))) (c b0:Nat) (h:Trie VObj) (x0 x1 x2 x3 x4 x5 x6 x7 v:Value) (L:List Nat) (hb0:b0<c)
 (h0:h.get b0=some (.cells [(x0, 0),(x1, 0),(x2, 0),(x3, 0),(x4, 0),(x5, 0),(x6, 0),(x7, 0),(v, 0)] 0 false)) (H:Q6 c h v (P6 (L.map Int.ofNat))) (hL:∀ m∈L,m<4294967296) (hl:L.length<1000) :
 ∀ (t:List Nat) (i k:Nat) (g0 g1 g2 g3 g4 g5 g6 g7 g8 g9 g10 g11 g12 g14 g15:Value) (acc:List UInt8) (r w:List Nat),L.drop i=t→t.length<k→L9 acc+21 * t.length≤30000 →
 H6 (go (a2S (b5W H8 N call (.pointer (some ⟨b0, 0,some 0⟩))) k [g0,g1,g2,g3,g4,g5,g6,g7,g8,g9,g10,g11,g12,.string ⟨⟨acc⟩⟩,g14,g15,.int .i64 (.ofNat i)]) ⟨c,h,r,w⟩)
  fun x s=>s.c=c∧s.h=h∧x.1=.exit 0∧j4 x.2 13=.string ⟨⟨M4 acc (a7n t)⟩⟩:=by
 intro t
 have hlen:=H.len
 rw [List.length_map,List.length_map] at hlen
 induction t with
 | nil=>
   intro i k g0 g1 g2 g3 g4 g5 g6 g7 g8 g9 g10 g11 g12 g14 g15 acc r w hd hk ha
   obtain ⟨k,rfl⟩:∃ m,k=m+1:=⟨k - 1,by simp at hk; omega⟩
   have hi:Nat.blt i L.length=false:=by
    have:L.length≤i:=by simpa [List.drop_eq_nil_iff] using hd
    cases q:Nat.blt i L.length with
    | false=>rfl
    | true=>have:i<L.length:=by simpa [Nat.blt_eq] using q
            omega
   simp (config:={ maxSteps:=10000000 }) (disch:=first | assumption | omega | (simp only [l9,w9,F3,j6,A8,E8,D8,I5,G9,I9,I8,H7,o9,D5,G8,Nat.reduceAdd,D7,E9,Nat.reduceBEq,G5,F9,d9,j5,l6,z8,D9,F7,F5,F4,G6,C8,q9,A9,q8,l8,l7,E5,C9,G7,IntKind.bits,D6,r9,o7] <;> omega) | assumption) only [a1d,c2s,c2C,b5W,h0,hlen,a2t,hi,bn,U0,U6,J6,I4,K3,J2,X4,Y3,M6,a2N,V.e1g,a0t,a0G,Q7,M8,K8,M5,H9,O6,S9,J5,J7,G8]
   exact H6.done ⟨rfl,rfl,rfl,by show Value.string ⟨⟨acc⟩⟩=.string ⟨⟨M4 acc []⟩⟩; rw [N9,List.append_nil]⟩
 | cons q t ih=>
   intro i k g0 g1 g2 g3 g4 g5 g6 g7 g8 g9 g10 g11 g12 g14 g15 acc r w hd hk ha
   obtain ⟨k,rfl⟩:∃ m,k=m+1:=⟨k - 1,by simp at hk; omega⟩
   have hil:i<L.length:=by
    have:=congrArg List.length hd; simp at this; omega
   have hi:Nat.blt i L.length=true:=H9 hil
   have hq:L[i]?=some q:=by
    have:=congrArg (fun t=>t[0]?) hd; simpa using this
   have hqm:q<4294967296:=hL q (List.mem_of_getElem? hq)
   have hd':L.drop (i+1)=t:=by
    have:=congrArg List.tail hd; simpa using this
   have hinc:=a4G i (by omega)
   have h1:=h47 q (by omega)
   have h2:=a2z q (by omega)
   rw [List.length_cons] at ha
   obtain ⟨p,b,_,e1,e2⟩:=H.read (Nat.le_refl c) (fun _ _=>rfl) (i:=i) (x:=.int .i64 (.ofNat q)) (by rw [List.getElem?_map,List.getElem?_map,hq]; rfl)
   simp (config:={ maxSteps:=10000000 }) (disch:=first | assumption | omega | (simp only [l9,w9,F3,j6,A8,E8,D8,I5,G9,I9,I8,H7,o9,D5,G8,Nat.reduceAdd,D7,E9,Nat.reduceBEq,G5,F9,d9,j5,l6,z8,D9,F7,F5,F4,G6,C8,q9,A9,q8,l8,l7,E5,C9,G7,IntKind.bits,D6,r9,o7] <;> omega) | assumption) only [a1d,c2s,c2C,b5W,h0,hlen,a2t,hi,e1,e2,h1,hinc,bn,U0,U6,J6,I4,K3,J4,J3,X4,Y3,M6,K6,V.e1g,a0t,a0G,X7,Q7,M8,K8,M5,H9,O6,S9,J5,J7,G8]
   have e:M4 acc (a7n (q::t))=M4 (M4 acc (X8 q)) (a7n t):=by rw [b1O]; simp only [N9]; rw [List.append_assoc]
   rw [e]
   exact ih (i+1) k _ _ _ _ _ _ _ _ _ _ _ _ _ _ _ _ _ _ hd' (by simp at hk; omega) (by rw [D6]; omega)
theorem t48 (N:Nat) (hN:1000<N) (call:o8) (h47:∀ m:Nat,m<18446744073709551616→call 47 [.int .i64 (.ofNat m)]=M.pure (.ret (.string ⟨⟨X8 m⟩⟩))) (X:Ins) (tv lv:Value) (a:Nat) (L:List Nat) (hA:X.A=.ofNat a) (ha:a<4294967296) (hX:X.labels=L.map Int.ofNat) (hL:∀ m∈L,m<4294967296) (hl:L.length<1000)
 (c:Nat) (h:Trie VObj) (Ht:Q6 c h tv (P6 X.types)) (Hl:Q6 c h lv (P6 X.labels)) (r w:List Nat) :
 H6 (go (b8z H8 N call (I7 X tv lv)) ⟨c,h,r,w⟩) fun x s=>x=.ret (.string ⟨⟨M4 (a7n L) (X8 a)⟩⟩)∧∀ i,i<c→s.h.get i=h.get i:=by
 have hlv:=Hl.mono (Nat.le_succ c) (h':=upd h c (.cells [(.int .i64 X.op, 0),(.int .i64 X.A, 0),(.int .i64 X.B, 0),(.int .u64 (Int.ofNat X.N), 0),(.int .i64 X.k, 0),(.int .i64 X.v, 0),(.int .i64 X.i, 0),(tv, 0),(lv, 0)] 0 false)) (fun b hb=>F6 (by omega))
 rw [hX] at hlv
 obtain ⟨ta,te,rfl,_⟩:=id Ht
 obtain ⟨la,le,rfl,_⟩:=id Hl
 have h1:=h47 a (by omega)
 have h2:=a2z a (by omega)
 have h3:=b0C L hL
 rw [hA] at hlv
 simp (config:={ maxSteps:=10000000 }) (disch:=first | assumption | omega | (simp only [l9,w9,F3,j6,A8,E8,D8,I5,G9,I9,I8,H7,o9,D5,G8,Nat.reduceAdd,D7,E9,Nat.reduceBEq,G5,F9,d9,j5,l6,z8,D9,F7,F5,F4,G6,C8,q9,A9,q8,l8,l7,E5,C9,G7,IntKind.bits,D6,r9,o7] <;> omega) | assumption) only [b8z,I7,hA,bn,U0,V5,U6,a1P,J6,I4,V.e1g,Q7,M7,K9,M0,G8]
 refine H6.bindS (c6a N call h47 (c+1) c _ _ _ _ _ _ _ _ _ _ L (by omega) (I6 _ _ _) hlv hL hl L 0 N _ _ _ _ _ _ _ _ _ _ _ _ _ _ _ [] _ _ rfl (by omega) (by show 0+21 * L.length≤30000; omega)) fun x s hq=>?_
 obtain ⟨x1,x2⟩:=x
 obtain ⟨c',h',r',w'⟩:=s
 obtain ⟨rfl,rfl,rfl,e13⟩:=hq
 simp only at e13
 rw [r9] at e13
 simp (config:={ maxSteps:=10000000 }) (disch:=first | assumption | omega | (simp only [l9,w9,F3,j6,A8,E8,D8,I5,G9,I9,I8,H7,o9,D5,G8,Nat.reduceAdd,D7,E9,Nat.reduceBEq,G5,F9,d9,j5,l6,z8,D9,F7,F5,F4,G6,C8,q9,A9,q8,l8,l7,E5,C9,G7,IntKind.bits,D6,r9,o7] <;> omega) | assumption) only [J6,I4,K3,b0d,J4,a2W,X4,a2N,V.e1g,X7,M8,K8,M5,H9,I6,O6,S9,J5,J7,e13,h1]
 exact H6.done ⟨rfl,fun i hi=>by simp (config:={ maxSteps:=10000000 }) (disch:=first | assumption | omega | (simp only [l9,w9,F3,j6,A8,E8,D8,I5,G9,I9,I8,H7,o9,D5,G8,Nat.reduceAdd,D7,E9,Nat.reduceBEq,G5,F9,d9,j5,l6,z8,D9,F7,F5,F4,G6,C8,q9,A9,q8,l8,l7,E5,C9,G7,IntKind.bits,D6,r9,o7] <;> omega) | assumption) only [F6]⟩
end Go.Proofs.YtmomonnlmbljoaaGreatDoor
end
section
namespace Go.Proofs.YtmomonnlmbljoaaGreatDoor
open Go.V Go.RowKit Go.Shelf Go.Proofs
set_option maxRecDepth 1000000
set_option linter.unusedVariables false
attribute [local congr] U8 U7 Y8 Z0 a0i a0h
variable {mL:Int}
noncomputable def a2n (K:Nat) (X:Ins):List UInt8:=
 bcase (K.beq 1) (bcase (decide (X.k=0)) [] (32::a5H X.k X.v X.i)) <|
 bcase (a4O K [2, 4, 7, 8, 12, 16]) (X8 X.A.toNat) <|
 bcase (K.beq 3) (M4 (a7n (X.labels.map Int.toNat)) (X8 X.A.toNat)) <|
 bcase (K.beq 5) (M4 (M4 (a0C X.B.toNat) [32, 40, 116, 121, 112, 101]) (M4 (X8 X.A.toNat) [41])) <|
 bcase (K.beq 6) (M4 [32, 40, 114, 101, 115, 117, 108, 116, 32] (M4 (a1Q (X.types.headD 0)) [41])) <|
 bcase (K.beq 9) (a0C X.A.toNat) <|
 bcase (a4O K [10, 14]) (a4A X.A.toNat X.B.toNat) <|
 bcase (a4O K [11, 15]) (M4 (a0C X.B.toNat) (X8 X.A.toNat)) <|
 bcase (K.beq 13) (a0C X.B.toNat) <|
 bcase (K.beq 17) (M4 (M4 (a0C X.B.toNat) (a5e X.N)) (a5f X.A.toNat ((a4a a4i X.op).getD 0))) <|
 bcase (K.beq 18) (32::Lib.itoa (sgn 32 X.N)) <|
 bcase (K.beq 19) (32::Lib.itoa (sgn 64 X.N)) <|
 bcase (K.beq 20) (bcase (decide (X.A=3)) [32, 102, 117, 110, 99] [32, 101, 120, 116, 101, 114, 110]) []
noncomputable def R6 (X:Ins):List UInt8:=M4 (V4 X.op) (a2n (a0n X.op) X)
theorem b1t (m n:Nat) (hm:m<18446744073709551616) (hn:n<18446744073709551616):L9 (a4A m n)≤42:=by
 unfold a4A
 cases Nat.beq m 0 && Nat.beq n 0 with
 | true=>show L9 ([]:List UInt8)≤42; decide
 | false=>
   show L9 (X8 m ++ X8 n)≤42
   rw [← N9,D6]
   have:=a2z m hm
   have:=a2z n hn
   omega
theorem b2Q (k v i:Int) (h1:-9223372036854775808≤i) (h2:i≤9223372036854775807):L9 (a5H k v i)≤30:=by
 unfold a5H
 have h3:=a6n v
 have h4:=a6g i h1 (by omega)
 rw [Z5] at h3 h4
 rw [Z5]
 cases decide (k=1) with
 | true=>cases a2E v with
   | true=>show (40::114::101::115::117::108::116::32::(a1Q v ++ [41])).length≤30; simp; omega
   | false=>show ([]:List UInt8).length≤30; decide
 | false=>cases decide (k=2) with
   | true=>show (40::116::121::112::101::32::(Lib.itoa i ++ [41])).length≤30; simp; omega
   | false=>show ([]:List UInt8).length≤30; decide
theorem b8E (a al:Nat) (h:a≤63):L9 (a5f a al)≤30:=by
 unfold a5f
 have:=a4x (2 ^ a) (a9z a h)
 cases a.beq al with
 | true=>show L9 ([]:List UInt8)≤30; decide
 | false=>rw [Z5]; show (32::97::108::105::103::110::61::Lib.decDigits (2 ^ a)).length≤30; simp; omega
theorem b8Q (n:Nat) (h:n<18446744073709551616):L9 (a5e n)≤30:=by
 unfold a5e
 have:=a4x n h
 cases n.beq 0 with
 | true=>show L9 ([]:List UInt8)≤30; decide
 | false=>rw [Z5]; show (32::111::102::102::115::101::116::61::Lib.decDigits n).length≤30; simp; omega
end Go.Proofs.YtmomonnlmbljoaaGreatDoor
end
