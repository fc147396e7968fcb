import Derived.Test.YtmomonnlmbljoaaGreatDoorQaq
section
namespace Go.Proofs.YtmomonnlmbljoaaGreatDoor
open Go.V Go.RowKit Go.Shelf Go.Proofs
set_option maxRecDepth 1000000
attribute [local congr] a0b Z9 a0A a0B a0M
variable {mL:Int}
theorem b6d {op:BinOp} (hop:op=.eql ∨ op=.neq) (x y:Operand) (a b d a' b' d':Int):a4r Tryz.prog Q6 op 26 x y (.agg ⟨[.int .i64 a,.int .i64 b,.int .i64 d]⟩) (.agg ⟨[.int .i64 a',.int .i64 b',.int .i64 d']⟩)=M.pure (.bool (b2y op (a7K [a,b,d] [a',b',d']))):=by
 refine b8z (fs:=Tryz.prog.fieldsOf 26) hop (by kernel_rfl) (by kernel_rfl) (by kernel_rfl) ?_ rfl rfl (fun i hi=>?_)
 · refine ⟨of_decide_eq_true (by kernel_rfl),by kernel_rfl,⟨.i64,by kernel_rfl⟩,⟨.i64,rfl,rfl⟩, ?_⟩
   refine ⟨of_decide_eq_true (by kernel_rfl),by kernel_rfl,⟨.i64,by kernel_rfl⟩,⟨.i64,rfl,rfl⟩, ?_⟩
   refine ⟨of_decide_eq_true (by kernel_rfl),by kernel_rfl,⟨.i64,by kernel_rfl⟩,⟨.i64,rfl,rfl⟩, ?_⟩
   trivial
 · have:Q6.types.get 26=some c3r:=by kernel_rfl
   rw [this] at hi
   rw [← Option.some.inj hi]
   have e:c3r.und=.struct (Tryz.prog.fieldsOf 26):=by kernel_rfl
   exact e
theorem b5Z (x y:Operand) (a b d a' b' d':Int):a4r Tryz.prog Q6 .eql 26 x y (.agg ⟨[.int .i64 a,.int .i64 b,.int .i64 d]⟩) (.agg ⟨[.int .i64 a',.int .i64 b',.int .i64 d']⟩)=M.pure (.bool (decide (a=a') && (decide (b=b') && (decide (d=d') && true)))):=b6d (Or.inl rfl) x y a b d a' b' d'
theorem b1b (x y:Operand) (a b d a' b' d':Int):a4r Tryz.prog Q6 .neq 26 x y (.agg ⟨[.int .i64 a,.int .i64 b,.int .i64 d]⟩) (.agg ⟨[.int .i64 a',.int .i64 b',.int .i64 d']⟩)=M.pure (.bool (!(decide (a=a') && (decide (b=b') && (decide (d=d') && true))))):=b6d (Or.inr rfl) x y a b d a' b' d'
theorem c1B:Int.ofNat 0=0:=rfl
theorem b3K:Int.ofNat 1=1:=rfl
theorem b2O:Int.ofNat 2=2:=rfl
noncomputable def a5c (k v i:Int):Bool:=bcase (decide (k=0)) (decide (v=0) && decide (i=0)) (bcase (decide (k=1)) (a2X v && decide (i=0)) (decide (k=2) && decide (v=0) && idxB i))
theorem t87 (N:Nat) (call:j5) (h86:∀ n,call 86 [.int .i64 n]=M.pure (.ret (.bool (idxB n)))) (h88:∀ n,call 88 [.int .i64 n]=M.pure (.ret (.bool (a2X n)))) (k v i:Int) :
 a3k (b6t G8 N call (.agg ⟨[.int .i64 k,.int .i64 v,.int .i64 i]⟩)) (.bool (a5c k v i)):=by
 intro c h r w
 simp (config:={ maxSteps:=10000000 }) (disch:=first | assumption | omega | (simp only [q9,C8,G7,F7,l8,D6,q8,F6,F3,Bool.not_false,Bool.not_true,Bool.and_true,Bool.true_and,Bool.and_self,r9,D5,Nat.zero_add,Nat.reduceAdd,j4,F8,Nat.reduceBEq,G9,H6,E5,j6,A8,l7,l6,l9,C9,j4,F4,G6,G5,F9,H8,H9,D7,z8,D9,w9,o8,o9,F5,D8,I7,IntKind.bits,E9,A9,o7] <;> omega) | assumption) only [b6t,c5x,c5A,c5P,c4T,c4P,b5Z,h86,h88,bn,U6,a0d,V6,K6,I8,M0,J8,a4b,a5X,U5,a5g,a4k,a4m,l_0,l_s,b3J,a5G,P5,L9,V.d9Z,P7,a6Q,b1T,Q7,Q0,a7x,U9,K8,M9,P8,K7,N9,I5,I9,K9,N8,O6,Q9,J6,J7,Nat.zero_add,Nat.add_zero,c1B,b3K,b2O,Bool.and_true]
 refine I6.done ⟨?_,fun j hj=>by simp (config:={ maxSteps:=10000000 }) (disch:=first | assumption | omega | (simp only [q9,C8,G7,F7,l8,D6,q8,F6,F3,Bool.not_false,Bool.not_true,Bool.and_true,Bool.true_and,Bool.and_self,r9,D5,Nat.zero_add,Nat.reduceAdd,j4,F8,Nat.reduceBEq,G9,H6,E5,j6,A8,l7,l6,l9,C9,j4,F4,G6,G5,F9,H8,H9,D7,z8,D9,w9,o8,o9,F5,D8,I7,IntKind.bits,E9,A9,o7] <;> omega) | assumption) only [E8]⟩
 unfold a5c
 generalize decide (k=0)=b0
 generalize decide (k=1)=b1
 generalize decide (k=2)=b2
 cases b0 <;> cases b1 <;> cases b2 <;> cases decide (v=0) <;> rfl
theorem t58 (N:Nat) (call:j5) (h59:∀ n,call 59 [.int .i64 n]=M.pure (.ret (.bool (idxB n)))) (h61:∀ n,call 61 [.int .i64 n]=M.pure (.ret (.bool (a2X n)))) (k v i:Int) :
 a3k (b8r G8 N call (.agg ⟨[.int .i64 k,.int .i64 v,.int .i64 i]⟩)) (.bool (a5c k v i)):=by
 intro c h r w
 simp (config:={ maxSteps:=10000000 }) (disch:=first | assumption | omega | (simp only [q9,C8,G7,F7,l8,D6,q8,F6,F3,Bool.not_false,Bool.not_true,Bool.and_true,Bool.true_and,Bool.and_self,r9,D5,Nat.zero_add,Nat.reduceAdd,j4,F8,Nat.reduceBEq,G9,H6,E5,j6,A8,l7,l6,l9,C9,j4,F4,G6,G5,F9,H8,H9,D7,z8,D9,w9,o8,o9,F5,D8,I7,IntKind.bits,E9,A9,o7] <;> omega) | assumption) only [b8r,c5m,c5e,c5q,c4Q,c5G,h59,h61,bn,U6,a0d,V6,K6,I8,M0,J8,a4b,a5X,U5,a5g,a4k,a4m,l_0,l_s,a5G,P5,L9,V.d9Z,a6Q,b1T,Q7,Q0,K8,M9,K7,N9,I5,I9,K9,N8,O6,Q9,J6,J7,Nat.zero_add,Nat.add_zero,c1B,b3K,b2O]
 refine I6.done ⟨?_,fun j hj=>by simp (config:={ maxSteps:=10000000 }) (disch:=first | assumption | omega | (simp only [q9,C8,G7,F7,l8,D6,q8,F6,F3,Bool.not_false,Bool.not_true,Bool.and_true,Bool.true_and,Bool.and_self,r9,D5,Nat.zero_add,Nat.reduceAdd,j4,F8,Nat.reduceBEq,G9,H6,E5,j6,A8,l7,l6,l9,C9,j4,F4,G6,G5,F9,H8,H9,D7,z8,D9,w9,o8,o9,F5,D8,I7,IntKind.bits,E9,A9,o7] <;> omega) | assumption) only [E8]⟩
 unfold a5c
 generalize decide (k=0)=b0
 generalize decide (k=1)=b1
 generalize decide (k=2)=b2
 cases b0 <;> cases b1 <;> cases b2 <;> cases decide (v=0) <;> rfl
noncomputable def a5J (k v i:Int):List UInt8:=bcase (decide (k=1)) (bcase (a2X v) (40 :: 114 :: 101 :: 115 :: 117 :: 108 :: 116 :: 32 :: (a2k v ++ [41])) []) (bcase (decide (k=2)) (40 :: 116 :: 121 :: 112 :: 101 :: 32 :: (Lib.itoa i ++ [41])) [])
theorem c0v (v:Int):(!(beqBytes (a2k v) []))=a2X v:=by
 by_cases h:1 ≤ v ∧ v ≤ 4
 · have:v=1 ∨ v=2 ∨ v=3 ∨ v=4:=by omega
   rcases this with rfl | rfl | rfl | rfl <;> rfl
 · have e:a2X v=false:=by
    simp only [a2X,Bool.and_eq_false_iff,decide_eq_false_iff_not]; omega
   rw [e]
   unfold a2k
   rw [show decide (v=1)=false by simp; omega,show decide (v=2)=false by simp; omega,show decide (v=3)=false by simp; omega,show decide (v=4)=false by simp; omega]
   rfl
theorem a7f (v:Int):M4 (a2k v) ≤ 9:=by
 unfold a2k
 cases decide (v=1) <;> cases decide (v=2) <;> cases decide (v=3) <;> cases decide (v=4) <;> decide
theorem t14 (N:Nat) (call:j5) (h40:∀ n,call 40 [.int .i64 n]=M.pure (.ret (.string ⟨⟨a2k n⟩⟩))) (k v i:Int) (hi1:-9223372036854775808 ≤ i) (hi2:i ≤ 9223372036854775807) (h37:call 37 [.int .i64 i]=M.pure (.ret (.string ⟨⟨Lib.itoa i⟩⟩))) :
 a3k (b7i G8 N call (.agg ⟨[.int .i64 k,.int .i64 v,.int .i64 i]⟩)) (.string ⟨⟨a5J k v i⟩⟩):=by
 intro c h r w
 have l1:=a7o i hi1 (by omega)
 have l2:=a7f v
 simp (config:={ maxSteps:=10000000 }) (disch:=first | assumption | omega | (simp only [q9,C8,G7,F7,l8,D6,q8,F6,F3,Bool.not_false,Bool.not_true,Bool.and_true,Bool.true_and,Bool.and_self,r9,D5,Nat.zero_add,Nat.reduceAdd,j4,F8,Nat.reduceBEq,G9,H6,E5,j6,A8,l7,l6,l9,C9,j4,F4,G6,G5,F9,H8,H9,D7,z8,D9,w9,o8,o9,F5,D8,I7,IntKind.bits,E9,A9,o7] <;> omega) | assumption) only [b7i,c5i,c4V,c5w,c5p,h40,h37,bn,U6,V6,K6,I8,M0,J8,a4b,a5X,U5,A9,o7,a3n,l_0,P5,V.d9Z,a6Q,a8m,Q7,a9f,a0n,Q0,K8,M9,K7,N9,I5,I9,K9,N8,O6,Q9,J6,J7,Nat.zero_add,Nat.add_zero,b3K,b2O,c0v]
 refine I6.done ⟨?_,fun j hj=>by simp (config:={ maxSteps:=10000000 }) (disch:=first | assumption | omega | (simp only [q9,C8,G7,F7,l8,D6,q8,F6,F3,Bool.not_false,Bool.not_true,Bool.and_true,Bool.true_and,Bool.and_self,r9,D5,Nat.zero_add,Nat.reduceAdd,j4,F8,Nat.reduceBEq,G9,H6,E5,j6,A8,l7,l6,l9,C9,j4,F4,G6,G5,F9,H8,H9,D7,z8,D9,w9,o8,o9,F5,D8,I7,IntKind.bits,E9,A9,o7] <;> omega) | assumption) only [E8]⟩
 unfold a5J
 simp only [M7]
theorem t15 (N:Nat) (call:j5) (h50:∀ n,call 50 [.int .i64 n]=M.pure (.ret (.string ⟨⟨a2k n⟩⟩))) (h54:∀ n,call 54 [.int .i64 n]=M.pure (.ret (.bool (a2X n)))) (k v i:Int) (hi1:-9223372036854775808 ≤ i) (hi2:i ≤ 9223372036854775807) (h55:call 55 [.int .i64 i]=M.pure (.ret (.string ⟨⟨Lib.itoa i⟩⟩))) :
 a3k (b6n G8 N call (.agg ⟨[.int .i64 k,.int .i64 v,.int .i64 i]⟩)) (.string ⟨⟨a5J k v i⟩⟩):=by
 intro c h r w
 have l1:=a7o i hi1 (by omega)
 have l2:=a7f v
 simp (config:={ maxSteps:=10000000 }) (disch:=first | assumption | omega | (simp only [q9,C8,G7,F7,l8,D6,q8,F6,F3,Bool.not_false,Bool.not_true,Bool.and_true,Bool.true_and,Bool.and_self,r9,D5,Nat.zero_add,Nat.reduceAdd,j4,F8,Nat.reduceBEq,G9,H6,E5,j6,A8,l7,l6,l9,C9,j4,F4,G6,G5,F9,H8,H9,D7,z8,D9,w9,o8,o9,F5,D8,I7,IntKind.bits,E9,A9,o7] <;> omega) | assumption) only [b6n,c5l,c4K,c4L,c5Q,h50,h54,h55,bn,un,U6,V6,K6,I8,M0,J8,a4b,a5X,U5,A9,o7,a7k,l_0,P5,V.d9Z,a6Q,a8m,Q7,U3,a0n,Q0,K8,M9,K7,N9,I5,I9,K9,N8,O6,Q9,J6,J7,Nat.zero_add,Nat.add_zero,b3K,b2O]
 refine I6.done ⟨?_,fun j hj=>by simp (config:={ maxSteps:=10000000 }) (disch:=first | assumption | omega | (simp only [q9,C8,G7,F7,l8,D6,q8,F6,F3,Bool.not_false,Bool.not_true,Bool.and_true,Bool.true_and,Bool.and_self,r9,D5,Nat.zero_add,Nat.reduceAdd,j4,F8,Nat.reduceBEq,G9,H6,E5,j6,A8,l7,l6,l9,C9,j4,F4,G6,G5,F9,H8,H9,D7,z8,D9,w9,o8,o9,F5,D8,I7,IntKind.bits,E9,A9,o7] <;> omega) | assumption) only [E8]⟩
 unfold a5J
 simp only [M7]
noncomputable def V7 (z:Int):List UInt8:=match a0X z a0E with
 | some r=>r.2.1
 | none=>[]
noncomputable def a2V (z:Int):Bool:=match a0X z a0E with
 | some _=>true
 | none=>false
noncomputable def a0K (z:Int):Nat:=match a0X z a0E with
 | some r=>r.2.2
 | none=>0
theorem c1i (z:Int):∀ l:List a5r,(match (l.map fun r=>(r.1,r.2.1)).find? (fun x=>(Int.ofNat x.1) == z) with | some x=>(⟨⟨x.2⟩⟩:ByteArray) | none=>ByteArray.empty)=⟨⟨match a0X z l with | some r=>r.2.1 | none=>[]⟩⟩:=by
 intro l
 induction l with
 | nil=>rfl
 | cons r l ih=>
   rw [List.map_cons,List.find?_cons]
   show _=(⟨⟨match bcase (decide (Int.ofNat r.1=z)) (some r) (a0X z l) with | some r=>r.2.1 | none=>[]⟩⟩:ByteArray)
   by_cases h:Int.ofNat r.1=z
   · have h':(Int.ofNat r.1 == z)=true:=by rw [beq_iff_eq]; exact h
     simp only [h',decide_eq_true h,K4]
   · have h':(Int.ofNat r.1 == z)=false:=by rw [beq_eq_false_iff_ne]; exact h
     simp only [h',decide_eq_false h,J4]
     exact ih
theorem b7S:a4j=a2m (fun r=>(r.1,r.2.1)) a0E:=by kernel_rfl
theorem c1s (z:Int):a9P z=⟨⟨V7 z⟩⟩:=by
 unfold a9P
 rw [b7S,a3X]
 exact c1i z a0E
theorem d1S:a0f Tryz.prog Q6 (W9 mL) 35 (X1 .i64 fun z=>some (.string ⟨⟨V7 z⟩⟩)):=b1C fun z v h=>by
 cases h
 refine ⟨rfl,fun w hL=>⟨a2d Tryz.func35 (by kernel_rfl) rfl, ?_⟩⟩
 refine (callsIn_wide.1 (b9f 3 (by omega) z w hL)).mono fun e W' hq=>?_
 obtain ⟨rfl,hb⟩:=hq
 exact ⟨by rw [c1s],hb⟩
theorem a7b (z:Int):∀ (l:List a5r) (r:a5r),a0X z l=some r → r ∈ l ∧ z=Int.ofNat r.1:=by
 intro l
 induction l with
 | nil=>intro r h; cases h
 | cons q l ih=>
   intro r h
   have h':bcase (decide (Int.ofNat q.1=z)) (some q) (a0X z l)=some r:=h
   by_cases hq:Int.ofNat q.1=z
   · rw [decide_eq_true hq] at h'
     cases h'
     exact ⟨List.mem_cons_self,hq.symm⟩
   · rw [decide_eq_false hq] at h'
     obtain ⟨h1,h2⟩:=ih r h'
     exact ⟨List.mem_cons_of_mem _ h1,h2⟩
theorem b7a (z:Int):∀ (l:List a5r),a0X z l=none → ∀ r ∈ l,Int.ofNat r.1 ≠ z:=by
 intro l
 induction l with
 | nil=>intro _ r h; cases h
 | cons q l ih=>
   intro h r hr
   have h':bcase (decide (Int.ofNat q.1=z)) (some q) (a0X z l)=none:=h
   by_cases hq:Int.ofNat q.1=z
   · rw [decide_eq_true hq] at h'; cases h'
   · rw [decide_eq_false hq] at h'
     rcases List.mem_cons.1 hr with rfl | hr
     · exact hq
     · exact ih h' r hr
theorem c4v:a0N (fun r:a5r=>!(beqBytes r.2.1 [])) a0E=true:=by kernel_rfl
theorem c3t (z:Int):(!(beqBytes (V7 z) []))=a2V z:=by
 unfold V7 a2V
 cases h:a0X z a0E with
 | none=>rfl
 | some r=>exact (a1a _ _).1 c4v r (a7b z a0E r h).1
theorem c2r:a0N (fun r:a5r=>Nat.ble (M4 r.2.1) 20) a0E=true:=by kernel_rfl
theorem a0e (z:Int):M4 (V7 z) ≤ 20:=by
 unfold V7
 cases h:a0X z a0E with
 | none=>decide
 | some r=>exact Nat.le_of_ble_eq_true ((a1a _ _).1 c2r r (a7b z a0E r h).1)
theorem t85 (N:Nat) (call:j5) (h35:∀ n,call 35 [.int .i64 n]=M.pure (.ret (.string ⟨⟨V7 n⟩⟩))) (z:Int):b6Z G8 N call (.int .i64 z)=M.pure (.ret (.bool (a2V z))):=by
 simp only [b6Z,h35,bn,U6,V6,J8,V.d9Z,a9f,c3t]
theorem t45 (N:Nat) (call:j5) (h97:∀ n,call 97 [.int .i64 n]=M.pure (.ret (a7n (a0X n a0E)))) (z:Int):a3k (b4i G8 N call (.int .i64 z)) (.string ⟨⟨V7 z⟩⟩):=by
 intro c h r w
 unfold V7
 have e:=h97 z
 cases hf:a0X z a0E with
 | none=>
   rw [hf] at e
   simp (config:={ maxSteps:=10000000 }) (disch:=first | assumption | omega | (simp only [q9,C8,G7,F7,l8,D6,q8,F6,F3,Bool.not_false,Bool.not_true,Bool.and_true,Bool.true_and,Bool.and_self,r9,D5,Nat.zero_add,Nat.reduceAdd,j4,F8,Nat.reduceBEq,G9,H6,E5,j6,A8,l7,l6,l9,C9,j4,F4,G6,G5,F9,H8,H9,D7,z8,D9,w9,o8,o9,F5,D8,I7,IntKind.bits,E9,A9,o7] <;> omega) | assumption) only [b4i,e,a7n,b5w,U6,V6,K6,I8,M0,J8,l_0,V.d9Z,P7,Q0,a7s,G9,H6,C9,M9,a0j,a0Z,K7,N9,X5,I5,I9,K9,N8,O6,Q9,J6,J7,Nat.zero_add,U8,O8,P9]
   exact I6.done ⟨rfl,fun j hj=>by simp (config:={ maxSteps:=10000000 }) (disch:=first | assumption | omega | (simp only [q9,C8,G7,F7,l8,D6,q8,F6,F3,Bool.not_false,Bool.not_true,Bool.and_true,Bool.true_and,Bool.and_self,r9,D5,Nat.zero_add,Nat.reduceAdd,j4,F8,Nat.reduceBEq,G9,H6,E5,j6,A8,l7,l6,l9,C9,j4,F4,G6,G5,F9,H8,H9,D7,z8,D9,w9,o8,o9,F5,D8,I7,IntKind.bits,E9,A9,o7] <;> omega) | assumption) only [E8]⟩
 | some q=>
   rw [hf] at e
   simp (config:={ maxSteps:=10000000 }) (disch:=first | assumption | omega | (simp only [q9,C8,G7,F7,l8,D6,q8,F6,F3,Bool.not_false,Bool.not_true,Bool.and_true,Bool.true_and,Bool.and_self,r9,D5,Nat.zero_add,Nat.reduceAdd,j4,F8,Nat.reduceBEq,G9,H6,E5,j6,A8,l7,l6,l9,C9,j4,F4,G6,G5,F9,H8,H9,D7,z8,D9,w9,o8,o9,F5,D8,I7,IntKind.bits,E9,A9,o7] <;> omega) | assumption) only [b4i,e,a7n,b0i,U6,V6,K6,I8,M0,J8,l_0,V.d9Z,P7,Q0,a7s,G9,H6,C9,M9,a0j,a0Z,K7,N9,X5,I5,I9,K9,N8,O6,Q9,J6,J7,Nat.zero_add,U8,O8,P9]
   exact I6.done ⟨rfl,fun j hj=>by simp (config:={ maxSteps:=10000000 }) (disch:=first | assumption | omega | (simp only [q9,C8,G7,F7,l8,D6,q8,F6,F3,Bool.not_false,Bool.not_true,Bool.and_true,Bool.true_and,Bool.and_self,r9,D5,Nat.zero_add,Nat.reduceAdd,j4,F8,Nat.reduceBEq,G9,H6,E5,j6,A8,l7,l6,l9,C9,j4,F4,G6,G5,F9,H8,H9,D7,z8,D9,w9,o8,o9,F5,D8,I7,IntKind.bits,E9,A9,o7] <;> omega) | assumption) only [E8]⟩
theorem t46 (N:Nat) (call:j5) (h97:∀ n,call 97 [.int .i64 n]=M.pure (.ret (a7n (a0X n a0E)))) (z:Int):a3k (b3O G8 N call (.int .i64 z)) (.int .i64 (.ofNat (a0K z))):=by
 intro c h r w
 unfold a0K
 have e:=h97 z
 cases hf:a0X z a0E with
 | none=>
   rw [hf] at e
   simp (config:={ maxSteps:=10000000 }) (disch:=first | assumption | omega | (simp only [q9,C8,G7,F7,l8,D6,q8,F6,F3,Bool.not_false,Bool.not_true,Bool.and_true,Bool.true_and,Bool.and_self,r9,D5,Nat.zero_add,Nat.reduceAdd,j4,F8,Nat.reduceBEq,G9,H6,E5,j6,A8,l7,l6,l9,C9,j4,F4,G6,G5,F9,H8,H9,D7,z8,D9,w9,o8,o9,F5,D8,I7,IntKind.bits,E9,A9,o7] <;> omega) | assumption) only [b3O,e,a7n,b5w,U6,V6,K6,I8,M0,J8,l_0,V.d9Z,P7,Q0,a7s,G9,H6,C9,M9,a0j,a0Z,K7,N9,X5,I5,I9,K9,N8,O6,Q9,J6,J7,Nat.zero_add,U8,O8,P9]
   exact I6.done ⟨rfl,fun j hj=>by simp (config:={ maxSteps:=10000000 }) (disch:=first | assumption | omega | (simp only [q9,C8,G7,F7,l8,D6,q8,F6,F3,Bool.not_false,Bool.not_true,Bool.and_true,Bool.true_and,Bool.and_self,r9,D5,Nat.zero_add,Nat.reduceAdd,j4,F8,Nat.reduceBEq,G9,H6,E5,j6,A8,l7,l6,l9,C9,j4,F4,G6,G5,F9,H8,H9,D7,z8,D9,w9,o8,o9,F5,D8,I7,IntKind.bits,E9,A9,o7] <;> omega) | assumption) only [E8]⟩
 | some q=>
   rw [hf] at e
   simp (config:={ maxSteps:=10000000 }) (disch:=first | assumption | omega | (simp only [q9,C8,G7,F7,l8,D6,q8,F6,F3,Bool.not_false,Bool.not_true,Bool.and_true,Bool.true_and,Bool.and_self,r9,D5,Nat.zero_add,Nat.reduceAdd,j4,F8,Nat.reduceBEq,G9,H6,E5,j6,A8,l7,l6,l9,C9,j4,F4,G6,G5,F9,H8,H9,D7,z8,D9,w9,o8,o9,F5,D8,I7,IntKind.bits,E9,A9,o7] <;> omega) | assumption) only [b3O,e,a7n,b0i,U6,V6,K6,I8,M0,J8,l_0,V.d9Z,P7,Q0,a7s,G9,H6,C9,M9,a0j,a0Z,K7,N9,X5,I5,I9,K9,N8,O6,Q9,J6,J7,Nat.zero_add,U8,O8,P9]
   exact I6.done ⟨rfl,fun j hj=>by simp (config:={ maxSteps:=10000000 }) (disch:=first | assumption | omega | (simp only [q9,C8,G7,F7,l8,D6,q8,F6,F3,Bool.not_false,Bool.not_true,Bool.and_true,Bool.true_and,Bool.and_self,r9,D5,Nat.zero_add,Nat.reduceAdd,j4,F8,Nat.reduceBEq,G9,H6,E5,j6,A8,l7,l6,l9,C9,j4,F4,G6,G5,F9,H8,H9,D7,z8,D9,w9,o8,o9,F5,D8,I7,IntKind.bits,E9,A9,o7] <;> omega) | assumption) only [E8]⟩
theorem t57 (N:Nat) (call:j5) (h97:∀ n,call 97 [.int .i64 n]=M.pure (.ret (a7n (a0X n a0E)))) (z:Int):a3k (b4b G8 N call (.int .i64 z)) (.bool (a2V z)):=by
 intro c h r w
 unfold a2V
 have e:=h97 z
 cases hf:a0X z a0E with
 | none=>
   rw [hf] at e
   simp (config:={ maxSteps:=10000000 }) (disch:=first | assumption | omega | (simp only [q9,C8,G7,F7,l8,D6,q8,F6,F3,Bool.not_false,Bool.not_true,Bool.and_true,Bool.true_and,Bool.and_self,r9,D5,Nat.zero_add,Nat.reduceAdd,j4,F8,Nat.reduceBEq,G9,H6,E5,j6,A8,l7,l6,l9,C9,j4,F4,G6,G5,F9,H8,H9,D7,z8,D9,w9,o8,o9,F5,D8,I7,IntKind.bits,E9,A9,o7] <;> omega) | assumption) only [b4b,e,a7n,b5w,U6,V6,K6,I8,M0,J8,V.d9Z,P7,a7s,G9,H6,C9,a0j,a0Z,N9,X5,I5,I9,K9,N8,U8,O8,P9]
   exact I6.done ⟨rfl,fun j hj=>by simp (config:={ maxSteps:=10000000 }) (disch:=first | assumption | omega | (simp only [q9,C8,G7,F7,l8,D6,q8,F6,F3,Bool.not_false,Bool.not_true,Bool.and_true,Bool.true_and,Bool.and_self,r9,D5,Nat.zero_add,Nat.reduceAdd,j4,F8,Nat.reduceBEq,G9,H6,E5,j6,A8,l7,l6,l9,C9,j4,F4,G6,G5,F9,H8,H9,D7,z8,D9,w9,o8,o9,F5,D8,I7,IntKind.bits,E9,A9,o7] <;> omega) | assumption) only [E8]⟩
 | some q=>
   rw [hf] at e
   simp (config:={ maxSteps:=10000000 }) (disch:=first | assumption | omega | (simp only [q9,C8,G7,F7,l8,D6,q8,F6,F3,Bool.not_false,Bool.not_true,Bool.and_true,Bool.true_and,Bool.and_self,r9,D5,Nat.zero_add,Nat.reduceAdd,j4,F8,Nat.reduceBEq,G9,H6,E5,j6,A8,l7,l6,l9,C9,j4,F4,G6,G5,F9,H8,H9,D7,z8,D9,w9,o8,o9,F5,D8,I7,IntKind.bits,E9,A9,o7] <;> omega) | assumption) only [b4b,e,a7n,b0i,U6,V6,K6,I8,M0,J8,V.d9Z,P7,a7s,G9,H6,C9,a0j,a0Z,N9,X5,I5,I9,K9,N8,U8,O8,P9]
   exact I6.done ⟨rfl,fun j hj=>by simp (config:={ maxSteps:=10000000 }) (disch:=first | assumption | omega | (simp only [q9,C8,G7,F7,l8,D6,q8,F6,F3,Bool.not_false,Bool.not_true,Bool.and_true,Bool.true_and,Bool.and_self,r9,D5,Nat.zero_add,Nat.reduceAdd,j4,F8,Nat.reduceBEq,G9,H6,E5,j6,A8,l7,l6,l9,C9,j4,F4,G6,G5,F9,H8,H9,D7,z8,D9,w9,o8,o9,F5,D8,I7,IntKind.bits,E9,A9,o7] <;> omega) | assumption) only [E8]⟩
end Go.Proofs.YtmomonnlmbljoaaGreatDoor
end
section
namespace Go.Proofs.YtmomonnlmbljoaaGreatDoor
open Go.V Go.RowKit Go.Shelf Go.Proofs
set_option maxRecDepth 1000000
attribute [local congr] a0b Z9 a0A a0B a0M
variable {mL:Int}
theorem L0:Shelf' Tryz.prog Q6 (W9 mL) NN a0W b0C:=⟨a9E,c0d⟩
theorem d9e:a0f Tryz.prog Q6 (W9 mL) 86 (X1 .i64 (fun z=>some (.bool (idxB z)))):=a6v a2E a0O L0 Tryz.func86 (by kernel_rfl) rfl fun z v h=>by
 cases h
 exact ⟨rfl, 1,by rw [a3g (q:=b6x) (N:=NN) (by kernel_rfl) 0]; exact a3k.pure (t86 _ _ z)⟩
theorem d4z:a0f Tryz.prog Q6 (W9 mL) 59 (X1 .i64 (fun z=>some (.bool (idxB z)))):=a6v a2E a0O L0 Tryz.func59 (by kernel_rfl) rfl fun z v h=>by
 cases h
 exact ⟨rfl, 1,by rw [a3g (q:=b7T) (N:=NN) (by kernel_rfl) 0]; exact a3k.pure (t59 _ _ z)⟩
theorem d5C:a0f Tryz.prog Q6 (W9 mL) 88 (X1 .i64 (fun z=>some (.bool (a2X z)))):=a6v a2E a0O L0 Tryz.func88 (by kernel_rfl) rfl fun z v h=>by
 cases h
 exact ⟨rfl, 1,by rw [a3g (q:=b6o) (N:=NN) (by kernel_rfl) 0]; exact a3k.pure (t88 _ _ z)⟩
theorem d6v:a0f Tryz.prog Q6 (W9 mL) 61 (X1 .i64 (fun z=>some (.bool (a2X z)))):=a6v a2E a0O L0 Tryz.func61 (by kernel_rfl) rfl fun z v h=>by
 cases h
 exact ⟨rfl, 1,by rw [a3g (q:=b7P) (N:=NN) (by kernel_rfl) 0]; exact a3k.pure (t61 _ _ z)⟩
theorem d9w:a0f Tryz.prog Q6 (W9 mL) 54 (X1 .i64 (fun z=>some (.bool (a2X z)))):=a6v a2E a0O L0 Tryz.func54 (by kernel_rfl) rfl fun z v h=>by
 cases h
 exact ⟨rfl, 1,by rw [a3g (q:=b6M) (N:=NN) (by kernel_rfl) 0]; exact a3k.pure (t54 _ _ z)⟩
theorem d2o:a0f Tryz.prog Q6 (W9 mL) 40 (X1 .i64 (fun z=>some (.string ⟨⟨a2k z⟩⟩))):=a6v a2E a0O L0 Tryz.func40 (by kernel_rfl) rfl fun z v h=>by
 cases h
 exact ⟨rfl, 1,by rw [a3g (q:=b8s) (N:=NN) (by kernel_rfl) 0]; exact a3k.pure (t40 _ _ z)⟩
theorem d2G:a0f Tryz.prog Q6 (W9 mL) 43 (X1 .i64 (fun z=>some (.string ⟨⟨bcase (decide (z=3)) [102, 117, 110, 99] [101, 120, 116, 101, 114, 110]⟩⟩))):=a6v a2E a0O L0 Tryz.func43 (by kernel_rfl) rfl fun z v h=>by
 cases h
 exact ⟨rfl, 1,by rw [a3g (q:=b7Q) (N:=NN) (by kernel_rfl) 0]; exact a3k.pure (t43 _ _ z)⟩
theorem c5R {z:Int} {v:Value} (h:q25 z=some v):∃ m:Nat,z=.ofNat m ∧ m < 18446744073709551616 ∧ v=.string ⟨⟨Lib.decDigits m⟩⟩:=by
 unfold q25 at h
 split at h
 · rename_i m
   obtain ⟨h1,rfl⟩:=a3d h
   exact ⟨m,rfl,by simpa [Nat.blt_eq] using h1,rfl⟩
 · cases h
theorem c2P (m:Nat) (h:m < 18446744073709551616):q25 (.ofNat m)=some (.string ⟨⟨Lib.decDigits m⟩⟩):=by
 show bcase (Nat.blt m 18446744073709551616) _ none=_
 rw [I5 h]; rfl
theorem d5y:a0f Tryz.prog Q6 (W9 mL) 25 (X1 .u64 q25):=a6v a2E a0O L0 Tryz.func25 (by kernel_rfl) rfl fun z v h=>by
 obtain ⟨m,rfl,hm,rfl⟩:=c5R h
 exact ⟨rfl, 20,a3k.pure (t25 NN b0C (by kernel_rfl) 19 m (by omega) hm)⟩
noncomputable def e1:Nat → Option (List Value → M Value):=(a0H (a0H (a0H (a0H (a0H (a0H (a0H (a0H (a0H (a0H (a0H (a0H (a0H a0W 127 (a9Z (a4a a0E) 125 3)) 35 (X1 .i64 (fun z=>some (.string ⟨⟨V7 z⟩⟩)))) 37 (fun bs=>M.lift (b1B bs))) 95 (fun bs=>M.lift (a9R bs))) 126 (fun bs=>M.lift (a5S bs))) 25 (X1 .u64 q25)) 86 (X1 .i64 (fun z=>some (.bool (idxB z))))) 59 (X1 .i64 (fun z=>some (.bool (idxB z))))) 88 (X1 .i64 (fun z=>some (.bool (a2X z))))) 61 (X1 .i64 (fun z=>some (.bool (a2X z))))) 54 (X1 .i64 (fun z=>some (.bool (a2X z))))) 40 (X1 .i64 (fun z=>some (.string ⟨⟨a2k z⟩⟩)))) 43 (X1 .i64 (fun z=>some (.string ⟨⟨bcase (decide (z=3)) [102, 117, 110, 99] [101, 120, 116, 101, 114, 110]⟩⟩))))
noncomputable def s1:a2i:=(a2h (a2h (a2h (a2h (a2h (a2h (a2h (a2h (a2h (a2h (a2h (a2h (a2h b0C 127 (a9Z (a4a a0E) 125 3)) 35 (X1 .i64 (fun z=>some (.string ⟨⟨V7 z⟩⟩)))) 37 (fun bs=>M.lift (b1B bs))) 95 (fun bs=>M.lift (a9R bs))) 126 (fun bs=>M.lift (a5S bs))) 25 (X1 .u64 q25)) 86 (X1 .i64 (fun z=>some (.bool (idxB z))))) 59 (X1 .i64 (fun z=>some (.bool (idxB z))))) 88 (X1 .i64 (fun z=>some (.bool (a2X z))))) 61 (X1 .i64 (fun z=>some (.bool (a2X z))))) 54 (X1 .i64 (fun z=>some (.bool (a2X z))))) 40 (X1 .i64 (fun z=>some (.string ⟨⟨a2k z⟩⟩)))) 43 (X1 .i64 (fun z=>some (.string ⟨⟨bcase (decide (z=3)) [102, 117, 110, 99] [101, 120, 116, 101, 114, 110]⟩⟩))))
theorem L1:Shelf' Tryz.prog Q6 (W9 mL) NN e1 s1:=(((((((((((((L0.add c3N).add d1S).add c3D).add b9X).add b9b).add d5y).add d9e).add d4z).add d5C).add d6v).add d9w).add d2o).add d2G)
end Go.Proofs.YtmomonnlmbljoaaGreatDoor
end
section
namespace Go.Proofs.YtmomonnlmbljoaaGreatDoor
open Go.V Go.RowKit Go.Shelf Go.Proofs
set_option maxRecDepth 1000000
attribute [local congr] a0b Z9 a0A a0B a0M
variable {mL:Int}
theorem d4W (n:Nat) (z:Int):J9 s1 (n + 1) 35 [.int .i64 z]=M.pure (.ret (.string ⟨⟨V7 z⟩⟩)):=a2P (q:=fun z=>some (.string ⟨⟨V7 z⟩⟩)) (by kernel_rfl) n rfl
theorem d2T (n:Nat) (z:Int):J9 s1 (n + 1) 86 [.int .i64 z]=M.pure (.ret (.bool (idxB z))):=a2P (q:=fun z=>some (.bool (idxB z))) (by kernel_rfl) n rfl
theorem d8C (n:Nat) (z:Int):J9 s1 (n + 1) 59 [.int .i64 z]=M.pure (.ret (.bool (idxB z))):=a2P (q:=fun z=>some (.bool (idxB z))) (by kernel_rfl) n rfl
theorem d2M (n:Nat) (z:Int):J9 s1 (n + 1) 88 [.int .i64 z]=M.pure (.ret (.bool (a2X z))):=a2P (q:=fun z=>some (.bool (a2X z))) (by kernel_rfl) n rfl
theorem d4x (n:Nat) (z:Int):J9 s1 (n + 1) 61 [.int .i64 z]=M.pure (.ret (.bool (a2X z))):=a2P (q:=fun z=>some (.bool (a2X z))) (by kernel_rfl) n rfl
theorem d2K (n:Nat) (z:Int):J9 s1 (n + 1) 54 [.int .i64 z]=M.pure (.ret (.bool (a2X z))):=a2P (q:=fun z=>some (.bool (a2X z))) (by kernel_rfl) n rfl
theorem c0y (n:Nat) (m:Nat) (h:m < 18446744073709551616):J9 s1 (n + 1) 25 [.int .u64 (.ofNat m)]=M.pure (.ret (.string ⟨⟨Lib.decDigits m⟩⟩)):=a2P (q:=q25) (by kernel_rfl) n (c2P m h)
theorem c4S (n:Nat) (z:Int) (h1:-9223372036854775808 ≤ z) (h2:z ≤ 9223372036854775807):J9 s1 (n + 1) 95 [.int .i64 z,.int .i64 (.ofNat 10)]=M.pure (.ret (.string ⟨⟨Lib.itoa z⟩⟩)):=by
 refine a5P s1 n 95 _ (g:=a9R) (by kernel_rfl) ?_
 show bcase (decide (-9223372036854775808 ≤ z) && decide (z ≤ 9223372036854775807)) _ none=_
 rw [decide_eq_true h1,decide_eq_true h2]; rfl
theorem d0q (n:Nat) (m:Nat) (h:m < 18446744073709551616):J9 s1 (n + 1) 126 [.int .u64 (.ofNat m),.int .i64 (.ofNat 10)]=M.pure (.ret (.string ⟨⟨Lib.decDigits m⟩⟩)):=by
 refine a5P s1 n 126 _ (g:=a5S) (by kernel_rfl) ?_
 show bcase (Nat.blt m 18446744073709551616) _ none=_
 rw [I5 h]; rfl
theorem d0y (n c:Nat) (h:Trie VObj) (r w:List Nat):go (J9 s1 (n + 1) 127 []) ⟨c,h,r,w⟩=some (.ret (.slice (some ⟨c, 0,some 0⟩) 125 3),⟨c + 1,upd h c (.cells (a2m (fun v=>(v, 0)) (a4a a0E)) 0 false),r,c :: w⟩):=by
 rw [a8x s1 n 127 [] (g:=a9Z (a4a a0E) 125 3) (by kernel_rfl),K6]
 have e:go (a9Z (a4a a0E) 125 3 []) ⟨c,h,r,w⟩=some (.slice (some ⟨c, 0,some 0⟩) 125 3,⟨c + 1,upd h c (.cells (a2m (fun v=>(v, 0)) (a4a a0E)) 0 false),r,c :: w⟩):=by
  show go (M.bind (a2q (a4a a0E)) fun a=>M.pure (Value.slice (some a) 125 3)) ⟨c,h,r,w⟩=_
  rw [K6,a6r c h r w _ (by kernel_rfl)]
  rfl
 rw [e]
 rfl
theorem d8p:a0f Tryz.prog Q6 (W9 mL) 97 (X1 .i64 fun z=>some (a7n (a0X z a0E))):=a6v a2E a0O L1 Tryz.func97 (by kernel_rfl) rfl fun z v h=>by
 cases h
 refine ⟨?_, 2, ?_⟩
 · cases a0X z a0E <;> rfl
 · rw [a3g (q:=b8t) (N:=NN) (by kernel_rfl) 1]
   exact fun c h r w=>t97 NN (by decide) _ (d0y 0) z c h r w
theorem d6t:a0f Tryz.prog Q6 (W9 mL) 93 (fun bs=>M.lift (a5S bs)):=a8E a2E a0O L1.e (L1 (mL:=mL)).s Tryz.func93 (by kernel_rfl) rfl fun bs v h=>by
 unfold a5S at h
 split at h
 · rename_i u
   obtain ⟨h1,rfl⟩:=a3d h
   refine ⟨rfl,fun c h r w=>⟨2, ?_⟩⟩
   rw [a9y (q:=c0n) (N:=NN) (by kernel_rfl) 1]
   have e:J9 s1 1 126 [.int .u64 (.ofNat u),.int .i64 (.ofNat 10)]=_:=d0q 0 u (by simpa [Nat.blt_eq] using h1)
   have e':(Value.int IntKind.i64 10)=.int .i64 (.ofNat 10):=rfl
   simp only [c0n,e',e,V6,M0,J8,V.d9Z]
   exact I6.done ⟨rfl,fun _ _=>rfl⟩
 · cases h
theorem d8e:a0f Tryz.prog Q6 (W9 mL) 50 (X1 .i64 fun z=>some (.string ⟨⟨a2k z⟩⟩)):=a6v a2E a0O L1 Tryz.func50 (by kernel_rfl) rfl fun z v h=>by
 cases h
 exact ⟨rfl, 2,by rw [a3g (q:=b5W) (N:=NN) (by kernel_rfl) 1]; exact t50 _ _ (d2K 0) z⟩
theorem d3Z:a0f Tryz.prog Q6 (W9 mL) 85 (X1 .i64 fun z=>some (.bool (a2V z))):=a6v a2E a0O L1 Tryz.func85 (by kernel_rfl) rfl fun z v h=>by
 cases h
 exact ⟨rfl, 2,by rw [a3g (q:=b6Z) (N:=NN) (by kernel_rfl) 1]; exact a3k.pure (t85 _ _ (d4W 0) z)⟩
theorem c7m {z:Int} {v:Value} (h:q47 z=some v):∃ m:Nat,z=.ofNat m ∧ m < 18446744073709551616 ∧ v=.string ⟨⟨Z8 m⟩⟩:=by
 unfold q47 at h
 split at h
 · rename_i m
   obtain ⟨h1,rfl⟩:=a3d h
   exact ⟨m,rfl,by simpa [Nat.blt_eq] using h1,rfl⟩
 · cases h
theorem b6T (m:Nat) (h:m < 18446744073709551616):q47 (.ofNat m)=some (.string ⟨⟨Z8 m⟩⟩):=by
 show bcase (Nat.blt m 18446744073709551616) _ none=_
 rw [I5 h]; rfl
theorem d4L:a0f Tryz.prog Q6 (W9 mL) 47 (X1 .i64 q47):=a6v a2E a0O L1 Tryz.func47 (by kernel_rfl) rfl fun z v h=>by
 obtain ⟨m,rfl,hm,rfl⟩:=c7m h
 exact ⟨rfl, 2,by rw [a3g (q:=b7D) (N:=NN) (by kernel_rfl) 1]; exact a3k.pure (t47 _ _ m hm (c0y 0))⟩
theorem b4r {z w:Int} {v:Value} (h:a6l z w=some v):∃ n:Nat,z=.ofNat n ∧ ((w=.ofNat 32 ∧ n < 4294967296 ∧ v=.string ⟨⟨Lib.itoa (sgn 32 n)⟩⟩) ∨ (w=.ofNat 64 ∧ n < 18446744073709551616 ∧ v=.string ⟨⟨Lib.itoa (sgn 64 n)⟩⟩)):=by
 unfold a6l at h
 split at h
 · rename_i n
   split at h
   · rename_i w
     obtain ⟨h1,rfl⟩:=a3d h
     rw [Bool.or_eq_true,Bool.and_eq_true,Bool.and_eq_true] at h1
     refine ⟨n,rfl, ?_⟩
     rcases h1 with ⟨a,b⟩ | ⟨a,b⟩
     · obtain rfl:=Nat.eq_of_beq_eq_true a
       exact Or.inl ⟨rfl,by simpa [Nat.blt_eq] using b,rfl⟩
     · obtain rfl:=Nat.eq_of_beq_eq_true a
       exact Or.inr ⟨rfl,by simpa [Nat.blt_eq] using b,rfl⟩
   · cases h
 · cases h
theorem b7X (n:Nat) (h:n < 4294967296):a6l (.ofNat n) (.ofNat 32)=some (.string ⟨⟨Lib.itoa (sgn 32 n)⟩⟩):=by
 show bcase ((Nat.beq 32 32 && Nat.blt n 4294967296) || (Nat.beq 32 64 && Nat.blt n 18446744073709551616)) _ none=_
 rw [I5 h]; rfl
theorem b2E (n:Nat) (h:n < 18446744073709551616):a6l (.ofNat n) (.ofNat 64)=some (.string ⟨⟨Lib.itoa (sgn 64 n)⟩⟩):=by
 show bcase ((Nat.beq 64 32 && Nat.blt n 4294967296) || (Nat.beq 64 64 && Nat.blt n 18446744073709551616)) _ none=_
 rw [I5 h]; rfl
theorem d2L:a0f Tryz.prog Q6 (W9 mL) 42 (X2 .u64 .i64 a6l):=c3M a2E a0O L1 Tryz.func42 (by kernel_rfl) rfl fun z w v h=>by
 obtain ⟨n,rfl,⟨rfl,hn,rfl⟩ | ⟨rfl,hn,rfl⟩⟩:=b4r h
 · exact ⟨rfl, 2,by rw [a9y (q:=b1i) (N:=NN) (by kernel_rfl) 1]; exact a3k.pure (d0A _ _ n hn (c4S 0))⟩
 · exact ⟨rfl, 2,by rw [a9y (q:=b1i) (N:=NN) (by kernel_rfl) 1]; exact a3k.pure (c9U _ _ n hn (c4S 0))⟩
theorem d6f:a0f Tryz.prog Q6 (W9 mL) 53 (X2 .u64 .i64 a6l):=c3M a2E a0O L1 Tryz.func53 (by kernel_rfl) rfl fun z w v h=>by
 obtain ⟨n,rfl,⟨rfl,hn,rfl⟩ | ⟨rfl,hn,rfl⟩⟩:=b4r h
 · exact ⟨rfl, 2,by rw [a9y (q:=a9C) (N:=NN) (by kernel_rfl) 1]; exact a3k.pure (d0E _ _ n hn (c0y 0))⟩
 · exact ⟨rfl, 2,by rw [a9y (q:=a9C) (N:=NN) (by kernel_rfl) 1]; exact a3k.pure (c8v _ _ n hn (c0y 0))⟩
noncomputable def onB (q:Int → Int → Int → Option Value) (bs:List Value):Option Value:=match bs with
 | [.agg ⟨[.int .i64 a,.int .i64 b,.int .i64 d]⟩]=>q a b d
 | _=>none
theorem c6B {q:Int → Int → Int → Option Value} {bs:List Value} {v:Value} (h:onB q bs=some v):∃ a b d,bs=[.agg ⟨[.int .i64 a,.int .i64 b,.int .i64 d]⟩] ∧ q a b d=some v:=by
 unfold onB at h
 split at h
 · exact ⟨_,_,_,rfl,h⟩
 · cases h
noncomputable def XB (q:Int → Int → Int → Option Value):List Value → M Value:=fun bs=>M.lift (onB q bs)
theorem b1L {sh:a2i} {f:Nat} {q:Int → Int → Int → Option Value} (h:sh.get f=some (arX (XB q))) (m:Nat) {a b d:Int} {v:Value} (e:q a b d=some v):J9 sh (m + 1) f [.agg ⟨[.int .i64 a,.int .i64 b,.int .i64 d]⟩]=M.pure (.ret v):=
 a5P sh m f _ h e
theorem c1n {ext:Nat → Option (List Value → M Value)} {sh:a2i} (L:Shelf' Tryz.prog Q6 (W9 mL) NN ext sh) {f:Nat} {fn:Func} {cd:Code} (hPf:Tryz.prog.funcs[f]?=some fn) (hnum:(fn.name == "runtime.NumGoroutine")=false) (hb:fn.body=some cd)
 {q:Int → Int → Int → Option Value} (h:∀ a b d v,q a b d=some v → a0y 8 v=true ∧ ∃ m,a3k (J9 sh m f [.agg ⟨[.int .i64 a,.int .i64 b,.int .i64 d]⟩]) v):a0f Tryz.prog Q6 (W9 mL) f (XB q):=
 a8E a2E a0O L.e L.s hPf hnum hb fun bs v hq=>by
  obtain ⟨a,b,d,rfl,e⟩:=c6B hq
  obtain ⟨h1,m,h2⟩:=h a b d v e
  exact ⟨h1,fun c h r w=>⟨m,h2 c h r w⟩⟩
theorem d6Y:a0f Tryz.prog Q6 (W9 mL) 87 (XB fun a b d=>some (.bool (a5c a b d))):=c1n L1 Tryz.func87 (by kernel_rfl) rfl fun a b d v h=>by
 cases h
 exact ⟨rfl, 2,by rw [a3g (q:=b6t) (N:=NN) (by kernel_rfl) 1]; exact t87 _ _ (d2T 0) (d2M 0) a b d⟩
theorem d2q:a0f Tryz.prog Q6 (W9 mL) 58 (XB fun a b d=>some (.bool (a5c a b d))):=c1n L1 Tryz.func58 (by kernel_rfl) rfl fun a b d v h=>by
 cases h
 exact ⟨rfl, 2,by rw [a3g (q:=b8r) (N:=NN) (by kernel_rfl) 1]; exact t58 _ _ (d8C 0) (d4x 0) a b d⟩
noncomputable def e2:Nat → Option (List Value → M Value):=(a0H (a0H (a0H (a0H (a0H (a0H (a0H (a0H (a0H e1 97 (X1 .i64 fun z=>some (a7n (a0X z a0E)))) 93 (fun bs=>M.lift (a5S bs))) 50 (X1 .i64 fun z=>some (.string ⟨⟨a2k z⟩⟩))) 85 (X1 .i64 fun z=>some (.bool (a2V z)))) 47 (X1 .i64 q47)) 42 (X2 .u64 .i64 a6l)) 53 (X2 .u64 .i64 a6l)) 87 (XB fun a b d=>some (.bool (a5c a b d)))) 58 (XB fun a b d=>some (.bool (a5c a b d))))
noncomputable def s2:a2i:=(a2h (a2h (a2h (a2h (a2h (a2h (a2h (a2h (a2h s1 97 (X1 .i64 fun z=>some (a7n (a0X z a0E)))) 93 (fun bs=>M.lift (a5S bs))) 50 (X1 .i64 fun z=>some (.string ⟨⟨a2k z⟩⟩))) 85 (X1 .i64 fun z=>some (.bool (a2V z)))) 47 (X1 .i64 q47)) 42 (X2 .u64 .i64 a6l)) 53 (X2 .u64 .i64 a6l)) 87 (XB fun a b d=>some (.bool (a5c a b d)))) 58 (XB fun a b d=>some (.bool (a5c a b d))))
theorem L2:Shelf' Tryz.prog Q6 (W9 mL) NN e2 s2:=(((((((((L1.add d8p).add d6t).add d8e).add d3Z).add d4L).add d2L).add d6f).add d6Y).add d2q)
end Go.Proofs.YtmomonnlmbljoaaGreatDoor
end
section
namespace Go.Proofs.YtmomonnlmbljoaaGreatDoor
open Go.V Go.RowKit Go.Shelf Go.Proofs
set_option maxRecDepth 1000000
attribute [local congr] a0b Z9 a0A a0B a0M
variable {mL:Int}
theorem b9W (n:Nat) (z:Int):J9 s2 (n + 1) 97 [.int .i64 z]=M.pure (.ret (a7n (a0X z a0E))):=a2P (q:=fun z=>some (a7n (a0X z a0E))) (by kernel_rfl) n rfl
theorem d1X (n:Nat) (z:Int):J9 s2 (n + 1) 85 [.int .i64 z]=M.pure (.ret (.bool (a2V z))):=a2P (q:=fun z=>some (.bool (a2V z))) (by kernel_rfl) n rfl
theorem c5j (n:Nat) (m:Nat) (h:m < 18446744073709551616):J9 s2 (n + 1) 47 [.int .i64 (.ofNat m)]=M.pure (.ret (.string ⟨⟨Z8 m⟩⟩)):=a2P (q:=q47) (by kernel_rfl) n (b6T m h)
theorem d3E (n:Nat) (m:Nat) (h:m < 18446744073709551616):J9 s2 (n + 1) 53 [.int .u64 (.ofNat m),.int .i64 (.ofNat 64)]=M.pure (.ret (.string ⟨⟨Lib.itoa (sgn 64 m)⟩⟩)):=a0D (q:=a6l) (by kernel_rfl) n (b2E m h)
theorem d5X (n:Nat) (z:Int):J9 s2 (n + 1) 40 [.int .i64 z]=M.pure (.ret (.string ⟨⟨a2k z⟩⟩)):=a2P (q:=fun z=>some (.string ⟨⟨a2k z⟩⟩)) (by kernel_rfl) n rfl
theorem d7G (n:Nat) (z:Int) (h1:-9223372036854775808 ≤ z) (h2:z ≤ 9223372036854775807):J9 s2 (n + 1) 37 [.int .i64 z]=M.pure (.ret (.string ⟨⟨Lib.itoa z⟩⟩)):=by
 refine a5P s2 n 37 _ (g:=b1B) (by kernel_rfl) ?_
 show bcase (decide (-9223372036854775808 ≤ z) && decide (z ≤ 9223372036854775807)) _ none=_
 rw [decide_eq_true h1,decide_eq_true h2]; rfl
theorem d2Q:a0f Tryz.prog Q6 (W9 mL) 45 (X1 .i64 fun z=>some (.string ⟨⟨V7 z⟩⟩)):=a6v a2E a0O L2 Tryz.func45 (by kernel_rfl) rfl fun z v h=>by
 cases h
 exact ⟨rfl, 2,by rw [a3g (q:=b4i) (N:=NN) (by kernel_rfl) 1]; exact t45 _ _ (b9W 0) z⟩
theorem d4q:a0f Tryz.prog Q6 (W9 mL) 46 (X1 .i64 fun z=>some (.int .i64 (.ofNat (a0K z)))):=a6v a2E a0O L2 Tryz.func46 (by kernel_rfl) rfl fun z v h=>by
 cases h
 exact ⟨rfl, 2,by rw [a3g (q:=b3O) (N:=NN) (by kernel_rfl) 1]; exact t46 _ _ (b9W 0) z⟩
theorem d7a:a0f Tryz.prog Q6 (W9 mL) 57 (X1 .i64 fun z=>some (.bool (a2V z))):=a6v a2E a0O L2 Tryz.func57 (by kernel_rfl) rfl fun z v h=>by
 cases h
 exact ⟨rfl, 2,by rw [a3g (q:=b4b) (N:=NN) (by kernel_rfl) 1]; exact t57 _ _ (b9W 0) z⟩
noncomputable def q55 (z:Int):Option Value:=bcase (decide (-9223372036854775808 ≤ z) && decide (z ≤ 9223372036854775807)) (some (.string ⟨⟨Lib.itoa z⟩⟩)) none
theorem c6O {z:Int} {v:Value} (h:q55 z=some v):-9223372036854775808 ≤ z ∧ z ≤ 9223372036854775807 ∧ v=.string ⟨⟨Lib.itoa z⟩⟩:=by
 obtain ⟨h1,rfl⟩:=a3d h
 simp only [Bool.and_eq_true,decide_eq_true_eq] at h1
 exact ⟨h1.1,h1.2,rfl⟩
theorem c8u (z:Int) (h1:-9223372036854775808 ≤ z) (h2:z ≤ 9223372036854775807):q55 z=some (.string ⟨⟨Lib.itoa z⟩⟩):=by
 unfold q55; rw [decide_eq_true h1,decide_eq_true h2]; rfl
theorem d6q:a0f Tryz.prog Q6 (W9 mL) 55 (X1 .i64 q55):=a6v a2E a0O L2 Tryz.func55 (by kernel_rfl) rfl fun z v h=>by
 obtain ⟨h1,h2,rfl⟩:=c6O h
 exact ⟨rfl, 2,by rw [a3g (q:=b7E) (N:=NN) (by kernel_rfl) 1]; exact a3k.pure (t55 _ _ z h1 h2 (d3E 0))⟩
theorem c7d {z:Int} {v:Value} (h:q49 z=some v):∃ m:Nat,z=.ofNat m ∧ m < 18446744073709551616 ∧ v=.string ⟨⟨a0V m⟩⟩:=by
 unfold q49 at h
 split at h
 · rename_i m
   obtain ⟨h1,rfl⟩:=a3d h
   exact ⟨m,rfl,by simpa [Nat.blt_eq] using h1,rfl⟩
 · cases h
theorem c1v (m:Nat) (h:m < 18446744073709551616):q49 (.ofNat m)=some (.string ⟨⟨a0V m⟩⟩):=by
 show bcase (Nat.blt m 18446744073709551616) _ none=_
 rw [I5 h]; rfl
theorem d6b:a0f Tryz.prog Q6 (W9 mL) 49 (X1 .i64 q49):=a6v a2E a0O L2 Tryz.func49 (by kernel_rfl) rfl fun z v h=>by
 obtain ⟨m,rfl,hm,rfl⟩:=c7d h
 exact ⟨rfl, 2,by rw [a3g (q:=b6i) (N:=NN) (by kernel_rfl) 1]; exact a3k.pure (t49 _ _ m hm (c5j 0))⟩
theorem c5Z {z w:Int} {v:Value} (h:q51 z w=some v):∃ m n:Nat,z=.ofNat m ∧ w=.ofNat n ∧ m < 18446744073709551616 ∧ n < 18446744073709551616 ∧ v=.string ⟨⟨a4L m n⟩⟩:=by
 unfold q51 at h
 split at h
 · rename_i m
   split at h
   · rename_i n
     obtain ⟨h1,rfl⟩:=a3d h
     rw [Bool.and_eq_true] at h1
     exact ⟨m,n,rfl,rfl,by simpa [Nat.blt_eq] using h1.1,by simpa [Nat.blt_eq] using h1.2,rfl⟩
   · cases h
 · cases h
theorem c9v (m n:Nat) (h:m < 18446744073709551616) (h':n < 18446744073709551616):q51 (.ofNat m) (.ofNat n)=some (.string ⟨⟨a4L m n⟩⟩):=by
 show bcase (Nat.blt m 18446744073709551616 && Nat.blt n 18446744073709551616) _ none=_
 rw [I5 h,I5 h']; rfl
theorem d7t:a0f Tryz.prog Q6 (W9 mL) 51 (X2 .i64 .i64 q51):=c3M a2E a0O L2 Tryz.func51 (by kernel_rfl) rfl fun z w v h=>by
 obtain ⟨m,n,rfl,rfl,hm,hn,rfl⟩:=c5Z h
 exact ⟨rfl, 2,by rw [a9y (q:=b6w) (N:=NN) (by kernel_rfl) 1]; exact a3k.pure (t51 _ _ m n hm hn (c5j 0))⟩
noncomputable def a7Z (k v i:Int):Option Value:=bcase (decide (-9223372036854775808 ≤ i) && decide (i ≤ 9223372036854775807)) (some (.string ⟨⟨a5J k v i⟩⟩)) none
theorem b7y {k v i:Int} {x:Value} (h:a7Z k v i=some x):-9223372036854775808 ≤ i ∧ i ≤ 9223372036854775807 ∧ x=.string ⟨⟨a5J k v i⟩⟩:=by
 obtain ⟨h1,rfl⟩:=a3d h
 simp only [Bool.and_eq_true,decide_eq_true_eq] at h1
 exact ⟨h1.1,h1.2,rfl⟩
theorem b1G (k v i:Int) (h1:-9223372036854775808 ≤ i) (h2:i ≤ 9223372036854775807):a7Z k v i=some (.string ⟨⟨a5J k v i⟩⟩):=by
 unfold a7Z; rw [decide_eq_true h1,decide_eq_true h2]; rfl
theorem d3H:a0f Tryz.prog Q6 (W9 mL) 14 (XB a7Z):=c1n L2 Tryz.func14 (by kernel_rfl) rfl fun k v i x h=>by
 obtain ⟨h1,h2,rfl⟩:=b7y h
 exact ⟨rfl, 2,by rw [a3g (q:=b7i) (N:=NN) (by kernel_rfl) 1]; exact t14 _ _ (d5X 0) k v i h1 h2 (d7G 0 i h1 h2)⟩
noncomputable def c5y (k:Nat):Bool:=!(a0N (fun r:a5r=>!(Nat.beq r.1 k)) a0E)
theorem unk {z:Int} (hu:a0X z a0E=none) (k:Nat) (hk:c5y k=true):decide (z=Int.ofNat k)=false:=by
 rw [decide_eq_false_iff_not]
 intro e
 have:a0N (fun r:a5r=>!(Nat.beq r.1 k)) a0E=true:=by
  rw [a1a]
  intro r hr
  have:=b7a z a0E hu r hr
  rw [e] at this
  have hne:r.1 ≠ k:=fun q=>this (by rw [q])
  rw [a9p hne]; rfl
 unfold c5y at hk
 rw [this] at hk
 cases hk
theorem c2v {z:Int} (hu:a0X z a0E=none):a2V z=false:=by unfold a2V; rw [hu]
theorem c9u (N:Nat) (call:j5) (z:Int) (h85:call 85 [.int .i64 z]=M.pure (.ret (.bool false))):b2M G8 N call (.int .i64 z)=M.pure (.ret (.bool false)):=by
 simp only [b2M,c1K,h85,bn,U6,a0d,V6,J8,a5g,a3n,a4k,a4m,l_0,l_s,a5G,L9,V.d9Z,a8d,a6H,Bool.and_false]
theorem d4H (N:Nat) (call:j5) (z:Int) (h:call 124 [.int .i64 z]=M.pure (.ret (.bool false))):b6F G8 N call (.int .i64 z)=M.pure (.ret (.int .i64 (.ofNat 0))):=by
 simp only [b6F,c5b,c5g,h,bn,un,U6,a0d,V6,a2F,J8,K4,P5,V.d9Z,U3,Bool.not_false]
theorem d5s (N:Nat) (call:j5) (z:Int) (hu:a0X z a0E=none):b6L G8 N call (.int .i64 z)=M.pure (.ret (.int .i64 (.ofNat 0))):=by
 simp only [b6L,c4R,c4E,c5z,c5E,c4A,c5s,c5h,c5L,c5f,c5C,c2O,unk hu 37 (by kernel_rfl),unk hu 38 (by kernel_rfl),unk hu 63 (by kernel_rfl),unk hu 64 (by kernel_rfl),unk hu 64520 (by kernel_rfl),unk hu 64521 (by kernel_rfl),unk hu 64522 (by kernel_rfl),unk hu 64523 (by kernel_rfl),unk hu 64524 (by kernel_rfl),unk hu 64525 (by kernel_rfl),unk hu 64526 (by kernel_rfl),unk hu 64527 (by kernel_rfl),unk hu 64528 (by kernel_rfl),unk hu 64529 (by kernel_rfl),bn,U6,a0d,J4,l_0,l_s,P5,L9,V.d9Z,Q7]
theorem d4v (N:Nat) (call:j5) (z:Int) (hu:a0X z a0E=none) (h91:call 91 [.int .i64 z]=M.pure (.ret (.int .i64 (.ofNat 0)))) (h92:call 92 [.int .i64 z]=M.pure (.ret (.int .i64 (.ofNat 0)))):b7k G8 N call (.int .i64 z)=M.pure (.ret (.int .i64 (.ofNat 0))):=by
 have e:decide (Int.ofNat 0 < Int.ofNat 0)=false:=by decide
 simp only [b7k,c5N,c4C,c4Z,c5B,c5r,c4M,c4B,c5K,c5O,c5u,c2k,c2m,c1t,unk hu 2 (by kernel_rfl),unk hu 3 (by kernel_rfl),unk hu 4 (by kernel_rfl),unk hu 12 (by kernel_rfl),unk hu 13 (by kernel_rfl),unk hu 14 (by kernel_rfl),unk hu 16 (by kernel_rfl),unk hu 17 (by kernel_rfl),unk hu 28 (by kernel_rfl),unk hu 32 (by kernel_rfl),unk hu 33 (by kernel_rfl),unk hu 34 (by kernel_rfl),unk hu 35 (by kernel_rfl),unk hu 36 (by kernel_rfl),unk hu 65 (by kernel_rfl),unk hu 66 (by kernel_rfl),unk hu 208 (by kernel_rfl),unk hu 210 (by kernel_rfl),h91,h92,e,bn,U6,a0d,V6,J8,J4,l_0,l_s,P5,L9,V.d9Z,Q7,a5i]
theorem c9e (mL:Int):a0N (fun r:a5r=>b1m (J9 b0C 400 39 [.int .i64 (.ofNat r.1)] (Go.V.a5f (W9 mL))) r.2.2) a0E=true:=by kernel_rfl
theorem c7S:a0f Tryz.prog Q6 (W9 mL) 39 (X1 .i64 fun z=>bcase (a2V z) (some (.int .i64 (.ofNat (a0K z)))) none):=b1C fun z v h=>by
 obtain ⟨h1,rfl⟩:=a3d h
 unfold a2V at h1
 unfold a0K
 cases hf:a0X z a0E with
 | none=>rw [hf] at h1; cases h1
 | some r=>
   obtain ⟨hm,rfl⟩:=a7b z a0E r hf
   obtain ⟨s,hr⟩:=b0s ((a1a _ _).1 (c9e mL) r hm)
   exact ⟨rfl,a9w a2E a0O a8N a6e a9E c0d Tryz.func39 (by kernel_rfl) rfl rfl rfl hr⟩
theorem c8i:a0f Tryz.prog Q6 (W9 mL) 39 (X1 .i64 fun z=>bcase (!(a2V z)) (some (.int .i64 (.ofNat (a0K z)))) none):=a6v a2E a0O L2 Tryz.func39 (by kernel_rfl) rfl fun z v h=>by
 obtain ⟨h1,rfl⟩:=a3d h
 refine ⟨rfl, 4, ?_⟩
 unfold a2V at h1
 cases hf:a0X z a0E with
 | some r=>rw [hf] at h1; cases h1
 | none=>
   rw [show a0K z=0 by unfold a0K; rw [hf],a3g (q:=b7k) (N:=NN) (by kernel_rfl) 3]
   refine a3k.pure (d4v _ _ z hf ?_ ?_)
   · rw [a3g (q:=b6F) (N:=NN) (by kernel_rfl) 2]
     refine d4H _ _ z ?_
     rw [a3g (q:=b2M) (N:=NN) (by kernel_rfl) 1]
     refine c9u _ _ z ?_
     rw [d1X 0,c2v hf]
   · rw [a3g (q:=b6L) (N:=NN) (by kernel_rfl) 2]
     exact d5s _ _ z hf
theorem d3k:a0f Tryz.prog Q6 (W9 mL) 39 (X1 .i64 fun z=>some (.int .i64 (.ofNat (a0K z)))):=c7l c7S c8i fun z v h=>by
 cases hk:a2V z with
 | true=>exact Or.inl h
 | false=>exact Or.inr h
noncomputable def a4O:List (Nat × Nat):=[(40, 2),(41, 3),(44, 0),(45, 0),(46, 1),(47, 1),(48, 0),(49, 0),(50, 1),(51, 1),(52, 2),(53, 2),(54, 2),(55, 3),(58, 0),(59, 1),(60, 0),(61, 1),(62, 2)]
noncomputable def a4G (l:List (Nat × Nat)) (z:Int):Option Nat:=List.rec (motive:=fun _=>Option Nat) none (fun x _ ih=>bcase (decide (z=Int.ofNat x.1)) (some x.2) ih) l
theorem b2b (z:Int):∀ (l:List (Nat × Nat)) (a:Nat),a4G l z=some a → ∃ x ∈ l,z=Int.ofNat x.1 ∧ a=x.2:=by
 intro l
 induction l with
 | nil=>intro a h; cases h
 | cons q l ih=>
   intro a h
   have h':bcase (decide (z=Int.ofNat q.1)) (some q.2) (a4G l z)=some a:=h
   by_cases hq:z=Int.ofNat q.1
   · rw [decide_eq_true hq] at h'
     cases h'
     exact ⟨q,List.mem_cons_self,hq,rfl⟩
   · rw [decide_eq_false hq] at h'
     obtain ⟨x,h1,h2⟩:=ih a h'
     exact ⟨x,List.mem_cons_of_mem _ h1,h2⟩
noncomputable def a6p (z:Int):Option Value:=match a4G a4O z with
 | some a=>some (.int .i64 (.ofNat a))
 | none=>none
theorem c2z (mL:Int):a0N (fun x:Nat × Nat=>b1m (J9 b0C 400 94 [.int .i64 (.ofNat x.1)] (Go.V.a5f (W9 mL))) x.2) a4O=true:=by kernel_rfl
theorem d2m:a0f Tryz.prog Q6 (W9 mL) 94 (X1 .i64 a6p):=b1C fun z v h=>by
 unfold a6p at h
 split at h
 · rename_i a ha
   cases h
   obtain ⟨x,hm,rfl,rfl⟩:=b2b z a4O a ha
   obtain ⟨s,hr⟩:=b0s ((a1a _ _).1 (c2z mL) x hm)
   exact ⟨rfl,a9w a2E a0O a8N a6e a9E c0d Tryz.func94 (by kernel_rfl) rfl rfl rfl hr⟩
 · cases h
noncomputable def e3:Nat → Option (List Value → M Value):=(a0H (a0H (a0H (a0H (a0H (a0H (a0H (a0H (a0H e2 45 (X1 .i64 fun z=>some (.string ⟨⟨V7 z⟩⟩))) 46 (X1 .i64 fun z=>some (.int .i64 (.ofNat (a0K z))))) 57 (X1 .i64 fun z=>some (.bool (a2V z)))) 55 (X1 .i64 q55)) 49 (X1 .i64 q49)) 51 (X2 .i64 .i64 q51)) 14 (XB a7Z)) 39 (X1 .i64 fun z=>some (.int .i64 (.ofNat (a0K z))))) 94 (X1 .i64 a6p))
noncomputable def s3:a2i:=(a2h (a2h (a2h (a2h (a2h (a2h (a2h (a2h (a2h s2 45 (X1 .i64 fun z=>some (.string ⟨⟨V7 z⟩⟩))) 46 (X1 .i64 fun z=>some (.int .i64 (.ofNat (a0K z))))) 57 (X1 .i64 fun z=>some (.bool (a2V z)))) 55 (X1 .i64 q55)) 49 (X1 .i64 q49)) 51 (X2 .i64 .i64 q51)) 14 (XB a7Z)) 39 (X1 .i64 fun z=>some (.int .i64 (.ofNat (a0K z))))) 94 (X1 .i64 a6p))
theorem L3:Shelf' Tryz.prog Q6 (W9 mL) NN e3 s3:=(((((((((L2.add d2Q).add d4q).add d7a).add d6q).add d6b).add d7t).add d3H).add d3k).add d2m)
end Go.Proofs.YtmomonnlmbljoaaGreatDoor
end
section
namespace Go.Proofs.YtmomonnlmbljoaaGreatDoor
open Go.V Go.RowKit Go.Shelf Go.Proofs
set_option maxRecDepth 1000000
attribute [local congr] a0b Z9 a0A a0B a0M
variable {mL:Int}
noncomputable def uA (k:Nat):Bool:=a5b k [2, 3, 4, 7, 8, 9, 12, 16, 20, 5, 10, 11, 14, 15, 17]
noncomputable def uB (k:Nat):Bool:=a5b k [5, 10, 11, 14, 15, 13, 17]
noncomputable def uN (k:Nat):Bool:=a5b k [17, 18, 19]
noncomputable def a3Z (k:Nat):M CR:=M.pure (.ret (.tuple ⟨[.bool (uA k),.bool (uB k),.bool (uN k)]⟩))
theorem t84 (N:Nat) (call:j5) (k:Nat) (hk:k ≤ 20):a5k G8 N call (.int .i64 (.ofNat k))=a3Z k:=by
 match k,hk with
 | 0,_=>exact (by kernel_rfl:a5k G8 N call (.int .i64 (.ofNat 0))=a3Z 0)
 | 1,_=>exact (by kernel_rfl:a5k G8 N call (.int .i64 (.ofNat 1))=a3Z 1)
 | 2,_=>exact (by kernel_rfl:a5k G8 N call (.int .i64 (.ofNat 2))=a3Z 2)
 | 3,_=>exact (by kernel_rfl:a5k G8 N call (.int .i64 (.ofNat 3))=a3Z 3)
 | 4,_=>exact (by kernel_rfl:a5k G8 N call (.int .i64 (.ofNat 4))=a3Z 4)
 | 5,_=>exact (by kernel_rfl:a5k G8 N call (.int .i64 (.ofNat 5))=a3Z 5)
 | 6,_=>exact (by kernel_rfl:a5k G8 N call (.int .i64 (.ofNat 6))=a3Z 6)
 | 7,_=>exact (by kernel_rfl:a5k G8 N call (.int .i64 (.ofNat 7))=a3Z 7)
 | 8,_=>exact (by kernel_rfl:a5k G8 N call (.int .i64 (.ofNat 8))=a3Z 8)
 | 9,_=>exact (by kernel_rfl:a5k G8 N call (.int .i64 (.ofNat 9))=a3Z 9)
 | 10,_=>exact (by kernel_rfl:a5k G8 N call (.int .i64 (.ofNat 10))=a3Z 10)
 | 11,_=>exact (by kernel_rfl:a5k G8 N call (.int .i64 (.ofNat 11))=a3Z 11)
 | 12,_=>exact (by kernel_rfl:a5k G8 N call (.int .i64 (.ofNat 12))=a3Z 12)
 | 13,_=>exact (by kernel_rfl:a5k G8 N call (.int .i64 (.ofNat 13))=a3Z 13)
 | 14,_=>exact (by kernel_rfl:a5k G8 N call (.int .i64 (.ofNat 14))=a3Z 14)
 | 15,_=>exact (by kernel_rfl:a5k G8 N call (.int .i64 (.ofNat 15))=a3Z 15)
 | 16,_=>exact (by kernel_rfl:a5k G8 N call (.int .i64 (.ofNat 16))=a3Z 16)
 | 17,_=>exact (by kernel_rfl:a5k G8 N call (.int .i64 (.ofNat 17))=a3Z 17)
 | 18,_=>exact (by kernel_rfl:a5k G8 N call (.int .i64 (.ofNat 18))=a3Z 18)
 | 19,_=>exact (by kernel_rfl:a5k G8 N call (.int .i64 (.ofNat 19))=a3Z 19)
 | 20,_=>exact (by kernel_rfl:a5k G8 N call (.int .i64 (.ofNat 20))=a3Z 20)
 | k + 21,h=>omega
theorem c9T:a0N (fun r:a5r=>Nat.ble r.2.2 20) a0E=true:=by kernel_rfl
theorem a9F (z:Int):a0K z ≤ 20:=by
 unfold a0K
 cases h:a0X z a0E with
 | none=>decide
 | some r=>exact Nat.le_of_ble_eq_true ((a1a _ _).1 c9T r (a7b z a0E r h).1)
noncomputable def idxAll (l:List Int):Bool:=a0N idxB l
theorem a8g (q:Int) (t:List Int):idxAll (q :: t)=(idxB q && idxAll t):=q9 _ _ _
abbrev O9 (l:List Int):List Value:=l.map fun n=>Value.int .i64 n
theorem c3x (N:Nat) (call:j5) (h59:∀ n,call 59 [.int .i64 n]=M.pure (.ret (.bool (idxB n)))) (c:Nat) (h:Trie VObj) (v:Value) (l:List Int) (H:P6 c h v (O9 l)) (hl:l.length < 4294967296) :
 ∀ (t:List Int) (i k:Nat) (g0 g1 g2 g3 g4 g5 g6 g7 g8 g9 g11 g12:Value) (r w:List Nat),l.drop i=t → t.length < k →
 I6 (go (a4d (b3f G8 N call v) k [g0,g1,g2,g3,g4,g5,g6,g7,g8,g9,.bool false,g11,g12,.int .i64 (.ofNat i)]) ⟨c,h,r,w⟩)
  fun x s=>s.c=c ∧ s.h=h ∧ ((idxAll t=true ∧ x.1=.exit 0) ∨ (idxAll t=false ∧ x.1=.ret ∧ d9 x.2 10=.bool false)):=by
 intro t
 have hlen:=H.len
 rw [List.length_map] at hlen
 induction t with
 | nil=>
   intro i k g0 g1 g2 g3 g4 g5 g6 g7 g8 g9 g11 g12 r w hd hk
   obtain ⟨k,rfl⟩:∃ m,k=m + 1:=⟨k - 1,by simp at hk; omega⟩
   have hi:Nat.blt i l.length=false:=by
    have:l.length ≤ i:=by simpa [List.drop_eq_nil_iff] using hd
    cases q:Nat.blt i l.length with
    | false=>rfl
    | true=>have:i < l.length:=by simpa [Nat.blt_eq] using q
            omega
   simp (config:={ maxSteps:=10000000 }) (disch:=first | assumption | omega | (simp only [q9,C8,G7,F7,l8,D6,q8,F6,F3,Bool.not_false,Bool.not_true,Bool.and_true,Bool.true_and,Bool.and_self,r9,D5,Nat.zero_add,Nat.reduceAdd,j4,F8,Nat.reduceBEq,G9,H6,E5,j6,A8,l7,l6,l9,C9,j4,F4,G6,G5,F9,H8,H9,D7,z8,D9,w9,o8,o9,F5,D8,I7,IntKind.bits,E9,A9,o7] <;> omega) | assumption) only [a3B,b5K,b5j,b5u,b3f,hlen,a4Z,hi,bn,un,U6,V6,I8,M0,J4,l_0,l_s,P5,a6z,V.d9Z,a2l,a2R]
   exact I6.done ⟨rfl,rfl,Or.inl ⟨rfl,rfl⟩⟩
 | cons q t ih=>
   intro i k g0 g1 g2 g3 g4 g5 g6 g7 g8 g9 g11 g12 r w hd hk
   obtain ⟨k,rfl⟩:∃ m,k=m + 1:=⟨k - 1,by simp at hk; omega⟩
   have hil:i < l.length:=by
    have:=congrArg List.length hd; simp at this; omega
   have hi:Nat.blt i l.length=true:=I5 hil
   have hq:l[i]?=some q:=by
    have:=congrArg (fun t=>t[0]?) hd; simpa using this
   have hd':l.drop (i + 1)=t:=by
    have:=congrArg List.tail hd; simpa using this
   have hinc:=a7X i (by omega)
   obtain ⟨p,b,_,e1,e2⟩:=H.read (Nat.le_refl c) (fun _ _=>rfl) (i:=i) (x:=.int .i64 q) (by rw [List.getElem?_map,hq]; rfl)
   cases hb:idxB q with
   | true=>
     simp (config:={ maxSteps:=10000000 }) (disch:=first | assumption | omega | (simp only [q9,C8,G7,F7,l8,D6,q8,F6,F3,Bool.not_false,Bool.not_true,Bool.and_true,Bool.true_and,Bool.and_self,r9,D5,Nat.zero_add,Nat.reduceAdd,j4,F8,Nat.reduceBEq,G9,H6,E5,j6,A8,l7,l6,l9,C9,j4,F4,G6,G5,F9,H8,H9,D7,z8,D9,w9,o8,o9,F5,D8,I7,IntKind.bits,E9,A9,o7] <;> omega) | assumption) only [a3B,b5K,b5j,b5u,b3f,hlen,a4Z,hi,e1,e2,h59,hb,hinc,bn,un,U6,V6,K6,I8,M0,J8,K4,J4,l_0,l_s,P5,L9,V.d9Z,a2l,a2R,U3,Bool.not_true]
     have e:idxAll (q :: t)=idxAll t:=by rw [a8g,hb,Bool.true_and]
     rw [e]
     exact ih (i + 1) k _ _ _ _ _ _ _ _ _ _ _ _ _ _ hd' (by simp at hk; omega)
   | false=>
     simp (config:={ maxSteps:=10000000 }) (disch:=first | assumption | omega | (simp only [q9,C8,G7,F7,l8,D6,q8,F6,F3,Bool.not_false,Bool.not_true,Bool.and_true,Bool.true_and,Bool.and_self,r9,D5,Nat.zero_add,Nat.reduceAdd,j4,F8,Nat.reduceBEq,G9,H6,E5,j6,A8,l7,l6,l9,C9,j4,F4,G6,G5,F9,H8,H9,D7,z8,D9,w9,o8,o9,F5,D8,I7,IntKind.bits,E9,A9,o7] <;> omega) | assumption) only [a3B,b5K,b5j,b5u,b3f,hlen,a4Z,hi,e1,e2,h59,hb,hinc,bn,un,U6,V6,K6,I8,M0,J8,K4,l_0,l_s,P5,a9s,V.d9Z,a2l,a2R,U3,Bool.not_false]
     refine I6.done ⟨rfl,rfl,Or.inr ⟨?_,rfl,rfl⟩⟩
     rw [a8g,hb,Bool.false_and]
theorem t60 (N:Nat) (call:j5) (h59:∀ n,call 59 [.int .i64 n]=M.pure (.ret (.bool (idxB n)))) (c:Nat) (h:Trie VObj) (v:Value) (l:List Int) (H:P6 c h v (O9 l)) (hl:l.length < 4294967296) (hN:l.length < N) (r w:List Nat) :
 I6 (go (b7C G8 N call v) ⟨c,h,r,w⟩) fun x s=>x=.ret (.bool (idxAll l)) ∧ s.c=c ∧ s.h=h:=by
 simp (config:={ maxSteps:=10000000 }) (disch:=first | assumption | omega | (simp only [q9,C8,G7,F7,l8,D6,q8,F6,F3,Bool.not_false,Bool.not_true,Bool.and_true,Bool.true_and,Bool.and_self,r9,D5,Nat.zero_add,Nat.reduceAdd,j4,F8,Nat.reduceBEq,G9,H6,E5,j6,A8,l7,l6,l9,C9,j4,F4,G6,G5,F9,H8,H9,D7,z8,D9,w9,o8,o9,F5,D8,I7,IntKind.bits,E9,A9,o7] <;> omega) | assumption) only [b7C,a0d,a2F,K6]
 refine I6.bindS (c3x N call h59 c h v l H hl l 0 N _ _ _ _ _ _ _ _ _ _ _ _ r w rfl hN) fun x s hq=>?_
 obtain ⟨x1,x2⟩:=x
 obtain ⟨c',h',r',w'⟩:=s
 obtain ⟨rfl,rfl,⟨e1,rfl⟩ | ⟨e1,rfl,e2⟩⟩:=hq
 · simp (config:={ maxSteps:=10000000 }) (disch:=first | assumption | omega | (simp only [q9,C8,G7,F7,l8,D6,q8,F6,F3,Bool.not_false,Bool.not_true,Bool.and_true,Bool.true_and,Bool.and_self,r9,D5,Nat.zero_add,Nat.reduceAdd,j4,F8,Nat.reduceBEq,G9,H6,E5,j6,A8,l7,l6,l9,C9,j4,F4,G6,G5,F9,H8,H9,D7,z8,D9,w9,o8,o9,F5,D8,I7,IntKind.bits,E9,A9,o7] <;> omega) | assumption) only [M0,b4j,a4b,a6z]
   exact I6.done ⟨by rw [e1],rfl,rfl⟩
 · simp only at e2
   simp (config:={ maxSteps:=10000000 }) (disch:=first | assumption | omega | (simp only [q9,C8,G7,F7,l8,D6,q8,F6,F3,Bool.not_false,Bool.not_true,Bool.and_true,Bool.true_and,Bool.and_self,r9,D5,Nat.zero_add,Nat.reduceAdd,j4,F8,Nat.reduceBEq,G9,H6,E5,j6,A8,l7,l6,l9,C9,j4,F4,G6,G5,F9,H8,H9,D7,z8,D9,w9,o8,o9,F5,D8,I7,IntKind.bits,E9,A9,o7] <;> omega) | assumption) only [M0,a9s,e2]
   exact I6.done ⟨by rw [e1],rfl,rfl⟩
theorem c3T (N:Nat) (call:j5) (h86:∀ n,call 86 [.int .i64 n]=M.pure (.ret (.bool (idxB n)))) (c:Nat) (h:Trie VObj) (v:Value) (l:List Int) (H:P6 c h v (O9 l)) (hl:l.length < 4294967296) :
 ∀ (t:List Int) (i k:Nat) (g0 g1 g2 g3 g4 g5 g6 g8:Value) (r w:List Nat),l.drop i=t → t.length < k →
 I6 (go (a4d (b3t G8 N call (.int .i64 (.ofNat l.length)) v) k [g0,g1,g2,g3,g4,g5,g6,.bool false,g8,.int .i64 (.ofNat i)]) ⟨c,h,r,w⟩)
  fun x s=>s.c=c ∧ s.h=h ∧ ((idxAll t=true ∧ x.1=.exit 1) ∨ (idxAll t=false ∧ x.1=.ret ∧ d9 x.2 7=.bool false)):=by
 intro t
 induction t with
 | nil=>
   intro i k g0 g1 g2 g3 g4 g5 g6 g8 r w hd hk
   obtain ⟨k,rfl⟩:∃ m,k=m + 1:=⟨k - 1,by simp at hk; omega⟩
   have hi:Nat.blt i l.length=false:=by
    have:l.length ≤ i:=by simpa [List.drop_eq_nil_iff] using hd
    cases q:Nat.blt i l.length with
    | false=>rfl
    | true=>have:i < l.length:=by simpa [Nat.blt_eq] using q
            omega
   simp (config:={ maxSteps:=10000000 }) (disch:=first | assumption | omega | (simp only [q9,C8,G7,F7,l8,D6,q8,F6,F3,Bool.not_false,Bool.not_true,Bool.and_true,Bool.true_and,Bool.and_self,r9,D5,Nat.zero_add,Nat.reduceAdd,j4,F8,Nat.reduceBEq,G9,H6,E5,j6,A8,l7,l6,l9,C9,j4,F4,G6,G5,F9,H8,H9,D7,z8,D9,w9,o8,o9,F5,D8,I7,IntKind.bits,E9,A9,o7] <;> omega) | assumption) only [a3B,b5J,b5Q,b5p,b3t,a4Z,hi,bn,un,U6,V6,I8,M0,J4,l_0,l_s,P5,a6z,V.d9Z,a2l,a2R]
   exact I6.done ⟨rfl,rfl,Or.inl ⟨rfl,rfl⟩⟩
 | cons q t ih=>
   intro i k g0 g1 g2 g3 g4 g5 g6 g8 r w hd hk
   obtain ⟨k,rfl⟩:∃ m,k=m + 1:=⟨k - 1,by simp at hk; omega⟩
   have hil:i < l.length:=by
    have:=congrArg List.length hd; simp at this; omega
   have hi:Nat.blt i l.length=true:=I5 hil
   have hq:l[i]?=some q:=by
    have:=congrArg (fun t=>t[0]?) hd; simpa using this
   have hd':l.drop (i + 1)=t:=by
    have:=congrArg List.tail hd; simpa using this
   have hinc:=a7X i (by omega)
   obtain ⟨p,b,_,e1,e2⟩:=H.read (Nat.le_refl c) (fun _ _=>rfl) (i:=i) (x:=.int .i64 q) (by rw [List.getElem?_map,hq]; rfl)
   cases hb:idxB q with
   | true=>
     simp (config:={ maxSteps:=10000000 }) (disch:=first | assumption | omega | (simp only [q9,C8,G7,F7,l8,D6,q8,F6,F3,Bool.not_false,Bool.not_true,Bool.and_true,Bool.true_and,Bool.and_self,r9,D5,Nat.zero_add,Nat.reduceAdd,j4,F8,Nat.reduceBEq,G9,H6,E5,j6,A8,l7,l6,l9,C9,j4,F4,G6,G5,F9,H8,H9,D7,z8,D9,w9,o8,o9,F5,D8,I7,IntKind.bits,E9,A9,o7] <;> omega) | assumption) only [a3B,b5J,b5Q,b5p,b3t,a4Z,hi,e1,e2,h86,hb,hinc,bn,un,U6,V6,K6,I8,M0,J8,K4,J4,l_0,l_s,P5,L9,V.d9Z,a2l,a2R,U3,Bool.not_true]
     have e:idxAll (q :: t)=idxAll t:=by rw [a8g,hb,Bool.true_and]
     rw [e]
     exact ih (i + 1) k _ _ _ _ _ _ _ _ _ _ hd' (by simp at hk; omega)
   | false=>
     simp (config:={ maxSteps:=10000000 }) (disch:=first | assumption | omega | (simp only [q9,C8,G7,F7,l8,D6,q8,F6,F3,Bool.not_false,Bool.not_true,Bool.and_true,Bool.true_and,Bool.and_self,r9,D5,Nat.zero_add,Nat.reduceAdd,j4,F8,Nat.reduceBEq,G9,H6,E5,j6,A8,l7,l6,l9,C9,j4,F4,G6,G5,F9,H8,H9,D7,z8,D9,w9,o8,o9,F5,D8,I7,IntKind.bits,E9,A9,o7] <;> omega) | assumption) only [a3B,b5J,b5Q,b5p,b3t,a4Z,hi,e1,e2,h86,hb,hinc,bn,un,U6,V6,K6,I8,M0,J8,K4,l_0,l_s,P5,a9s,V.d9Z,a2l,a2R,U3,Bool.not_false]
     refine I6.done ⟨rfl,rfl,Or.inr ⟨?_,rfl,rfl⟩⟩
     rw [a8g,hb,Bool.false_and]
end Go.Proofs.YtmomonnlmbljoaaGreatDoor
end
