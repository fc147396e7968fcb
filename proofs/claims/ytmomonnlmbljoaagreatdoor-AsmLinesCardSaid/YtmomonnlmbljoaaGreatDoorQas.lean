import Derived.Test.YtmomonnlmbljoaaGreatDoorQaq
import Derived.Test.YtmomonnlmbljoaaGreatDoorQar
section
namespace Go.Proofs.YtmomonnlmbljoaaGreatDoor
open Go.V Go.RowKit Go.Shelf Go.Proofs
set_option maxRecDepth 1000000
attribute [local congr] a0b Z9 a0A a0B a0M
variable {mL:Int}
structure Ins where
 op:Int
 A:Int
 B:Int
 N:Nat
 k:Int
 v:Int
 i:Int
 types:List Int
 labels:List Int
noncomputable def H7 (X:Ins) (tv lv:Value):Value:=.agg ⟨[.int .i64 X.op,.int .i64 X.A,.int .i64 X.B,.int .u64 (.ofNat X.N),.int .i64 X.k,.int .i64 X.v,.int .i64 X.i,tv,lv]⟩
theorem c6n (n:Nat):decide (Int.ofNat 4294967296 ≤ Int.ofNat n)=!(Nat.blt n 4294967296):=by
 cases h:Nat.blt n 4294967296 with
 | true=>have:n < 4294967296:=by simpa [Nat.blt_eq] using h
         simp only [Bool.not_true,decide_eq_false_iff_not,Int.ofNat_eq_natCast]; omega
 | false=>have:¬ n < 4294967296:=fun q=>by rw [I5 q] at h; cases h
          simp only [Bool.not_false,decide_eq_true_eq,Int.ofNat_eq_natCast]; omega
noncomputable def a5q (X:Ins):Bool:=decide (X.k=0) && (decide (X.v=0) && decide (X.i=0))
noncomputable def a4K (ua ub uc:Bool) (X:Ins):Bool:=!ua && !decide (X.A=0) || !ub && !decide (X.B=0) || !uc && !X.N.beq 0 || !idxB X.A || !idxB X.B
noncomputable def a4S (K:Nat) (X:Ins):Bool:=!K.beq 19 && !X.N.blt 4294967296 || !K.beq 1 && !a5q X || !K.beq 6 && Nat.blt 0 X.types.length || !K.beq 3 && Nat.blt 0 X.labels.length
noncomputable def a7V (l:List Int):Bool:=match l with
 | [t]=>a2X t
 | _=>false
noncomputable def a3f (K:Nat) (X:Ins):Bool:=bcase (K.beq 1) (a5c X.k X.v X.i) (bcase (K.beq 6) (a7V X.types) (bcase (K.beq 17) (decide (X.A ≤ 63)) (bcase (K.beq 20) (decide (X.A=3) || decide (X.A=4)) (idxAll X.labels))))
noncomputable def a2N (K:Nat) (ua ub uc:Bool) (X:Ins):Bool:=bcase (a4K ua ub uc X) false (bcase (a4S K X) false (a3f K X))
theorem c4b {K:Nat} {ua ub uc:Bool} {X:Ins} (h:a4K ua ub uc X=true):a2N K ua ub uc X=false:=by unfold a2N; rw [h]; rfl
theorem c3B {K:Nat} {ua ub uc:Bool} {X:Ins} (h1:a4K ua ub uc X=false) (h:a4S K X=true):a2N K ua ub uc X=false:=by unfold a2N; rw [h1,h]; rfl
theorem c4o {K:Nat} {ua ub uc:Bool} {X:Ins} (h1:a4K ua ub uc X=false) (h:a4S K X=false):a2N K ua ub uc X=a3f K X:=by unfold a2N; rw [h1,h]; rfl
theorem t34 (N:Nat) (call:j5) (X:Ins) (tv lv:Value) (K:Nat) (ua ub uc:Bool) (h39:call 39 [.int .i64 X.op]=M.pure (.ret (.int .i64 (.ofNat K)))) (h84:call 84 [.int .i64 (.ofNat K)]=M.pure (.ret (.tuple ⟨[.bool ua,.bool ub,.bool uc]⟩))) (h85:call 85 [.int .i64 X.op]=M.pure (.ret (.bool true)))
 (h86:∀ n,call 86 [.int .i64 n]=M.pure (.ret (.bool (idxB n)))) (h88:∀ n,call 88 [.int .i64 n]=M.pure (.ret (.bool (a2X n)))) (h87:∀ a b d,call 87 [.agg ⟨[.int .i64 a,.int .i64 b,.int .i64 d]⟩]=M.pure (.ret (.bool (a5c a b d))))
 (c:Nat) (h:Trie VObj) (Ht:P6 c h tv (O9 X.types)) (Hl:P6 c h lv (O9 X.labels)) (hN:X.labels.length < N) (hl:X.labels.length < 4294967296) (r w:List Nat) :
 I6 (go (b2B G8 N call (H7 X tv lv)) ⟨c,h,r,w⟩) fun x s=>x=.ret (.bool (a2N K ua ub uc X)) ∧ ∀ i,i < c → s.h.get i=h.get i:=by
 obtain ⟨ta,te,rfl,_⟩:=id Ht
 obtain ⟨la,le,rfl,_⟩:=id Hl
 simp (config:={ maxSteps:=10000000 }) (disch:=first | assumption | omega | (simp only [q9,C8,G7,F7,l8,D6,q8,F6,F3,Bool.not_false,Bool.not_true,Bool.and_true,Bool.true_and,Bool.and_self,r9,D5,Nat.zero_add,Nat.reduceAdd,j4,F8,Nat.reduceBEq,G9,H6,E5,j6,A8,l7,l6,l9,C9,j4,F4,G6,G5,F9,H8,H9,D7,z8,D9,w9,o8,o9,F5,D8,I7,IntKind.bits,E9,A9,o7] <;> omega) | assumption) only [b2B,c0E,c1p,c1f,b9H,c0R,b9J,b8l,b8e,b7w,b6P,b7n,b7K,b5U,b7Z,b8n,b6g,b8m,b7O,b6E,H7,h39,h84,h85,h86,h87,List.length_map,c6n,V9,b1b,a4Z,Bool.and_true,Bool.true_and,Bool.not_true,Bool.not_false,bn,un,U6,a0d,V6,a2F,K6,I8,M0,J8,a4b,a5X,U5,a5g,a3a,K4,a3n,a4k,a4m,a7k,l_0,l_s,b5o,b0D,b3J,b7A,a5o,b2Z,b9n,P5,L9,V.d9Z,P7,Q7,a0S,a8d,a5i,a6H,U3,Q0,a6m,a7s,G9,H6,a7x,U9,K8,M9,P8,K7,N9,I5,I9,K9,N8,O6,Q9,J6,J7,Nat.zero_add,Nat.add_zero]
 refine I6.cases (fun g1=>?_) (fun g1=>?_)
 · exact I6.done ⟨by rw [c4b (K:=K) (ua:=ua) (ub:=ub) (uc:=uc) (X:=X) g1],fun i hi=>by simp (config:={ maxSteps:=10000000 }) (disch:=first | assumption | omega | (simp only [q9,C8,G7,F7,l8,D6,q8,F6,F3,Bool.not_false,Bool.not_true,Bool.and_true,Bool.true_and,Bool.and_self,r9,D5,Nat.zero_add,Nat.reduceAdd,j4,F8,Nat.reduceBEq,G9,H6,E5,j6,A8,l7,l6,l9,C9,j4,F4,G6,G5,F9,H8,H9,D7,z8,D9,w9,o8,o9,F5,D8,I7,IntKind.bits,E9,A9,o7] <;> omega) | assumption) only [E8]⟩
 refine I6.cases (fun g2=>?_) (fun g2=>?_)
 · exact I6.done ⟨by rw [c3B (K:=K) (ua:=ua) (ub:=ub) (uc:=uc) (X:=X) g1 g2],fun i hi=>by simp (config:={ maxSteps:=10000000 }) (disch:=first | assumption | omega | (simp only [q9,C8,G7,F7,l8,D6,q8,F6,F3,Bool.not_false,Bool.not_true,Bool.and_true,Bool.true_and,Bool.and_self,r9,D5,Nat.zero_add,Nat.reduceAdd,j4,F8,Nat.reduceBEq,G9,H6,E5,j6,A8,l7,l6,l9,C9,j4,F4,G6,G5,F9,H8,H9,D7,z8,D9,w9,o8,o9,F5,D8,I7,IntKind.bits,E9,A9,o7] <;> omega) | assumption) only [E8]⟩
 rw [c4o (K:=K) (ua:=ua) (ub:=ub) (uc:=uc) (X:=X) g1 g2]
 refine I6.cases (fun k1=>?_) (fun k1=>?_)
 · exact I6.done ⟨by unfold a3f; rw [k1]; rfl,fun i hi=>by simp (config:={ maxSteps:=10000000 }) (disch:=first | assumption | omega | (simp only [q9,C8,G7,F7,l8,D6,q8,F6,F3,Bool.not_false,Bool.not_true,Bool.and_true,Bool.true_and,Bool.and_self,r9,D5,Nat.zero_add,Nat.reduceAdd,j4,F8,Nat.reduceBEq,G9,H6,E5,j6,A8,l7,l6,l9,C9,j4,F4,G6,G5,F9,H8,H9,D7,z8,D9,w9,o8,o9,F5,D8,I7,IntKind.bits,E9,A9,o7] <;> omega) | assumption) only [E8]⟩
 refine I6.cases (fun k6=>?_) (fun k6=>?_)
 · have e:a3f K X=a7V X.types:=by unfold a3f; rw [k1,k6]; rfl
   rw [e]
   have Ht2:P6 c h (.slice ta X.types.length te) (O9 X.types):=by simpa only [List.length_map] using Ht
   cases hb:X.types.length.beq 1 with
   | true=>
     have hl1:=Nat.eq_of_beq_eq_true hb
     obtain ⟨t,ht⟩:∃ t,X.types=[t]:=List.length_eq_one_iff.1 hl1
     rw [show a7V X.types=a2X t by rw [ht]; rfl]
     obtain ⟨p,b,hlt,e1,e2⟩:=Ht2.read (Nat.le_succ c) (h':=upd h c (.cells [(.int .i64 X.op, 0),(.int .i64 X.A, 0),(.int .i64 X.B, 0),(.int .u64 (Int.ofNat X.N), 0),(.int .i64 X.k, 0),(.int .i64 X.v, 0),(.int .i64 X.i, 0),(.slice ta X.types.length te, 0),(.slice la X.labels.length le, 0)] 0 false)) (fun b hb=>E8 (by omega)) (i:=0) (x:=.int .i64 t) (by rw [ht]; rfl)
     simp (config:={ maxSteps:=10000000 }) (disch:=first | assumption | omega | (simp only [q9,C8,G7,F7,l8,D6,q8,F6,F3,Bool.not_false,Bool.not_true,Bool.and_true,Bool.true_and,Bool.and_self,r9,D5,Nat.zero_add,Nat.reduceAdd,j4,F8,Nat.reduceBEq,G9,H6,E5,j6,A8,l7,l6,l9,C9,j4,F4,G6,G5,F9,H8,H9,D7,z8,D9,w9,o8,o9,F5,D8,I7,IntKind.bits,E9,A9,o7] <;> omega) | assumption) only [e1,e2,h88,K6,I8,M0,J8,K4,l_0,l_s,a7N,L9,V.d9Z,I5]
     exact I6.done ⟨rfl,fun i hi=>by simp (config:={ maxSteps:=10000000 }) (disch:=first | assumption | omega | (simp only [q9,C8,G7,F7,l8,D6,q8,F6,F3,Bool.not_false,Bool.not_true,Bool.and_true,Bool.true_and,Bool.and_self,r9,D5,Nat.zero_add,Nat.reduceAdd,j4,F8,Nat.reduceBEq,G9,H6,E5,j6,A8,l7,l6,l9,C9,j4,F4,G6,G5,F9,H8,H9,D7,z8,D9,w9,o8,o9,F5,D8,I7,IntKind.bits,E9,A9,o7] <;> omega) | assumption) only [E8]⟩
   | false=>
     have hf:a7V X.types=false:=by
      cases ht:X.types with
      | nil=>rfl
      | cons t l=>cases l with
        | nil=>rw [ht] at hb; cases hb
        | cons t' l=>rfl
     rw [hf]
     simp (config:={ maxSteps:=10000000 }) (disch:=first | assumption | omega | (simp only [q9,C8,G7,F7,l8,D6,q8,F6,F3,Bool.not_false,Bool.not_true,Bool.and_true,Bool.true_and,Bool.and_self,r9,D5,Nat.zero_add,Nat.reduceAdd,j4,F8,Nat.reduceBEq,G9,H6,E5,j6,A8,l7,l6,l9,C9,j4,F4,G6,G5,F9,H8,H9,D7,z8,D9,w9,o8,o9,F5,D8,I7,IntKind.bits,E9,A9,o7] <;> omega) | assumption) only [I8,M0,J4,l_0,l_s,a5o,L9,V.d9Z]
     exact I6.done ⟨rfl,fun i hi=>by simp (config:={ maxSteps:=10000000 }) (disch:=first | assumption | omega | (simp only [q9,C8,G7,F7,l8,D6,q8,F6,F3,Bool.not_false,Bool.not_true,Bool.and_true,Bool.true_and,Bool.and_self,r9,D5,Nat.zero_add,Nat.reduceAdd,j4,F8,Nat.reduceBEq,G9,H6,E5,j6,A8,l7,l6,l9,C9,j4,F4,G6,G5,F9,H8,H9,D7,z8,D9,w9,o8,o9,F5,D8,I7,IntKind.bits,E9,A9,o7] <;> omega) | assumption) only [E8]⟩
 refine I6.cases (fun k17=>?_) (fun k17=>?_)
 · exact I6.done ⟨by unfold a3f; rw [k1,k6,k17]; rfl,fun i hi=>by simp (config:={ maxSteps:=10000000 }) (disch:=first | assumption | omega | (simp only [q9,C8,G7,F7,l8,D6,q8,F6,F3,Bool.not_false,Bool.not_true,Bool.and_true,Bool.true_and,Bool.and_self,r9,D5,Nat.zero_add,Nat.reduceAdd,j4,F8,Nat.reduceBEq,G9,H6,E5,j6,A8,l7,l6,l9,C9,j4,F4,G6,G5,F9,H8,H9,D7,z8,D9,w9,o8,o9,F5,D8,I7,IntKind.bits,E9,A9,o7] <;> omega) | assumption) only [E8]⟩
 refine I6.cases (fun k20=>?_) (fun k20=>?_)
 · exact I6.done ⟨by unfold a3f; rw [k1,k6,k17,k20]; rfl,fun i hi=>by simp (config:={ maxSteps:=10000000 }) (disch:=first | assumption | omega | (simp only [q9,C8,G7,F7,l8,D6,q8,F6,F3,Bool.not_false,Bool.not_true,Bool.and_true,Bool.true_and,Bool.and_self,r9,D5,Nat.zero_add,Nat.reduceAdd,j4,F8,Nat.reduceBEq,G9,H6,E5,j6,A8,l7,l6,l9,C9,j4,F4,G6,G5,F9,H8,H9,D7,z8,D9,w9,o8,o9,F5,D8,I7,IntKind.bits,E9,A9,o7] <;> omega) | assumption) only [E8]⟩
 have e:a3f K X=idxAll X.labels:=by unfold a3f; rw [k1,k6,k17,k20]; rfl
 rw [e]
 have Hl2:P6 c h (.slice la X.labels.length le) (O9 X.labels):=by simpa only [List.length_map] using Hl
 refine I6.bindS (c3T N call h86 (c + 1) _ _ X.labels (Hl2.mono (Nat.le_succ c) (fun b hb=>E8 (by omega))) hl X.labels 0 N _ _ _ _ _ _ _ _ _ _ rfl hN) fun x s hq=>?_
 obtain ⟨x1,x2⟩:=x
 obtain ⟨c',h',r',w'⟩:=s
 obtain ⟨rfl,rfl,⟨e1,rfl⟩ | ⟨e1,rfl,e2⟩⟩:=hq
 · simp (config:={ maxSteps:=10000000 }) (disch:=first | assumption | omega | (simp only [q9,C8,G7,F7,l8,D6,q8,F6,F3,Bool.not_false,Bool.not_true,Bool.and_true,Bool.true_and,Bool.and_self,r9,D5,Nat.zero_add,Nat.reduceAdd,j4,F8,Nat.reduceBEq,G9,H6,E5,j6,A8,l7,l6,l9,C9,j4,F4,G6,G5,F9,H8,H9,D7,z8,D9,w9,o8,o9,F5,D8,I7,IntKind.bits,E9,A9,o7] <;> omega) | assumption) only [M0,b4j,a4b,a6z]
   exact I6.done ⟨by rw [e1],fun i hi=>by simp (config:={ maxSteps:=10000000 }) (disch:=first | assumption | omega | (simp only [q9,C8,G7,F7,l8,D6,q8,F6,F3,Bool.not_false,Bool.not_true,Bool.and_true,Bool.true_and,Bool.and_self,r9,D5,Nat.zero_add,Nat.reduceAdd,j4,F8,Nat.reduceBEq,G9,H6,E5,j6,A8,l7,l6,l9,C9,j4,F4,G6,G5,F9,H8,H9,D7,z8,D9,w9,o8,o9,F5,D8,I7,IntKind.bits,E9,A9,o7] <;> omega) | assumption) only [E8]⟩
 · simp only at e2
   simp (config:={ maxSteps:=10000000 }) (disch:=first | assumption | omega | (simp only [q9,C8,G7,F7,l8,D6,q8,F6,F3,Bool.not_false,Bool.not_true,Bool.and_true,Bool.true_and,Bool.and_self,r9,D5,Nat.zero_add,Nat.reduceAdd,j4,F8,Nat.reduceBEq,G9,H6,E5,j6,A8,l7,l6,l9,C9,j4,F4,G6,G5,F9,H8,H9,D7,z8,D9,w9,o8,o9,F5,D8,I7,IntKind.bits,E9,A9,o7] <;> omega) | assumption) only [M0,a9s,e2]
   exact I6.done ⟨by rw [e1],fun i hi=>by simp (config:={ maxSteps:=10000000 }) (disch:=first | assumption | omega | (simp only [q9,C8,G7,F7,l8,D6,q8,F6,F3,Bool.not_false,Bool.not_true,Bool.and_true,Bool.true_and,Bool.and_self,r9,D5,Nat.zero_add,Nat.reduceAdd,j4,F8,Nat.reduceBEq,G9,H6,E5,j6,A8,l7,l6,l9,C9,j4,F4,G6,G5,F9,H8,H9,D7,z8,D9,w9,o8,o9,F5,D8,I7,IntKind.bits,E9,A9,o7] <;> omega) | assumption) only [E8]⟩
end Go.Proofs.YtmomonnlmbljoaaGreatDoor
end
section
namespace Go.Proofs.YtmomonnlmbljoaaGreatDoor
open Go.V Go.RowKit Go.Shelf Go.Proofs
set_option maxRecDepth 1000000
attribute [local congr] a0b Z9 a0A a0B a0M
variable {mL:Int}
noncomputable def rdI (v:Value):M (List Int):=M.bind (b9M v) fun vs=>M.obind (b1q .i64 vs) fun l=>M.guard (Nat.blt (M4 l) 1000) (M.pure l)
theorem Fr.rdI (v:Value):Fr (rdI v):=Fr.bind (Fr.rdSl v) fun _=>Fr.obind _ fun _=>Fr.guard _ (Fr.pure _)
theorem b4o {v:Value} {s s':V.S} {l:List Int} (h:rdI v s=some (l,s')):P6 s.c s.h v (O9 l) ∧ l.length < 1000 ∧ s'.c=s.c ∧ s'.h=s.h:=by
 obtain ⟨vs,s1,h1,h2⟩:=M8 h
 obtain ⟨l',h3,h4⟩:=U4 h2
 obtain ⟨h5,h6⟩:=R4 h4
 obtain ⟨rfl,rfl⟩:=J3 h6
 obtain ⟨q1,q2,q3⟩:=c2Y h1
 rw [c0s h3] at q1
 rw [a0m] at h5
 exact ⟨q1,by simpa [Nat.blt_eq] using h5,q2,q3⟩
theorem b4k {c c':Nat} {h h':Trie VObj} {v:Value} {l:List Int} (H:P6 c h v (O9 l)) (hl:l.length < 1000) (hc:c ≤ c') (hh:∀ b,b < c → h'.get b=h.get b) :
 ∃ q:List Nat → List Nat, ∀ r w,go (rdI v) ⟨c',h',r,w⟩=some (l,⟨c',h',q r,w⟩):=by
 obtain ⟨q,hq⟩:=c3m H hc hh
 refine ⟨q,fun r w=>?_⟩
 unfold rdI
 rw [K6,hq,I8,c2x,P7,a0m,I5 hl,Q8]
 rfl
noncomputable def XL (q:List Int → Option Value) (bs:List Value):M Value:=match bs with
 | [v]=>M.bind (rdI v) fun l=>M.lift (q l)
 | _=>M.fail
theorem d5w (q:List Int → Option Value) (bs:List Value):Fr (XL q bs):=by
 unfold XL
 split
 · exact Fr.bind (Fr.rdI _) fun _=>Fr.lift _
 · exact Fr.fail
theorem c8m {q:List Int → Option Value} {bs:List Value} {s s':V.S} {x:Value} (h:XL q bs s=some (x,s')):∃ v l,bs=[v] ∧ P6 s.c s.h v (O9 l) ∧ l.length < 1000 ∧ q l=some x ∧ s'.c=s.c ∧ s'.h=s.h:=by
 unfold XL at h
 split at h
 · rename_i v
   obtain ⟨l,s1,h1,h2⟩:=M8 h
   obtain ⟨h3,rfl⟩:=a6g h2
   obtain ⟨q1,q2,q3,q4⟩:=b4o h1
   exact ⟨v,l,rfl,q1,q2,h3,q3,q4⟩
 · cases h
theorem c9E {q:List Int → Option Value} {c c':Nat} {h h':Trie VObj} {v x:Value} {l:List Int} (H:P6 c h v (O9 l)) (hl:l.length < 1000) (hc:c ≤ c') (hh:∀ b,b < c → h'.get b=h.get b) (e:q l=some x) :
 ∃ z:List Nat → List Nat, ∀ r w,go (XL q [v]) ⟨c',h',r,w⟩=some (x,⟨c',h',z r,w⟩):=by
 obtain ⟨z,hz⟩:=b4k H hl hc hh
 refine ⟨z,fun r w=>?_⟩
 show go (M.bind (rdI v) fun l=>M.lift (q l)) _=_
 rw [K6,hz,I8,e]
 rfl
theorem b5q {sh:a2i} {f:Nat} {g:List Value → M Value} (h:sh.get f=some (arX g)) (m:Nat) {bs:List Value} {s s':V.S} {x:Value} (e:go (g bs) s=some (x,s')):go (J9 sh (m + 1) f bs) s=some (.ret x,s'):=by
 rw [a8x sh m f bs h,K6,e]; rfl
noncomputable def XI (q:Ins → Option Value) (bs:List Value):M Value:=match bs with
 | [.agg ⟨[.int .i64 op,.int .i64 A,.int .i64 B,.int .u64 (.ofNat N),.int .i64 k,.int .i64 v,.int .i64 i,tv,lv]⟩]=>
   M.bind (rdI tv) fun ts=>M.bind (rdI lv) fun ls=>M.lift (q ⟨op,A,B,N,k,v,i,ts,ls⟩)
 | _=>M.fail
theorem d1B (q:Ins → Option Value) (bs:List Value):Fr (XI q bs):=by
 unfold XI
 split
 · exact Fr.bind (Fr.rdI _) fun _=>Fr.bind (Fr.rdI _) fun _=>Fr.lift _
 · exact Fr.fail
structure InsAt (c:Nat) (h:Trie VObj) (X:Ins) (x:Value):Prop where
 ex:∃ tv lv,x=H7 X tv lv ∧ P6 c h tv (O9 X.types) ∧ P6 c h lv (O9 X.labels)
 t:X.types.length < 1000
 l:X.labels.length < 1000
theorem InsAt.mono {c c':Nat} {h h':Trie VObj} {X:Ins} {x:Value} (H:InsAt c h X x) (hc:c ≤ c') (hh:∀ b,b < c → h'.get b=h.get b):InsAt c' h' X x:=by
 obtain ⟨⟨tv,lv,e,h1,h2⟩,h3,h4⟩:=H
 exact ⟨⟨tv,lv,e,h1.mono hc hh,h2.mono hc hh⟩,h3,h4⟩
theorem d0g {q:Ins → Option Value} {bs:List Value} {s s':V.S} {y:Value} (h:XI q bs s=some (y,s')):∃ X x,bs=[x] ∧ InsAt s.c s.h X x ∧ q X=some y ∧ s'.c=s.c ∧ s'.h=s.h:=by
 unfold XI at h
 split at h
 · rename_i op A B N k v i tv lv
   obtain ⟨ts,s1,h1,h2⟩:=M8 h
   obtain ⟨ls,s2,h3,h4⟩:=M8 h2
   obtain ⟨h5,rfl⟩:=a6g h4
   obtain ⟨q1,q2,q3,q4⟩:=b4o h1
   obtain ⟨p1,p2,p3,p4⟩:=b4o h3
   rw [q3,q4] at p1
   exact ⟨_,_,rfl,⟨⟨tv,lv,rfl,q1,p1⟩,q2,p2⟩,h5,by rw [p3,q3],by rw [p4,q4]⟩
 · cases h
theorem b8g {q:Ins → Option Value} {c c':Nat} {h h':Trie VObj} {X:Ins} {x y:Value} (H:InsAt c h X x) (hc:c ≤ c') (hh:∀ b,b < c → h'.get b=h.get b) (e:q X=some y) :
 ∃ z:List Nat → List Nat, ∀ r w,go (XI q [x]) ⟨c',h',r,w⟩=some (y,⟨c',h',z r,w⟩):=by
 obtain ⟨⟨tv,lv,rfl,h1,h2⟩,h3,h4⟩:=H
 obtain ⟨z1,e1⟩:=b4k h1 h3 hc hh
 obtain ⟨z2,e2⟩:=b4k h2 h4 hc hh
 refine ⟨fun r=>z2 (z1 r),fun r w=>?_⟩
 show go (M.bind (rdI tv) fun ts=>M.bind (rdI lv) fun ls=>M.lift (q ⟨X.op,X.A,X.B,X.N,X.k,X.v,X.i,ts,ls⟩)) _=_
 rw [K6,e1,I8,K6,e2,I8]
 show go (M.lift (q X)) _=_
 rw [e]
 rfl
theorem b3Q {ext:Nat → Option (List Value → M Value)} {sh:a2i} (L:Shelf' Tryz.prog Q6 (W9 mL) NN ext sh) {f:Nat} {fn:Func} {cd:Code} (hPf:Tryz.prog.funcs[f]?=some fn) (hnum:(fn.name == "runtime.NumGoroutine")=false) (hb:fn.body=some cd)
 {q:Ins → Option Value} (h:∀ X x y c hp,InsAt c hp X x → q X=some y → a0y 8 y=true ∧ ∃ m, ∀ r w,I6 (go (J9 sh m f [x]) ⟨c,hp,r,w⟩) fun z s2=>z=.ret y ∧ ∀ i,i < c → s2.h.get i=hp.get i):a0f Tryz.prog Q6 (W9 mL) f (XI q):=
 b1c a2E a0O L.e L.s hPf hnum hb (d1B q) fun bs s y s1 hq=>by
  obtain ⟨X,x,rfl,h1,h2,h3,h4⟩:=d0g hq
  refine ⟨(h X x y s.c s.h h1 h2).1,h3,h4,fun c hc=>?_⟩
  obtain ⟨_,m,hm⟩:=h X x y c s.h (h1.mono hc fun _ _=>rfl) h2
  exact ⟨m,hm s.r s.w⟩
theorem d5N (n:Nat) (z:Int):J9 s3 (n + 1) 59 [.int .i64 z]=M.pure (.ret (.bool (idxB z))):=a2P (q:=fun z=>some (.bool (idxB z))) (by kernel_rfl) n rfl
theorem d5V:a0f Tryz.prog Q6 (W9 mL) 60 (XL fun l=>some (.bool (idxAll l))):=b1c a2E a0O L3.e (L3 (mL:=mL)).s Tryz.func60 (by kernel_rfl) rfl (d5w _) fun bs s y s1 hq=>by
 obtain ⟨v,l,rfl,h1,h2,h3,h4,h5⟩:=c8m hq
 cases h3
 refine ⟨rfl,h4,h5,fun c hc=>⟨2, ?_⟩⟩
 rw [a3g (q:=b7C) (N:=NN) (by kernel_rfl) 1]
 exact (t60 NN _ (d5N 0) c s.h v l (h1.mono hc fun _ _=>rfl) (by omega) (by show l.length < 100000; omega) s.r s.w).mono fun x s2 ⟨a,b,d⟩=>⟨a,fun i _=>by rw [d]⟩
theorem d5f (N:Nat) (call:j5) (X:Ins) (tv lv:Value) (K:Nat) (ua ub uc:Bool) (h39:call 39 [.int .i64 X.op]=M.pure (.ret (.int .i64 (.ofNat K)))) (h84:call 84 [.int .i64 (.ofNat K)]=M.pure (.ret (.tuple ⟨[.bool ua,.bool ub,.bool uc]⟩))) (h85:call 85 [.int .i64 X.op]=M.pure (.ret (.bool false)))
 (c:Nat) (h:Trie VObj) (Ht:P6 c h tv (O9 X.types)) (Hl:P6 c h lv (O9 X.labels)) (r w:List Nat) :
 I6 (go (b2B G8 N call (H7 X tv lv)) ⟨c,h,r,w⟩) fun x s=>x=.ret (.bool false) ∧ ∀ i,i < c → s.h.get i=h.get i:=by
 obtain ⟨ta,te,rfl,_⟩:=id Ht
 obtain ⟨la,le,rfl,_⟩:=id Hl
 simp (config:={ maxSteps:=10000000 }) (disch:=first | assumption | omega | (simp only [q9,C8,G7,F7,l8,D6,q8,F6,F3,Bool.not_false,Bool.not_true,Bool.and_true,Bool.true_and,Bool.and_self,r9,D5,Nat.zero_add,Nat.reduceAdd,j4,F8,Nat.reduceBEq,G9,H6,E5,j6,A8,l7,l6,l9,C9,j4,F4,G6,G5,F9,H8,H9,D7,z8,D9,w9,o8,o9,F5,D8,I7,IntKind.bits,E9,A9,o7] <;> omega) | assumption) only [b2B,c0E,c1p,c1f,b9H,c0R,b9J,b8l,b8e,b7w,b6P,b7n,b7K,b5U,b7Z,b8n,b6g,b8m,b7O,b6E,H7,h39,h84,h85,Bool.not_true,Bool.not_false,bn,un,U6,a0d,V6,a2F,K6,I8,M0,J8,a4b,a5X,U5,a5g,a3a,K4,J4,a3n,a4k,a4m,a7k,l_0,l_s,b5o,b0D,b3J,a7N,P5,L9,V.d9Z,P7,Q7,a0S,U3,Q0,a7s,G9,H6,a7x,U9,K8,M9,K7,N9,I5,I9,K9,N8,O6,Q9,J6,J7,Nat.zero_add,Nat.add_zero]
 exact I6.done ⟨rfl,fun i hi=>by simp (config:={ maxSteps:=10000000 }) (disch:=first | assumption | omega | (simp only [q9,C8,G7,F7,l8,D6,q8,F6,F3,Bool.not_false,Bool.not_true,Bool.and_true,Bool.true_and,Bool.and_self,r9,D5,Nat.zero_add,Nat.reduceAdd,j4,F8,Nat.reduceBEq,G9,H6,E5,j6,A8,l7,l6,l9,C9,j4,F4,G6,G5,F9,H8,H9,D7,z8,D9,w9,o8,o9,F5,D8,I7,IntKind.bits,E9,A9,o7] <;> omega) | assumption) only [E8]⟩
end Go.Proofs.YtmomonnlmbljoaaGreatDoor
end
section
namespace Go.Proofs.YtmomonnlmbljoaaGreatDoor
open Go.V Go.RowKit Go.Shelf Go.Proofs
set_option maxRecDepth 1000000
theorem fA (X:Ins):(!(decide (X.A=0)) || idxB X.A)=true:=by
 by_cases h:X.A=0
 · rw [h]; decide
 · simp [h]
theorem fB (X:Ins):(!(decide (X.B=0)) || idxB X.B)=true:=by
 by_cases h:X.B=0
 · rw [h]; decide
 · simp [h]
theorem fN (X:Ins):(!(X.N.beq 0) || X.N.blt 4294967296)=true:=by
 cases h:X.N.beq 0 with
 | true=>rw [Nat.eq_of_beq_eq_true h]; decide
 | false=>rfl
theorem fl (X:Ins):(Nat.blt 0 X.labels.length || idxAll X.labels)=true:=by
 cases X.labels with
 | nil=>rfl
 | cons a l=>rw [I5 (by simp)]; rfl
theorem f63 (X:Ins):(!(decide (X.A ≤ 63)) || decide (X.A < 4294967296))=true:=by
 by_cases h:X.A ≤ 63
 · have:X.A < 4294967296:=by omega
   simp [h,this]
 · simp [h]
theorem f34 (X:Ins):(!(decide (X.A=3) || decide (X.A=4)) || idxB X.A)=true:=by
 by_cases h:X.A=3
 · rw [h]; decide
 · by_cases h':X.A=4
   · rw [h']; decide
   · simp [h,h']
noncomputable def a2U (K:Nat) (X:Ins):Bool:=!K.beq 1 && !a5q X || !K.beq 3 && Nat.blt 0 X.labels.length || !K.beq 6 && Nat.blt 0 X.types.length
noncomputable def pK (K:Nat) (X:Ins):Bool:=a2N K (uA K) (uB K) (uN K) X
theorem c6s {K:Nat} {X:Ins} (g:a2U K X=true):pK K X=false:=by
 unfold a2U at g
 unfold pK a2N a4S
 revert g
 generalize a4K (uA K) (uB K) (uN K) X=b1
 generalize K.beq 1=k1
 generalize K.beq 3=k3
 generalize K.beq 6=k6
 generalize K.beq 19=k19
 generalize X.N.blt 4294967296=nl
 generalize a5q X=bl
 generalize Nat.blt 0 X.types.length=t
 generalize Nat.blt 0 X.labels.length=l
 generalize a3f K X=rb
 revert b1 k1 k3 k6 k19 nl bl t l rb
 decide +kernel
theorem d9a {X:Ins} (g:a2U 0 X=false):(decide (X.A=0) && decide (X.B=0) && X.N.beq 0)=pK 0 X:=by
 unfold a2U at g
 unfold pK a2N a4K a4S
 rw [show a3f 0 X=idxAll X.labels from rfl]
 have F:((!(decide (X.A=0)) || idxB X.A) && (!(decide (X.B=0)) || idxB X.B) && (!(X.N.beq 0) || X.N.blt 4294967296) && (Nat.blt 0 X.labels.length || idxAll X.labels))=true:=by rw [fA,fB,fN,fl]; rfl
 revert g F
 generalize Nat.blt 0 X.labels.length=l
 generalize Nat.blt 0 X.types.length=t
 generalize X.N.blt 4294967296=nl
 generalize decide (X.A=0)=a
 generalize decide (X.B=0)=b
 generalize idxAll X.labels=il
 generalize X.N.beq 0=n
 generalize idxB X.A=ia
 generalize idxB X.B=ib
 generalize a5q X=bl
 revert a ia b ib n nl bl t l il
 decide +kernel
theorem d8k {X:Ins} (g:a2U 1 X=false):(decide (X.A=0) && decide (X.B=0) && X.N.beq 0 && a5c X.k X.v X.i)=pK 1 X:=by
 unfold a2U at g
 unfold pK a2N a4K a4S
 rw [show a3f 1 X=a5c X.k X.v X.i from rfl]
 have F:((!(decide (X.A=0)) || idxB X.A) && (!(decide (X.B=0)) || idxB X.B) && (!(X.N.beq 0) || X.N.blt 4294967296))=true:=by rw [fA,fB,fN]; rfl
 revert g F
 generalize Nat.blt 0 X.labels.length=l
 generalize Nat.blt 0 X.types.length=t
 generalize X.N.blt 4294967296=nl
 generalize decide (X.A=0)=a
 generalize decide (X.B=0)=b
 generalize a5c X.k X.v X.i=bb
 generalize X.N.beq 0=n
 generalize idxB X.A=ia
 generalize idxB X.B=ib
 generalize a5q X=bl
 revert a ia b ib n nl bl bb t l
 decide +kernel
theorem d3p {X:Ins} (g:a2U 3 X=false):(idxB X.A && decide (X.B=0) && X.N.beq 0 && idxAll X.labels)=pK 3 X:=by
 unfold a2U at g
 unfold pK a2N a4K a4S
 rw [show a3f 3 X=idxAll X.labels from rfl]
 have F:((!(decide (X.A=0)) || idxB X.A) && (!(decide (X.B=0)) || idxB X.B) && (!(X.N.beq 0) || X.N.blt 4294967296) && (Nat.blt 0 X.labels.length || idxAll X.labels))=true:=by rw [fA,fB,fN,fl]; rfl
 revert g F
 generalize Nat.blt 0 X.labels.length=l
 generalize Nat.blt 0 X.types.length=t
 generalize X.N.blt 4294967296=nl
 generalize decide (X.A=0)=a
 generalize decide (X.B=0)=b
 generalize idxAll X.labels=il
 generalize X.N.beq 0=n
 generalize idxB X.A=ia
 generalize idxB X.B=ib
 generalize a5q X=bl
 revert a ia b ib n nl bl t l il
 decide +kernel
theorem d8x {X:Ins} (g:a2U 6 X=false):(decide (X.A=0) && decide (X.B=0) && X.N.beq 0 && a7V X.types)=pK 6 X:=by
 unfold a2U at g
 unfold pK a2N a4K a4S
 rw [show a3f 6 X=a7V X.types from rfl]
 have F:((!(decide (X.A=0)) || idxB X.A) && (!(decide (X.B=0)) || idxB X.B) && (!(X.N.beq 0) || X.N.blt 4294967296))=true:=by rw [fA,fB,fN]; rfl
 revert g F
 generalize Nat.blt 0 X.labels.length=l
 generalize Nat.blt 0 X.types.length=t
 generalize X.N.blt 4294967296=nl
 generalize decide (X.A=0)=a
 generalize decide (X.B=0)=b
 generalize a7V X.types=ty
 generalize X.N.beq 0=n
 generalize idxB X.A=ia
 generalize idxB X.B=ib
 generalize a5q X=bl
 revert a ia b ib n nl bl ty t l
 decide +kernel
theorem d6T {X:Ins} (g:a2U 2 X=false):(idxB X.A && decide (X.B=0) && X.N.beq 0)=pK 2 X:=by
 unfold a2U at g
 unfold pK a2N a4K a4S
 rw [show a3f 2 X=idxAll X.labels from rfl]
 have F:((!(decide (X.A=0)) || idxB X.A) && (!(decide (X.B=0)) || idxB X.B) && (!(X.N.beq 0) || X.N.blt 4294967296) && (Nat.blt 0 X.labels.length || idxAll X.labels))=true:=by rw [fA,fB,fN,fl]; rfl
 revert g F
 generalize Nat.blt 0 X.labels.length=l
 generalize Nat.blt 0 X.types.length=t
 generalize X.N.blt 4294967296=nl
 generalize decide (X.A=0)=a
 generalize decide (X.B=0)=b
 generalize idxAll X.labels=il
 generalize X.N.beq 0=n
 generalize idxB X.A=ia
 generalize idxB X.B=ib
 generalize a5q X=bl
 revert a ia b ib n nl bl t l il
 decide +kernel
theorem d4F {X:Ins} (g:a2U 4 X=false):(idxB X.A && decide (X.B=0) && X.N.beq 0)=pK 4 X:=by
 unfold a2U at g
 unfold pK a2N a4K a4S
 rw [show a3f 4 X=idxAll X.labels from rfl]
 have F:((!(decide (X.A=0)) || idxB X.A) && (!(decide (X.B=0)) || idxB X.B) && (!(X.N.beq 0) || X.N.blt 4294967296) && (Nat.blt 0 X.labels.length || idxAll X.labels))=true:=by rw [fA,fB,fN,fl]; rfl
 revert g F
 generalize Nat.blt 0 X.labels.length=l
 generalize Nat.blt 0 X.types.length=t
 generalize X.N.blt 4294967296=nl
 generalize decide (X.A=0)=a
 generalize decide (X.B=0)=b
 generalize idxAll X.labels=il
 generalize X.N.beq 0=n
 generalize idxB X.A=ia
 generalize idxB X.B=ib
 generalize a5q X=bl
 revert a ia b ib n nl bl t l il
 decide +kernel
theorem d3P {X:Ins} (g:a2U 7 X=false):(idxB X.A && decide (X.B=0) && X.N.beq 0)=pK 7 X:=by
 unfold a2U at g
 unfold pK a2N a4K a4S
 rw [show a3f 7 X=idxAll X.labels from rfl]
 have F:((!(decide (X.A=0)) || idxB X.A) && (!(decide (X.B=0)) || idxB X.B) && (!(X.N.beq 0) || X.N.blt 4294967296) && (Nat.blt 0 X.labels.length || idxAll X.labels))=true:=by rw [fA,fB,fN,fl]; rfl
 revert g F
 generalize Nat.blt 0 X.labels.length=l
 generalize Nat.blt 0 X.types.length=t
 generalize X.N.blt 4294967296=nl
 generalize decide (X.A=0)=a
 generalize decide (X.B=0)=b
 generalize idxAll X.labels=il
 generalize X.N.beq 0=n
 generalize idxB X.A=ia
 generalize idxB X.B=ib
 generalize a5q X=bl
 revert a ia b ib n nl bl t l il
 decide +kernel
theorem d3X {X:Ins} (g:a2U 8 X=false):(idxB X.A && decide (X.B=0) && X.N.beq 0)=pK 8 X:=by
 unfold a2U at g
 unfold pK a2N a4K a4S
 rw [show a3f 8 X=idxAll X.labels from rfl]
 have F:((!(decide (X.A=0)) || idxB X.A) && (!(decide (X.B=0)) || idxB X.B) && (!(X.N.beq 0) || X.N.blt 4294967296) && (Nat.blt 0 X.labels.length || idxAll X.labels))=true:=by rw [fA,fB,fN,fl]; rfl
 revert g F
 generalize Nat.blt 0 X.labels.length=l
 generalize Nat.blt 0 X.types.length=t
 generalize X.N.blt 4294967296=nl
 generalize decide (X.A=0)=a
 generalize decide (X.B=0)=b
 generalize idxAll X.labels=il
 generalize X.N.beq 0=n
 generalize idxB X.A=ia
 generalize idxB X.B=ib
 generalize a5q X=bl
 revert a ia b ib n nl bl t l il
 decide +kernel
theorem d2C {X:Ins} (g:a2U 9 X=false):(idxB X.A && decide (X.B=0) && X.N.beq 0)=pK 9 X:=by
 unfold a2U at g
 unfold pK a2N a4K a4S
 rw [show a3f 9 X=idxAll X.labels from rfl]
 have F:((!(decide (X.A=0)) || idxB X.A) && (!(decide (X.B=0)) || idxB X.B) && (!(X.N.beq 0) || X.N.blt 4294967296) && (Nat.blt 0 X.labels.length || idxAll X.labels))=true:=by rw [fA,fB,fN,fl]; rfl
 revert g F
 generalize Nat.blt 0 X.labels.length=l
 generalize Nat.blt 0 X.types.length=t
 generalize X.N.blt 4294967296=nl
 generalize decide (X.A=0)=a
 generalize decide (X.B=0)=b
 generalize idxAll X.labels=il
 generalize X.N.beq 0=n
 generalize idxB X.A=ia
 generalize idxB X.B=ib
 generalize a5q X=bl
 revert a ia b ib n nl bl t l il
 decide +kernel
theorem c7A {X:Ins} (g:a2U 12 X=false):(idxB X.A && decide (X.B=0) && X.N.beq 0)=pK 12 X:=by
 unfold a2U at g
 unfold pK a2N a4K a4S
 rw [show a3f 12 X=idxAll X.labels from rfl]
 have F:((!(decide (X.A=0)) || idxB X.A) && (!(decide (X.B=0)) || idxB X.B) && (!(X.N.beq 0) || X.N.blt 4294967296) && (Nat.blt 0 X.labels.length || idxAll X.labels))=true:=by rw [fA,fB,fN,fl]; rfl
 revert g F
 generalize Nat.blt 0 X.labels.length=l
 generalize Nat.blt 0 X.types.length=t
 generalize X.N.blt 4294967296=nl
 generalize decide (X.A=0)=a
 generalize decide (X.B=0)=b
 generalize idxAll X.labels=il
 generalize X.N.beq 0=n
 generalize idxB X.A=ia
 generalize idxB X.B=ib
 generalize a5q X=bl
 revert a ia b ib n nl bl t l il
 decide +kernel
theorem c9A {X:Ins} (g:a2U 16 X=false):(idxB X.A && decide (X.B=0) && X.N.beq 0)=pK 16 X:=by
 unfold a2U at g
 unfold pK a2N a4K a4S
 rw [show a3f 16 X=idxAll X.labels from rfl]
 have F:((!(decide (X.A=0)) || idxB X.A) && (!(decide (X.B=0)) || idxB X.B) && (!(X.N.beq 0) || X.N.blt 4294967296) && (Nat.blt 0 X.labels.length || idxAll X.labels))=true:=by rw [fA,fB,fN,fl]; rfl
 revert g F
 generalize Nat.blt 0 X.labels.length=l
 generalize Nat.blt 0 X.types.length=t
 generalize X.N.blt 4294967296=nl
 generalize decide (X.A=0)=a
 generalize decide (X.B=0)=b
 generalize idxAll X.labels=il
 generalize X.N.beq 0=n
 generalize idxB X.A=ia
 generalize idxB X.B=ib
 generalize a5q X=bl
 revert a ia b ib n nl bl t l il
 decide +kernel
theorem d4m {X:Ins} (g:a2U 5 X=false):(idxB X.A && idxB X.B && X.N.beq 0)=pK 5 X:=by
 unfold a2U at g
 unfold pK a2N a4K a4S
 rw [show a3f 5 X=idxAll X.labels from rfl]
 have F:((!(decide (X.A=0)) || idxB X.A) && (!(decide (X.B=0)) || idxB X.B) && (!(X.N.beq 0) || X.N.blt 4294967296) && (Nat.blt 0 X.labels.length || idxAll X.labels))=true:=by rw [fA,fB,fN,fl]; rfl
 revert g F
 generalize Nat.blt 0 X.labels.length=l
 generalize Nat.blt 0 X.types.length=t
 generalize X.N.blt 4294967296=nl
 generalize decide (X.A=0)=a
 generalize decide (X.B=0)=b
 generalize idxAll X.labels=il
 generalize X.N.beq 0=n
 generalize idxB X.A=ia
 generalize idxB X.B=ib
 generalize a5q X=bl
 revert a ia b ib n nl bl t l il
 decide +kernel
theorem c7W {X:Ins} (g:a2U 10 X=false):(idxB X.A && idxB X.B && X.N.beq 0)=pK 10 X:=by
 unfold a2U at g
 unfold pK a2N a4K a4S
 rw [show a3f 10 X=idxAll X.labels from rfl]
 have F:((!(decide (X.A=0)) || idxB X.A) && (!(decide (X.B=0)) || idxB X.B) && (!(X.N.beq 0) || X.N.blt 4294967296) && (Nat.blt 0 X.labels.length || idxAll X.labels))=true:=by rw [fA,fB,fN,fl]; rfl
 revert g F
 generalize Nat.blt 0 X.labels.length=l
 generalize Nat.blt 0 X.types.length=t
 generalize X.N.blt 4294967296=nl
 generalize decide (X.A=0)=a
 generalize decide (X.B=0)=b
 generalize idxAll X.labels=il
 generalize X.N.beq 0=n
 generalize idxB X.A=ia
 generalize idxB X.B=ib
 generalize a5q X=bl
 revert a ia b ib n nl bl t l il
 decide +kernel
theorem c7V {X:Ins} (g:a2U 11 X=false):(idxB X.A && idxB X.B && X.N.beq 0)=pK 11 X:=by
 unfold a2U at g
 unfold pK a2N a4K a4S
 rw [show a3f 11 X=idxAll X.labels from rfl]
 have F:((!(decide (X.A=0)) || idxB X.A) && (!(decide (X.B=0)) || idxB X.B) && (!(X.N.beq 0) || X.N.blt 4294967296) && (Nat.blt 0 X.labels.length || idxAll X.labels))=true:=by rw [fA,fB,fN,fl]; rfl
 revert g F
 generalize Nat.blt 0 X.labels.length=l
 generalize Nat.blt 0 X.types.length=t
 generalize X.N.blt 4294967296=nl
 generalize decide (X.A=0)=a
 generalize decide (X.B=0)=b
 generalize idxAll X.labels=il
 generalize X.N.beq 0=n
 generalize idxB X.A=ia
 generalize idxB X.B=ib
 generalize a5q X=bl
 revert a ia b ib n nl bl t l il
 decide +kernel
theorem d1b {X:Ins} (g:a2U 14 X=false):(idxB X.A && idxB X.B && X.N.beq 0)=pK 14 X:=by
 unfold a2U at g
 unfold pK a2N a4K a4S
 rw [show a3f 14 X=idxAll X.labels from rfl]
 have F:((!(decide (X.A=0)) || idxB X.A) && (!(decide (X.B=0)) || idxB X.B) && (!(X.N.beq 0) || X.N.blt 4294967296) && (Nat.blt 0 X.labels.length || idxAll X.labels))=true:=by rw [fA,fB,fN,fl]; rfl
 revert g F
 generalize Nat.blt 0 X.labels.length=l
 generalize Nat.blt 0 X.types.length=t
 generalize X.N.blt 4294967296=nl
 generalize decide (X.A=0)=a
 generalize decide (X.B=0)=b
 generalize idxAll X.labels=il
 generalize X.N.beq 0=n
 generalize idxB X.A=ia
 generalize idxB X.B=ib
 generalize a5q X=bl
 revert a ia b ib n nl bl t l il
 decide +kernel
theorem d0Y {X:Ins} (g:a2U 15 X=false):(idxB X.A && idxB X.B && X.N.beq 0)=pK 15 X:=by
 unfold a2U at g
 unfold pK a2N a4K a4S
 rw [show a3f 15 X=idxAll X.labels from rfl]
 have F:((!(decide (X.A=0)) || idxB X.A) && (!(decide (X.B=0)) || idxB X.B) && (!(X.N.beq 0) || X.N.blt 4294967296) && (Nat.blt 0 X.labels.length || idxAll X.labels))=true:=by rw [fA,fB,fN,fl]; rfl
 revert g F
 generalize Nat.blt 0 X.labels.length=l
 generalize Nat.blt 0 X.types.length=t
 generalize X.N.blt 4294967296=nl
 generalize decide (X.A=0)=a
 generalize decide (X.B=0)=b
 generalize idxAll X.labels=il
 generalize X.N.beq 0=n
 generalize idxB X.A=ia
 generalize idxB X.B=ib
 generalize a5q X=bl
 revert a ia b ib n nl bl t l il
 decide +kernel
theorem c9k {X:Ins} (g:a2U 13 X=false):(decide (X.A=0) && idxB X.B && X.N.beq 0)=pK 13 X:=by
 unfold a2U at g
 unfold pK a2N a4K a4S
 rw [show a3f 13 X=idxAll X.labels from rfl]
 have F:((!(decide (X.A=0)) || idxB X.A) && (!(decide (X.B=0)) || idxB X.B) && (!(X.N.beq 0) || X.N.blt 4294967296) && (Nat.blt 0 X.labels.length || idxAll X.labels))=true:=by rw [fA,fB,fN,fl]; rfl
 revert g F
 generalize Nat.blt 0 X.labels.length=l
 generalize Nat.blt 0 X.types.length=t
 generalize X.N.blt 4294967296=nl
 generalize decide (X.A=0)=a
 generalize decide (X.B=0)=b
 generalize idxAll X.labels=il
 generalize X.N.beq 0=n
 generalize idxB X.A=ia
 generalize idxB X.B=ib
 generalize a5q X=bl
 revert a ia b ib n nl bl t l il
 decide +kernel
theorem c9q {X:Ins} (g:a2U 17 X=false):(decide (0 ≤ X.A) && decide (X.A ≤ 63) && idxB X.B && X.N.blt 4294967296)=pK 17 X:=by
 unfold a2U at g
 unfold pK a2N a4K a4S
 rw [show a3f 17 X=decide (X.A ≤ 63) from rfl]
 have F:((!(decide (X.B=0)) || idxB X.B) && (!(X.N.beq 0) || X.N.blt 4294967296) && (!(decide (X.A ≤ 63)) || decide (X.A < 4294967296)))=true:=by rw [fB,fN,f63]; rfl
 revert g F
 rw [show idxB X.A=(decide (0 ≤ X.A) && decide (X.A < 4294967296)) from rfl]
 generalize decide (X.A < 4294967296)=aw
 generalize Nat.blt 0 X.labels.length=l
 generalize Nat.blt 0 X.types.length=t
 generalize X.N.blt 4294967296=nl
 generalize decide (X.A ≤ 63)=a63
 generalize decide (X.A=0)=a
 generalize decide (0 ≤ X.A)=a0
 generalize decide (X.B=0)=b
 generalize X.N.beq 0=n
 generalize idxB X.B=ib
 generalize a5q X=bl
 revert a a0 aw a63 b ib n nl bl t l
 decide +kernel
theorem c8X {X:Ins} (g:a2U 18 X=false):(decide (X.A=0) && decide (X.B=0) && X.N.blt 4294967296)=pK 18 X:=by
 unfold a2U at g
 unfold pK a2N a4K a4S
 rw [show a3f 18 X=idxAll X.labels from rfl]
 have F:((!(decide (X.A=0)) || idxB X.A) && (!(decide (X.B=0)) || idxB X.B) && (!(X.N.beq 0) || X.N.blt 4294967296) && (Nat.blt 0 X.labels.length || idxAll X.labels))=true:=by rw [fA,fB,fN,fl]; rfl
 revert g F
 generalize Nat.blt 0 X.labels.length=l
 generalize Nat.blt 0 X.types.length=t
 generalize X.N.blt 4294967296=nl
 generalize decide (X.A=0)=a
 generalize decide (X.B=0)=b
 generalize idxAll X.labels=il
 generalize X.N.beq 0=n
 generalize idxB X.A=ia
 generalize idxB X.B=ib
 generalize a5q X=bl
 revert a ia b ib n nl bl t l il
 decide +kernel
theorem d1d {X:Ins} (g:a2U 19 X=false):(decide (X.A=0) && decide (X.B=0))=pK 19 X:=by
 unfold a2U at g
 unfold pK a2N a4K a4S
 rw [show a3f 19 X=idxAll X.labels from rfl]
 have F:((!(decide (X.A=0)) || idxB X.A) && (!(decide (X.B=0)) || idxB X.B) && (!(X.N.beq 0) || X.N.blt 4294967296) && (Nat.blt 0 X.labels.length || idxAll X.labels))=true:=by rw [fA,fB,fN,fl]; rfl
 revert g F
 generalize Nat.blt 0 X.labels.length=l
 generalize Nat.blt 0 X.types.length=t
 generalize X.N.blt 4294967296=nl
 generalize decide (X.A=0)=a
 generalize decide (X.B=0)=b
 generalize idxAll X.labels=il
 generalize X.N.beq 0=n
 generalize idxB X.A=ia
 generalize idxB X.B=ib
 generalize a5q X=bl
 revert a ia b ib n nl bl t l il
 decide +kernel
theorem c9L {X:Ins} (g:a2U 20 X=false):((decide (X.A=3) || decide (X.A=4)) && decide (X.B=0) && X.N.beq 0)=pK 20 X:=by
 unfold a2U at g
 unfold pK a2N a4K a4S
 rw [show a3f 20 X=(decide (X.A=3) || decide (X.A=4)) from rfl]
 have F:((!(decide (X.A=0)) || idxB X.A) && (!(decide (X.B=0)) || idxB X.B) && (!(X.N.beq 0) || X.N.blt 4294967296) && (!(decide (X.A=3) || decide (X.A=4)) || idxB X.A))=true:=by rw [fA,fB,fN,f34]; rfl
 revert g F
 generalize Nat.blt 0 X.labels.length=l
 generalize Nat.blt 0 X.types.length=t
 generalize X.N.blt 4294967296=nl
 generalize decide (X.A=0)=a
 generalize decide (X.A=3)=a3
 generalize decide (X.A=4)=a4
 generalize decide (X.B=0)=b
 generalize X.N.beq 0=n
 generalize idxB X.A=ia
 generalize idxB X.B=ib
 generalize a5q X=bl
 revert a a3 a4 ia b ib n nl bl t l
 decide +kernel
end Go.Proofs.YtmomonnlmbljoaaGreatDoor
end
section
namespace Go.Proofs.YtmomonnlmbljoaaGreatDoor
open Go.V Go.RowKit Go.Shelf Go.Proofs
set_option maxRecDepth 1000000
attribute [local congr] a0b Z9 a0A a0B a0M
variable {mL:Int}
theorem e0w (N:Nat) (call:j5) (X:Ins) (tv lv:Value) (K:Nat) (hK:K ≤ 20) (h46:call 46 [.int .i64 X.op]=M.pure (.ret (.int .i64 (.ofNat K)))) (h57:call 57 [.int .i64 X.op]=M.pure (.ret (.bool true)))
 (h59:∀ n,call 59 [.int .i64 n]=M.pure (.ret (.bool (idxB n)))) (h61:∀ n,call 61 [.int .i64 n]=M.pure (.ret (.bool (a2X n)))) (h58:∀ a b d,call 58 [.agg ⟨[.int .i64 a,.int .i64 b,.int .i64 d]⟩]=M.pure (.ret (.bool (a5c a b d))))
 (c:Nat) (h:Trie VObj) (h60:∀ hh,(∀ b,b < c → hh.get b=h.get b) → ∃ q:List Nat → List Nat, ∀ r w,go (call 60 [lv]) ⟨c + 1,hh,r,w⟩=some (.ret (.bool (idxAll X.labels)),⟨c + 1,hh,q r,w⟩)) (Ht:P6 c h tv (O9 X.types)) (Hl:P6 c h lv (O9 X.labels)) (r w:List Nat) :
 I6 (go (b2u G8 N call (H7 X tv lv)) ⟨c,h,r,w⟩) fun x s=>x=.ret (.bool (pK K X)) ∧ ∀ i,i < c → s.h.get i=h.get i:=by
 obtain ⟨ta,te,rfl,_⟩:=id Ht
 obtain ⟨la,le,rfl,_⟩:=id Hl
 rw [List.length_map] at h60
 obtain ⟨q,h60'⟩:=h60 (upd h c (.cells [(.int .i64 X.op, 0),(.int .i64 X.A, 0),(.int .i64 X.B, 0),(.int .u64 (Int.ofNat X.N), 0),(.int .i64 X.k, 0),(.int .i64 X.v, 0),(.int .i64 X.i, 0),(.slice ta X.types.length te, 0),(.slice la X.labels.length le, 0)] 0 false)) (fun b hb=>E8 (by omega))
 clear h60
 simp (config:={ maxSteps:=10000000 }) (disch:=first | assumption | omega | (simp only [q9,C8,G7,F7,l8,D6,q8,F6,F3,Bool.not_false,Bool.not_true,Bool.and_true,Bool.true_and,Bool.and_self,r9,D5,Nat.zero_add,Nat.reduceAdd,j4,F8,Nat.reduceBEq,G9,H6,E5,j6,A8,l7,l6,l9,C9,j4,F4,G6,G5,F9,H8,H9,D7,z8,D9,w9,o8,o9,F5,D8,I7,IntKind.bits,E9,A9,o7] <;> omega) | assumption) only [b2u,c0o,b9T,c1l,b9K,c0J,b9R,b9P,c0h,c0B,c0X,b7x,b6V,b7j,b8c,b6b,b7G,b6X,b7F,b6h,b7e,b6u,b6A,b7t,b6a,b8k,b6c,b6R,b7b,b7h,b8f,b6Y,b7Y,b6S,b8p,b6J,b7d,b6C,b8b,b6W,b6y,b6e,b7p,b6K,b7W,b7m,b6z,H7,h46,h57,h58,h59,h60',List.length_map,V9,b1b,a4Z,Bool.and_true,Bool.true_and,Bool.not_true,Bool.not_false,bn,un,U6,a0d,V6,K6,I8,M0,J8,a4b,a5X,U5,a5g,a3a,K4,a3n,a4k,a4m,a7k,l_0,l_s,b5o,b0D,b3J,b7A,a5o,b2Z,a5G,b9n,P5,L9,V.d9Z,P7,a6Q,b1T,Q7,a0S,a2l,a8d,a5i,a6H,U3,Q0,a6m,a7x,U9,K8,M9,P8,K7,N9,I5,I9,K9,N8,O6,Q9,J6,J7,Nat.zero_add,Nat.add_zero]
 refine I6.cases (fun g1=>?_) (fun g1=>?_)
 · exact I6.done ⟨by rw [c6s (K:=K) (X:=X) g1],fun i hi=>by simp (config:={ maxSteps:=10000000 }) (disch:=first | assumption | omega | (simp only [q9,C8,G7,F7,l8,D6,q8,F6,F3,Bool.not_false,Bool.not_true,Bool.and_true,Bool.true_and,Bool.and_self,r9,D5,Nat.zero_add,Nat.reduceAdd,j4,F8,Nat.reduceBEq,G9,H6,E5,j6,A8,l7,l6,l9,C9,j4,F4,G6,G5,F9,H8,H9,D7,z8,D9,w9,o8,o9,F5,D8,I7,IntKind.bits,E9,A9,o7] <;> omega) | assumption) only [E8]⟩
 refine I6.cases (fun k=>?_) (fun n0=>?_)
 · obtain rfl:=Nat.eq_of_beq_eq_true k
   exact I6.done ⟨by rw [← d9a (X:=X) g1]; rfl,fun i hi=>by simp (config:={ maxSteps:=10000000 }) (disch:=first | assumption | omega | (simp only [q9,C8,G7,F7,l8,D6,q8,F6,F3,Bool.not_false,Bool.not_true,Bool.and_true,Bool.true_and,Bool.and_self,r9,D5,Nat.zero_add,Nat.reduceAdd,j4,F8,Nat.reduceBEq,G9,H6,E5,j6,A8,l7,l6,l9,C9,j4,F4,G6,G5,F9,H8,H9,D7,z8,D9,w9,o8,o9,F5,D8,I7,IntKind.bits,E9,A9,o7] <;> omega) | assumption) only [E8]⟩
 refine I6.cases (fun k=>?_) (fun n1=>?_)
 · obtain rfl:=Nat.eq_of_beq_eq_true k
   exact I6.done ⟨by rw [← d8k (X:=X) g1]; rfl,fun i hi=>by simp (config:={ maxSteps:=10000000 }) (disch:=first | assumption | omega | (simp only [q9,C8,G7,F7,l8,D6,q8,F6,F3,Bool.not_false,Bool.not_true,Bool.and_true,Bool.true_and,Bool.and_self,r9,D5,Nat.zero_add,Nat.reduceAdd,j4,F8,Nat.reduceBEq,G9,H6,E5,j6,A8,l7,l6,l9,C9,j4,F4,G6,G5,F9,H8,H9,D7,z8,D9,w9,o8,o9,F5,D8,I7,IntKind.bits,E9,A9,o7] <;> omega) | assumption) only [E8]⟩
 refine I6.cases (fun k=>?_) (fun n3=>?_)
 · obtain rfl:=Nat.eq_of_beq_eq_true k
   exact I6.done ⟨by rw [← d3p (X:=X) g1]; rfl,fun i hi=>by simp (config:={ maxSteps:=10000000 }) (disch:=first | assumption | omega | (simp only [q9,C8,G7,F7,l8,D6,q8,F6,F3,Bool.not_false,Bool.not_true,Bool.and_true,Bool.true_and,Bool.and_self,r9,D5,Nat.zero_add,Nat.reduceAdd,j4,F8,Nat.reduceBEq,G9,H6,E5,j6,A8,l7,l6,l9,C9,j4,F4,G6,G5,F9,H8,H9,D7,z8,D9,w9,o8,o9,F5,D8,I7,IntKind.bits,E9,A9,o7] <;> omega) | assumption) only [E8]⟩
 refine I6.cases (fun k=>?_) (fun n6=>?_)
 · obtain rfl:=Nat.eq_of_beq_eq_true k
   rw [← d8x (X:=X) g1]
   have Ht2:P6 c h (.slice ta X.types.length te) (O9 X.types):=by simpa only [List.length_map] using Ht
   cases hb:X.types.length.beq 1 with
   | true=>
     have hl1:=Nat.eq_of_beq_eq_true hb
     obtain ⟨t,ht⟩:∃ t,X.types=[t]:=List.length_eq_one_iff.1 hl1
     rw [show a7V X.types=a2X t by rw [ht]; rfl]
     obtain ⟨p,b,hlt,e1,e2⟩:=Ht2.read (Nat.le_succ c) (h':=upd h c (.cells [(.int .i64 X.op, 0),(.int .i64 X.A, 0),(.int .i64 X.B, 0),(.int .u64 (Int.ofNat X.N), 0),(.int .i64 X.k, 0),(.int .i64 X.v, 0),(.int .i64 X.i, 0),(.slice ta X.types.length te, 0),(.slice la X.labels.length le, 0)] 0 false)) (fun b hb=>E8 (by omega)) (i:=0) (x:=.int .i64 t) (by rw [ht]; rfl)
     simp (config:={ maxSteps:=10000000 }) (disch:=first | assumption | omega | (simp only [q9,C8,G7,F7,l8,D6,q8,F6,F3,Bool.not_false,Bool.not_true,Bool.and_true,Bool.true_and,Bool.and_self,r9,D5,Nat.zero_add,Nat.reduceAdd,j4,F8,Nat.reduceBEq,G9,H6,E5,j6,A8,l7,l6,l9,C9,j4,F4,G6,G5,F9,H8,H9,D7,z8,D9,w9,o8,o9,F5,D8,I7,IntKind.bits,E9,A9,o7] <;> omega) | assumption) only [e1,e2,h61,Bool.and_true,K6,I8,M0,J8,a5X,U5,a4k,a4m,l_0,l_s,a5G,L9,V.d9Z]
     exact I6.done ⟨rfl,fun i hi=>by simp (config:={ maxSteps:=10000000 }) (disch:=first | assumption | omega | (simp only [q9,C8,G7,F7,l8,D6,q8,F6,F3,Bool.not_false,Bool.not_true,Bool.and_true,Bool.true_and,Bool.and_self,r9,D5,Nat.zero_add,Nat.reduceAdd,j4,F8,Nat.reduceBEq,G9,H6,E5,j6,A8,l7,l6,l9,C9,j4,F4,G6,G5,F9,H8,H9,D7,z8,D9,w9,o8,o9,F5,D8,I7,IntKind.bits,E9,A9,o7] <;> omega) | assumption) only [E8]⟩
   | false=>
     have hf:a7V X.types=false:=by
      cases ht:X.types with
      | nil=>rfl
      | cons t l=>cases l with
        | nil=>rw [ht] at hb; cases hb
        | cons t' l=>rfl
     rw [hf]
     simp (config:={ maxSteps:=10000000 }) (disch:=first | assumption | omega | (simp only [q9,C8,G7,F7,l8,D6,q8,F6,F3,Bool.not_false,Bool.not_true,Bool.and_true,Bool.true_and,Bool.and_self,r9,D5,Nat.zero_add,Nat.reduceAdd,j4,F8,Nat.reduceBEq,G9,H6,E5,j6,A8,l7,l6,l9,C9,j4,F4,G6,G5,F9,H8,H9,D7,z8,D9,w9,o8,o9,F5,D8,I7,IntKind.bits,E9,A9,o7] <;> omega) | assumption) only [Bool.and_false,I8,M0,J4,l_0,l_s,a5o,L9,V.d9Z]
     exact I6.done ⟨rfl,fun i hi=>by simp (config:={ maxSteps:=10000000 }) (disch:=first | assumption | omega | (simp only [q9,C8,G7,F7,l8,D6,q8,F6,F3,Bool.not_false,Bool.not_true,Bool.and_true,Bool.true_and,Bool.and_self,r9,D5,Nat.zero_add,Nat.reduceAdd,j4,F8,Nat.reduceBEq,G9,H6,E5,j6,A8,l7,l6,l9,C9,j4,F4,G6,G5,F9,H8,H9,D7,z8,D9,w9,o8,o9,F5,D8,I7,IntKind.bits,E9,A9,o7] <;> omega) | assumption) only [E8]⟩
 have n0':K ≠ 0:=fun e=>by rw [e] at n0; cases n0
 have n1':K ≠ 1:=fun e=>by rw [e] at n1; cases n1
 have n3':K ≠ 3:=fun e=>by rw [e] at n3; cases n3
 have n6':K ≠ 6:=fun e=>by rw [e] at n6; cases n6
 refine I6.done ⟨?_,fun i hi=>by simp (config:={ maxSteps:=10000000 }) (disch:=first | assumption | omega | (simp only [q9,C8,G7,F7,l8,D6,q8,F6,F3,Bool.not_false,Bool.not_true,Bool.and_true,Bool.true_and,Bool.and_self,r9,D5,Nat.zero_add,Nat.reduceAdd,j4,F8,Nat.reduceBEq,G9,H6,E5,j6,A8,l7,l6,l9,C9,j4,F4,G6,G5,F9,H8,H9,D7,z8,D9,w9,o8,o9,F5,D8,I7,IntKind.bits,E9,A9,o7] <;> omega) | assumption) only [E8]⟩
 clear n0 n1 n3 n6 h46 h57
 have hh:K=2 ∨ K=4 ∨ K=5 ∨ K=7 ∨ K=8 ∨ K=9 ∨ K=10 ∨ K=11 ∨ K=12 ∨ K=13 ∨ K=14 ∨ K=15 ∨ K=16 ∨ K=17 ∨ K=18 ∨ K=19 ∨ K=20:=by omega
 rcases hh with rfl | rfl | rfl | rfl | rfl | rfl | rfl | rfl | rfl | rfl | rfl | rfl | rfl | rfl | rfl | rfl | rfl
 · rw [← d6T (X:=X) g1]; rfl
 · rw [← d4F (X:=X) g1]; rfl
 · rw [← d4m (X:=X) g1]; rfl
 · rw [← d3P (X:=X) g1]; rfl
 · rw [← d3X (X:=X) g1]; rfl
 · rw [← d2C (X:=X) g1]; rfl
 · rw [← c7W (X:=X) g1]; rfl
 · rw [← c7V (X:=X) g1]; rfl
 · rw [← c7A (X:=X) g1]; rfl
 · rw [← c9k (X:=X) g1]; rfl
 · rw [← d1b (X:=X) g1]; rfl
 · rw [← d0Y (X:=X) g1]; rfl
 · rw [← c9A (X:=X) g1]; rfl
 · rw [← c9q (X:=X) g1]; rfl
 · rw [← c8X (X:=X) g1]; rfl
 · rw [← d1d (X:=X) g1]; rfl
 · rw [← c9L (X:=X) g1]; rfl
theorem d7p (N:Nat) (call:j5) (X:Ins) (tv lv:Value) (K:Nat) (h46:call 46 [.int .i64 X.op]=M.pure (.ret (.int .i64 (.ofNat K)))) (h57:call 57 [.int .i64 X.op]=M.pure (.ret (.bool false)))
 (c:Nat) (h:Trie VObj) (Ht:P6 c h tv (O9 X.types)) (Hl:P6 c h lv (O9 X.labels)) (r w:List Nat) :
 I6 (go (b2u G8 N call (H7 X tv lv)) ⟨c,h,r,w⟩) fun x s=>x=.ret (.bool false) ∧ ∀ i,i < c → s.h.get i=h.get i:=by
 obtain ⟨ta,te,rfl,_⟩:=id Ht
 obtain ⟨la,le,rfl,_⟩:=id Hl
 simp (config:={ maxSteps:=10000000 }) (disch:=first | assumption | omega | (simp only [q9,C8,G7,F7,l8,D6,q8,F6,F3,Bool.not_false,Bool.not_true,Bool.and_true,Bool.true_and,Bool.and_self,r9,D5,Nat.zero_add,Nat.reduceAdd,j4,F8,Nat.reduceBEq,G9,H6,E5,j6,A8,l7,l6,l9,C9,j4,F4,G6,G5,F9,H8,H9,D7,z8,D9,w9,o8,o9,F5,D8,I7,IntKind.bits,E9,A9,o7] <;> omega) | assumption) only [b2u,c0o,b9T,c1l,b9K,c0J,b9R,b9P,c0h,c0B,c0X,b7x,b6V,b7j,b8c,b6b,b7G,b6X,b7F,b6h,b7e,b6u,b6A,b7t,b6a,b8k,b6c,b6R,b7b,b7h,b8f,b6Y,b7Y,b6S,b8p,b6J,b7d,b6C,b8b,b6W,b6y,b6e,b7p,b6K,b7W,b7m,b6z,H7,h46,h57,Bool.not_true,Bool.not_false,bn,un,U6,a0d,V6,K6,I8,M0,J8,a4b,a5g,a3a,K4,J4,a3n,a4k,a4m,l_0,l_s,b5o,b0D,b3J,a7N,P5,L9,V.d9Z,P7,b1T,Q7,a0S,U3,Q0,a7x,U9,K8,M9,P8,K7,N9,I5,I9,K9,N8,O6,Q9,J6,J7,Nat.zero_add,Nat.add_zero]
 exact I6.done ⟨rfl,fun i hi=>by simp (config:={ maxSteps:=10000000 }) (disch:=first | assumption | omega | (simp only [q9,C8,G7,F7,l8,D6,q8,F6,F3,Bool.not_false,Bool.not_true,Bool.and_true,Bool.true_and,Bool.and_self,r9,D5,Nat.zero_add,Nat.reduceAdd,j4,F8,Nat.reduceBEq,G9,H6,E5,j6,A8,l7,l6,l9,C9,j4,F4,G6,G5,F9,H8,H9,D7,z8,D9,w9,o8,o9,F5,D8,I7,IntKind.bits,E9,A9,o7] <;> omega) | assumption) only [E8]⟩
noncomputable def a4N (X:Ins):Bool:=bcase (a2V X.op) (pK (a0K X.op) X) false
theorem c4U (n:Nat) (z:Int):J9 s3 (n + 1) 39 [.int .i64 z]=M.pure (.ret (.int .i64 (.ofNat (a0K z)))):=a2P (q:=fun z=>some (.int .i64 (.ofNat (a0K z)))) (by kernel_rfl) n rfl
theorem c4X (n:Nat) (z:Int):J9 s3 (n + 1) 85 [.int .i64 z]=M.pure (.ret (.bool (a2V z))):=a2P (q:=fun z=>some (.bool (a2V z))) (by kernel_rfl) n rfl
theorem d7Z (n:Nat) (z:Int):J9 s3 (n + 1) 86 [.int .i64 z]=M.pure (.ret (.bool (idxB z))):=a2P (q:=fun z=>some (.bool (idxB z))) (by kernel_rfl) n rfl
theorem d3V (n:Nat) (z:Int):J9 s3 (n + 1) 88 [.int .i64 z]=M.pure (.ret (.bool (a2X z))):=a2P (q:=fun z=>some (.bool (a2X z))) (by kernel_rfl) n rfl
theorem d8l (n:Nat) (a b d:Int):J9 s3 (n + 1) 87 [.agg ⟨[.int .i64 a,.int .i64 b,.int .i64 d]⟩]=M.pure (.ret (.bool (a5c a b d))):=b1L (q:=fun a b d=>some (.bool (a5c a b d))) (by kernel_rfl) n rfl
theorem c5t (n:Nat) (k:Nat) (h:k ≤ 20):J9 s3 (n + 1) 84 [.int .i64 (.ofNat k)]=M.pure (.ret (.tuple ⟨[.bool (uA k),.bool (uB k),.bool (uN k)]⟩)):=by
 rw [a3g (q:=a5k) (N:=NN) (by kernel_rfl) n]
 exact t84 _ _ k h
theorem d8V:a0f Tryz.prog Q6 (W9 mL) 34 (XI fun X=>some (.bool (a4N X))):=b3Q L3 Tryz.func34 (by kernel_rfl) rfl fun X x y c hp H e=>by
 cases e
 obtain ⟨⟨tv,lv,rfl,h1,h2⟩,h3,h4⟩:=H
 refine ⟨rfl, 2,fun r w=>?_⟩
 rw [a3g (q:=b2B) (N:=NN) (by kernel_rfl) 1]
 unfold a4N
 cases hk:a2V X.op with
 | true=>exact t34 NN _ X tv lv (a0K X.op) _ _ _ (c4U 0 _) (c5t 0 _ (a9F _)) (by rw [c4X 0,hk]) (d7Z 0) (d3V 0) (d8l 0) c hp h1 h2 (by show X.labels.length < 100000; omega) (by omega) r w
 | false=>exact d5f NN _ X tv lv (a0K X.op) _ _ _ (c4U 0 _) (c5t 0 _ (a9F _)) (by rw [c4X 0,hk]) c hp h1 h2 r w
noncomputable def e4:Nat → Option (List Value → M Value):=a0H e3 60 (XL fun l=>some (.bool (idxAll l)))
noncomputable def s4:a2i:=a2h s3 60 (XL fun l=>some (.bool (idxAll l)))
theorem L4:Shelf' Tryz.prog Q6 (W9 mL) NN e4 s4:=L3.add d5V
theorem c5F (n:Nat) (z:Int):J9 s4 (n + 1) 46 [.int .i64 z]=M.pure (.ret (.int .i64 (.ofNat (a0K z)))):=a2P (q:=fun z=>some (.int .i64 (.ofNat (a0K z)))) (by kernel_rfl) n rfl
theorem c4D (n:Nat) (z:Int):J9 s4 (n + 1) 57 [.int .i64 z]=M.pure (.ret (.bool (a2V z))):=a2P (q:=fun z=>some (.bool (a2V z))) (by kernel_rfl) n rfl
theorem d1x (n:Nat) (z:Int):J9 s4 (n + 1) 59 [.int .i64 z]=M.pure (.ret (.bool (idxB z))):=a2P (q:=fun z=>some (.bool (idxB z))) (by kernel_rfl) n rfl
theorem d2r (n:Nat) (z:Int):J9 s4 (n + 1) 61 [.int .i64 z]=M.pure (.ret (.bool (a2X z))):=a2P (q:=fun z=>some (.bool (a2X z))) (by kernel_rfl) n rfl
theorem d2z (n:Nat) (a b d:Int):J9 s4 (n + 1) 58 [.agg ⟨[.int .i64 a,.int .i64 b,.int .i64 d]⟩]=M.pure (.ret (.bool (a5c a b d))):=b1L (q:=fun a b d=>some (.bool (a5c a b d))) (by kernel_rfl) n rfl
theorem d1z:a0f Tryz.prog Q6 (W9 mL) 19 (XI fun X=>some (.bool (a4N X))):=b3Q L4 Tryz.func19 (by kernel_rfl) rfl fun X x y c hp H e=>by
 cases e
 obtain ⟨⟨tv,lv,rfl,h1,h2⟩,h3,h4⟩:=H
 refine ⟨rfl, 2,fun r w=>?_⟩
 rw [a3g (q:=b2u) (N:=NN) (by kernel_rfl) 1]
 unfold a4N
 cases hk:a2V X.op with
 | true=>
   have hq:∀ hh,(∀ b,b < c → hh.get b=hp.get b) → ∃ q:List Nat → List Nat, ∀ r w,go (J9 s4 1 60 [lv]) ⟨c + 1,hh,r,w⟩=some (.ret (.bool (idxAll X.labels)),⟨c + 1,hh,q r,w⟩):=fun hh hb=>by
    obtain ⟨z,hz⟩:=c9E (q:=fun l=>some (.bool (idxAll l))) (x:=.bool (idxAll X.labels)) h2 h4 (Nat.le_succ c) hb rfl
    exact ⟨z,fun r w=>b5q (by kernel_rfl) 0 (hz r w)⟩
   exact e0w NN _ X tv lv (a0K X.op) (a9F _) (c5F 0 _) (by rw [c4D 0,hk]) (d1x 0) (d2r 0) (d2z 0) c hp hq h1 h2 r w
 | false=>exact d7p NN _ X tv lv (a0K X.op) (c5F 0 _) (by rw [c4D 0,hk]) c hp h1 h2 r w
end Go.Proofs.YtmomonnlmbljoaaGreatDoor
end
section
noncomputable section
namespace Go.V
def b5r {α:Type} (x:Option (α × S)) (r w:List Nat):Option ((α × a3t) × S):=match x with
 | none=>none
 | some y=>some ((y.1,(y.2.r,y.2.w)),⟨y.2.c,y.2.h,M6 y.2.r r,M6 y.2.w w⟩)
theorem a0L {α:Type} (m:M α) (c:Nat) (h:Trie VObj) (r w:List Nat):go (M.foot m) ⟨c,h,r,w⟩=b5r (go m ⟨c,h, [], []⟩) r w:=rfl
theorem V8 {α:Type} (a:α) (c:Nat) (h:Trie VObj) (r' w' r w:List Nat):b5r (some (a,(⟨c,h,r',w'⟩:S))) r w=some ((a,(r',w')),⟨c,h,M6 r' r,M6 w' w⟩):=Eq.trans rfl rfl
theorem a0T {α:Type} {x y:Option (α × S)} (r w:List Nat) (h:x=y):b5r x r w=b5r y r w:=by rw [h]
section
variable {P:Program} {T:Tab} {vs:a4i}
def a6Y (q:List Value → Option (List Value)) (bs:List Value):M Value:=M.obind (q bs) fun cs=>match cs with
 | []=>M.pure (.slice none 0 0)
 | v :: cs=>M.bind (a2q (v :: cs)) fun a=>M.pure (.slice (some a) (M4 cs + 1) 1)
theorem c6D (q:List Value → Option (List Value)) (bs:List Value):Fr (a6Y q bs):=Fr.obind _ fun cs=>by
 cases cs with
 | nil=>exact Fr.pure _
 | cons v cs=>exact Fr.bind (Fr.newCells _) fun _=>Fr.pure _
theorem c0T (hT:TabOk P T) (hM:P.follows .mixedOrders=true)
 {ext:Nat → Option (List Value → M Value)} (hE:a4P P T vs ext) {N:Nat} {sh:a2i} (hs:a7O P T ext N sh) {f:Nat} {fn:Func} {cd:Code}
 (hPf:P.funcs[f]?=some fn) (hnum:(fn.name == "runtime.NumGoroutine")=false) (hb:fn.body=some cd) {q:List Value → Option (List Value)}
 (h:∀ bs cs,q bs=some cs → a0N plain cs=true ∧ ∀ c h r w, ∃ n,I6 (go (J9 sh n f bs) ⟨c,h,r,w⟩) fun x s2=>(∀ i,i < c → s2.h.get i=h.get i) ∧
   ((cs=[] ∧ x=.ret (.slice none 0 0)) ∨ (cs ≠ [] ∧ ∃ b g ds,x=.ret (.slice (some ⟨b, 0,some g⟩) cs.length 1) ∧ c ≤ b ∧ s2.h.get b=some (.cells ds g false) ∧ a2m (·.1) ds=cs))):a0f P T vs f (a6Y q):=by
 refine b2g hT hM hE hs hPf hnum hb (c6D q) fun bs s v s1 hg c' h1 h2 h3=>?_
 obtain ⟨cs,e,hg'⟩:=U4 hg
 obtain ⟨hpl,hr⟩:=h bs cs e
 obtain ⟨n,x,s2,hrun,hold,hor⟩:=hr c' s.h s.r s.w
 have hrun':J9 sh n f bs ⟨c',s.h,s.r,s.w⟩=some (x,s2):=hrun
 rcases hor with ⟨rfl,rfl⟩ | ⟨hne,b,g,ds,rfl,hb2,hds,hmap⟩
 · obtain ⟨rfl,rfl⟩:=J3 hg'
   refine ⟨n,_,s2,fun _=>none,hrun',⟨fun i hi=>Or.inr ⟨rfl,hold i hi.1⟩,fun b b2 g2 hm=>(by cases hm),fun b hb _=>?_,fun b b' x x' hm=>(by cases hm)⟩,.plain rfl,fun i _ hi=>hold i hi⟩
   exact h3 b (Nat.le_of_not_lt fun hlt=>hb ⟨hlt,fun hx=>by omega⟩)
 · cases cs with
   | nil=>exact absurd rfl hne
   | cons v0 cs0=>
     have hg2:M.bind (a2q (v0 :: cs0)) (fun a=>M.pure (Value.slice (some a) (M4 cs0 + 1) 1)) s=some (v,s1):=hg'
     obtain ⟨a,s1',q1,q2⟩:=M8 hg2
     obtain ⟨rfl,rfl⟩:=J3 q2
     obtain ⟨k1,k2,k3,k4⟩:=a9a q1
     have hc1:s1.c=s.c + 1:=k3
     have hnew:s1.h.get s.c=some (.cells ((v0 :: cs0).map fun v=>(v, 0)) 0 false):=by rw [k4,if_pos rfl]
     have hoth:∀ i,i ≠ s.c → s1.h.get i=s.h.get i:=fun i hi=>by rw [k4,if_neg hi]
     refine ⟨n,_,s2,fun i=>if i=s.c then some (b,g) else none,hrun',⟨fun i hi=>Or.inr ⟨?_,hold i hi.1⟩,fun i b2 g2 hm=>?_,fun i hi hm=>?_,fun i i' x x' hm hm' hx=>?_⟩, ?_,fun i hi1 hi2=>hold i hi2⟩
     · exact hoth i (fun e=>hi.2 (by omega))
     · split at hm
       · rename_i hi
         cases hm
         subst hi
         refine ⟨fun hx=>hx.2 ⟨Nat.le_refl _,by omega⟩,fun hx=>by have:=hx.1; omega,_,ds,hnew,hds, ?_,fun i v w st st' hv hw=>?_⟩
         · have:=congrArg List.length hmap
           rw [a3X] at this
           simp at this ⊢; omega
         · rw [List.getElem?_map] at hv
           cases hvo:(v0 :: cs0)[i]? with
           | none=>rw [hvo] at hv; cases hv
           | some y=>
             rw [hvo] at hv
             cases hv
             refine ⟨rfl, ?_⟩
             rw [← hmap,a3X,List.getElem?_map,hw] at hvo
             have ey:w=v:=by simpa using hvo
             subst ey
             refine .plain ((a1a _ _).1 hpl w ?_)
             rw [← hmap,a3X]
             exact List.mem_map.2 ⟨_,List.mem_of_getElem? hw,rfl⟩
       · cases hm
     · split at hm
       · cases hm
       · rename_i hne'
         rw [hoth i hne']
         exact h3 i (Nat.le_of_not_lt fun hlt=>hi ⟨hlt,fun hx=>by omega⟩)
     · split at hm
       · split at hm'
         · rename_i e1 e2; rw [e1,e2]
         · cases hm'
       · cases hm
     · rw [k2,show M4 cs0 + 1=(v0 :: cs0).length by rw [a0m]; rfl]
       exact .sliceNew (by rw [if_pos rfl])
end
end Go.V
end
