import Derived.Test.YtmomonnlmbljoaaGreatDoorPbb
section
namespace Go.Proofs.YtmomonnlmbljoaaGreatDoor
open Go.V Go.RowKit Go.Shelf Go.Proofs
set_option maxRecDepth 1000000
attribute [local congr] U8 U7 Y8 Z0 a0i
variable {mL:Int}
structure Ins where
 op:Int
 A:Int
 B:Int
 N:Nat
 k:Int
 v:Int
 i:Int
 types:List Int
 labels:List Int
noncomputable def I7 (X:Ins) (tv lv:Value):Value:=.agg ⟨[.int .i64 X.op,.int .i64 X.A,.int .i64 X.B,.int .u64 (.ofNat X.N),.int .i64 X.k,.int .i64 X.v,.int .i64 X.i,tv,lv]⟩
theorem c8d (n:Nat):decide (Int.ofNat 4294967296≤Int.ofNat n)=!(Nat.blt n 4294967296):=by
 cases h:Nat.blt n 4294967296 with
 | true=>have:n<4294967296:=by simpa [Nat.blt_eq] using h
         simp only [G9,decide_eq_false_iff_not,Int.ofNat_eq_natCast]; omega
 | false=>have:¬ n<4294967296:=fun q=>by rw [H9 q] at h; cases h
          simp only [I5,decide_eq_true_eq,Int.ofNat_eq_natCast]; omega
noncomputable def a5c (X:Ins):Bool:=decide (X.k=0) && (decide (X.v=0) && decide (X.i=0))
noncomputable def a4y (ua ub uc:Bool) (X:Ins):Bool:=!ua && !decide (X.A=0) || !ub && !decide (X.B=0) || !uc && !X.N.beq 0 || !idxB X.A || !idxB X.B
noncomputable def a4D (K:Nat) (X:Ins):Bool:=!K.beq 19 && !X.N.blt 4294967296 || !K.beq 1 && !a5c X || !K.beq 6 && Nat.blt 0 X.types.length || !K.beq 3 && Nat.blt 0 X.labels.length
noncomputable def a7W (l:List Int):Bool:=match l with
 | [t]=>a2E t
 | _=>false
noncomputable def a2B (K:Nat) (X:Ins):Bool:=bcase (K.beq 1) (a4H X.k X.v X.i) (bcase (K.beq 6) (a7W X.types) (bcase (K.beq 17) (decide (X.A≤63)) (bcase (K.beq 20) (decide (X.A=3) || decide (X.A=4)) (idxAll X.labels))))
noncomputable def a2w (K:Nat) (ua ub uc:Bool) (X:Ins):Bool:=bcase (a4y ua ub uc X) false (bcase (a4D K X) false (a2B K X))
theorem c5H {K:Nat} {ua ub uc:Bool} {X:Ins} (h:a4y ua ub uc X=true):a2w K ua ub uc X=false:=by unfold a2w; rw [h]; rfl
theorem c6s {K:Nat} {ua ub uc:Bool} {X:Ins} (h1:a4y ua ub uc X=false) (h:a4D K X=true):a2w K ua ub uc X=false:=by unfold a2w; rw [h1,h]; rfl
theorem c5q {K:Nat} {ua ub uc:Bool} {X:Ins} (h1:a4y ua ub uc X=false) (h:a4D K X=false):a2w K ua ub uc X=a2B K X:=by unfold a2w; rw [h1,h]; rfl
theorem t34 (N:Nat) (call:o8) (X:Ins) (tv lv:Value) (K:Nat) (ua ub uc:Bool) (h39:call 39 [.int .i64 X.op]=M.pure (.ret (.int .i64 (.ofNat K)))) (h84:call 84 [.int .i64 (.ofNat K)]=M.pure (.ret (.tuple ⟨[.bool ua,.bool ub,.bool uc]⟩))) (h85:call 85 [.int .i64 X.op]=M.pure (.ret (.bool true)))
 (h86:∀ n,call 86 [.int .i64 n]=M.pure (.ret (.bool (idxB n)))) (h88:∀ n,call 88 [.int .i64 n]=M.pure (.ret (.bool (a2E n)))) (h87:∀ a b d,call 87 [.agg ⟨[.int .i64 a,.int .i64 b,.int .i64 d]⟩]=M.pure (.ret (.bool (a4H a b d))))
 (c:Nat) (h:Trie VObj) (Ht:Q6 c h tv (P6 X.types)) (Hl:Q6 c h lv (P6 X.labels)) (hN:X.labels.length<N) (hl:X.labels.length<4294967296) (r w:List Nat) :
 H6 (go (b2W H8 N call (I7 X tv lv)) ⟨c,h,r,w⟩) fun x s=>x=.ret (.bool (a2w K ua ub uc X))∧∀ i,i<c→s.h.get i=h.get i:=by
 obtain ⟨ta,te,rfl,_⟩:=id Ht
 obtain ⟨la,le,rfl,_⟩:=id Hl
 simp (config:={ maxSteps:=10000000 }) (disch:=first | assumption | omega | (simp only [l9,w9,F3,j6,A8,E8,D8,I5,G9,I9,I8,H7,o9,D5,G8,Nat.reduceAdd,D7,E9,Nat.reduceBEq,G5,F9,d9,j5,l6,z8,D9,F7,F5,F4,G6,C8,q9,A9,q8,l8,l7,E5,C9,G7,IntKind.bits,D6,r9,o7] <;> omega) | assumption) only [b2W,c2h,c2Q,c2r,c1r,c1y,c2P,b7Y,b9a,b7K,b8W,b8Z,b9q,b8c,b6B,b9k,b8l,b7j,b6W,b8B,I7,h39,h84,h85,h86,h87,List.length_map,c8d,V9,b1m,a2t,I9,I8,G9,I5,bn,un,U0,V5,U6,a1P,J6,I4,K3,J4,a2W,a5N,U3,a4w,a1X,J3,a2M,a3P,a3O,a5y,X4,Y3,b5Y,b0K,b3W,b8r,a4h,b3o,c0B,M6,K6,V.e1g,Q9,P8,a0v,a7R,a3s,a6x,R7,Q7,a5G,a7u,G5,F9,a7r,T9,M7,M8,Q8,K8,M5,H9,I6,K9,M0,O6,S9,J5,J7,G8,Nat.add_zero]
 refine H6.cases (fun g1=>?_) (fun g1=>?_)
 · exact H6.done ⟨by rw [c5H (K:=K) (ua:=ua) (ub:=ub) (uc:=uc) (X:=X) g1],fun i hi=>by simp (config:={ maxSteps:=10000000 }) (disch:=first | assumption | omega | (simp only [l9,w9,F3,j6,A8,E8,D8,I5,G9,I9,I8,H7,o9,D5,G8,Nat.reduceAdd,D7,E9,Nat.reduceBEq,G5,F9,d9,j5,l6,z8,D9,F7,F5,F4,G6,C8,q9,A9,q8,l8,l7,E5,C9,G7,IntKind.bits,D6,r9,o7] <;> omega) | assumption) only [F6]⟩
 refine H6.cases (fun g2=>?_) (fun g2=>?_)
 · exact H6.done ⟨by rw [c6s (K:=K) (ua:=ua) (ub:=ub) (uc:=uc) (X:=X) g1 g2],fun i hi=>by simp (config:={ maxSteps:=10000000 }) (disch:=first | assumption | omega | (simp only [l9,w9,F3,j6,A8,E8,D8,I5,G9,I9,I8,H7,o9,D5,G8,Nat.reduceAdd,D7,E9,Nat.reduceBEq,G5,F9,d9,j5,l6,z8,D9,F7,F5,F4,G6,C8,q9,A9,q8,l8,l7,E5,C9,G7,IntKind.bits,D6,r9,o7] <;> omega) | assumption) only [F6]⟩
 rw [c5q (K:=K) (ua:=ua) (ub:=ub) (uc:=uc) (X:=X) g1 g2]
 refine H6.cases (fun k1=>?_) (fun k1=>?_)
 · exact H6.done ⟨by unfold a2B; rw [k1]; rfl,fun i hi=>by simp (config:={ maxSteps:=10000000 }) (disch:=first | assumption | omega | (simp only [l9,w9,F3,j6,A8,E8,D8,I5,G9,I9,I8,H7,o9,D5,G8,Nat.reduceAdd,D7,E9,Nat.reduceBEq,G5,F9,d9,j5,l6,z8,D9,F7,F5,F4,G6,C8,q9,A9,q8,l8,l7,E5,C9,G7,IntKind.bits,D6,r9,o7] <;> omega) | assumption) only [F6]⟩
 refine H6.cases (fun k6=>?_) (fun k6=>?_)
 · have e:a2B K X=a7W X.types:=by unfold a2B; rw [k1,k6]; rfl
   rw [e]
   have Ht2:Q6 c h (.slice ta X.types.length te) (P6 X.types):=by simpa only [List.length_map] using Ht
   cases hb:X.types.length.beq 1 with
   | true=>
     have hl1:=Nat.eq_of_beq_eq_true hb
     obtain ⟨t,ht⟩:∃ t,X.types=[t]:=List.length_eq_one_iff.1 hl1
     rw [show a7W X.types=a2E t by rw [ht]; rfl]
     obtain ⟨p,b,hlt,e1,e2⟩:=Ht2.read (Nat.le_succ c) (h':=upd h c (.cells [(.int .i64 X.op, 0),(.int .i64 X.A, 0),(.int .i64 X.B, 0),(.int .u64 (Int.ofNat X.N), 0),(.int .i64 X.k, 0),(.int .i64 X.v, 0),(.int .i64 X.i, 0),(.slice ta X.types.length te, 0),(.slice la X.labels.length le, 0)] 0 false)) (fun b hb=>F6 (by omega)) (i:=0) (x:=.int .i64 t) (by rw [ht]; rfl)
     simp (config:={ maxSteps:=10000000 }) (disch:=first | assumption | omega | (simp only [l9,w9,F3,j6,A8,E8,D8,I5,G9,I9,I8,H7,o9,D5,G8,Nat.reduceAdd,D7,E9,Nat.reduceBEq,G5,F9,d9,j5,l6,z8,D9,F7,F5,F4,G6,C8,q9,A9,q8,l8,l7,E5,C9,G7,IntKind.bits,D6,r9,o7] <;> omega) | assumption) only [e1,e2,h88,J6,I4,K3,J4,J3,X4,Y3,a6j,K6,V.e1g,H9]
     exact H6.done ⟨rfl,fun i hi=>by simp (config:={ maxSteps:=10000000 }) (disch:=first | assumption | omega | (simp only [l9,w9,F3,j6,A8,E8,D8,I5,G9,I9,I8,H7,o9,D5,G8,Nat.reduceAdd,D7,E9,Nat.reduceBEq,G5,F9,d9,j5,l6,z8,D9,F7,F5,F4,G6,C8,q9,A9,q8,l8,l7,E5,C9,G7,IntKind.bits,D6,r9,o7] <;> omega) | assumption) only [F6]⟩
   | false=>
     have hf:a7W X.types=false:=by
      cases ht:X.types with
      | nil=>rfl
      | cons t l=>cases l with
        | nil=>rw [ht] at hb; cases hb
        | cons t' l=>rfl
     rw [hf]
     simp (config:={ maxSteps:=10000000 }) (disch:=first | assumption | omega | (simp only [l9,w9,F3,j6,A8,E8,D8,I5,G9,I9,I8,H7,o9,D5,G8,Nat.reduceAdd,D7,E9,Nat.reduceBEq,G5,F9,d9,j5,l6,z8,D9,F7,F5,F4,G6,C8,q9,A9,q8,l8,l7,E5,C9,G7,IntKind.bits,D6,r9,o7] <;> omega) | assumption) only [I4,K3,J2,X4,Y3,a4h,K6,V.e1g]
     exact H6.done ⟨rfl,fun i hi=>by simp (config:={ maxSteps:=10000000 }) (disch:=first | assumption | omega | (simp only [l9,w9,F3,j6,A8,E8,D8,I5,G9,I9,I8,H7,o9,D5,G8,Nat.reduceAdd,D7,E9,Nat.reduceBEq,G5,F9,d9,j5,l6,z8,D9,F7,F5,F4,G6,C8,q9,A9,q8,l8,l7,E5,C9,G7,IntKind.bits,D6,r9,o7] <;> omega) | assumption) only [F6]⟩
 refine H6.cases (fun k17=>?_) (fun k17=>?_)
 · exact H6.done ⟨by unfold a2B; rw [k1,k6,k17]; rfl,fun i hi=>by simp (config:={ maxSteps:=10000000 }) (disch:=first | assumption | omega | (simp only [l9,w9,F3,j6,A8,E8,D8,I5,G9,I9,I8,H7,o9,D5,G8,Nat.reduceAdd,D7,E9,Nat.reduceBEq,G5,F9,d9,j5,l6,z8,D9,F7,F5,F4,G6,C8,q9,A9,q8,l8,l7,E5,C9,G7,IntKind.bits,D6,r9,o7] <;> omega) | assumption) only [F6]⟩
 refine H6.cases (fun k20=>?_) (fun k20=>?_)
 · exact H6.done ⟨by unfold a2B; rw [k1,k6,k17,k20]; rfl,fun i hi=>by simp (config:={ maxSteps:=10000000 }) (disch:=first | assumption | omega | (simp only [l9,w9,F3,j6,A8,E8,D8,I5,G9,I9,I8,H7,o9,D5,G8,Nat.reduceAdd,D7,E9,Nat.reduceBEq,G5,F9,d9,j5,l6,z8,D9,F7,F5,F4,G6,C8,q9,A9,q8,l8,l7,E5,C9,G7,IntKind.bits,D6,r9,o7] <;> omega) | assumption) only [F6]⟩
 have e:a2B K X=idxAll X.labels:=by unfold a2B; rw [k1,k6,k17,k20]; rfl
 rw [e]
 have Hl2:Q6 c h (.slice la X.labels.length le) (P6 X.labels):=by simpa only [List.length_map] using Hl
 refine H6.bindS (c6b N call h86 (c+1) _ _ X.labels (Hl2.mono (Nat.le_succ c) (fun b hb=>F6 (by omega))) hl X.labels 0 N _ _ _ _ _ _ _ _ _ _ rfl hN) fun x s hq=>?_
 obtain ⟨x1,x2⟩:=x
 obtain ⟨c',h',r',w'⟩:=s
 obtain ⟨rfl,rfl,⟨e1,rfl⟩ | ⟨e1,rfl,e2⟩⟩:=hq
 · simp (config:={ maxSteps:=10000000 }) (disch:=first | assumption | omega | (simp only [l9,w9,F3,j6,A8,E8,D8,I5,G9,I9,I8,H7,o9,D5,G8,Nat.reduceAdd,D7,E9,Nat.reduceBEq,G5,F9,d9,j5,l6,z8,D9,F7,F5,F4,G6,C8,q9,A9,q8,l8,l7,E5,C9,G7,IntKind.bits,D6,r9,o7] <;> omega) | assumption) only [K3,b0d,a2W,a2N]
   exact H6.done ⟨by rw [e1],fun i hi=>by simp (config:={ maxSteps:=10000000 }) (disch:=first | assumption | omega | (simp only [l9,w9,F3,j6,A8,E8,D8,I5,G9,I9,I8,H7,o9,D5,G8,Nat.reduceAdd,D7,E9,Nat.reduceBEq,G5,F9,d9,j5,l6,z8,D9,F7,F5,F4,G6,C8,q9,A9,q8,l8,l7,E5,C9,G7,IntKind.bits,D6,r9,o7] <;> omega) | assumption) only [F6]⟩
 · simp only at e2
   simp (config:={ maxSteps:=10000000 }) (disch:=first | assumption | omega | (simp only [l9,w9,F3,j6,A8,E8,D8,I5,G9,I9,I8,H7,o9,D5,G8,Nat.reduceAdd,D7,E9,Nat.reduceBEq,G5,F9,d9,j5,l6,z8,D9,F7,F5,F4,G6,C8,q9,A9,q8,l8,l7,E5,C9,G7,IntKind.bits,D6,r9,o7] <;> omega) | assumption) only [K3,a5Y,e2]
   exact H6.done ⟨by rw [e1],fun i hi=>by simp (config:={ maxSteps:=10000000 }) (disch:=first | assumption | omega | (simp only [l9,w9,F3,j6,A8,E8,D8,I5,G9,I9,I8,H7,o9,D5,G8,Nat.reduceAdd,D7,E9,Nat.reduceBEq,G5,F9,d9,j5,l6,z8,D9,F7,F5,F4,G6,C8,q9,A9,q8,l8,l7,E5,C9,G7,IntKind.bits,D6,r9,o7] <;> omega) | assumption) only [F6]⟩
noncomputable def rdI (v:Value):M (List Int):=M.bind (c1Q v) fun vs=>M.obind (b1X .i64 vs) fun l=>M.guard (Nat.blt (L9 l) 1000) (M.pure l)
theorem Fr.rdI (v:Value):Fr (rdI v):=Fr.bind (Fr.rdSl v) fun _=>Fr.obind _ fun _=>Fr.guard _ (Fr.pure _)
theorem b4E {v:Value} {s s':V.S} {l:List Int} (h:rdI v s=some (l,s')):Q6 s.c s.h v (P6 l)∧l.length<1000∧s'.c=s.c∧s'.h=s.h:=by
 obtain ⟨vs,s1,h1,h2⟩:=O7 h
 obtain ⟨l',h3,h4⟩:=U2 h2
 obtain ⟨h5,h6⟩:=U1 h4
 obtain ⟨rfl,rfl⟩:=J8 h6
 obtain ⟨q1,q2,q3⟩:=c5f h1
 rw [c2p h3] at q1
 rw [Z5] at h5
 exact ⟨q1,by simpa [Nat.blt_eq] using h5,q2,q3⟩
theorem b4A {c c':Nat} {h h':Trie VObj} {v:Value} {l:List Int} (H:Q6 c h v (P6 l)) (hl:l.length<1000) (hc:c≤c') (hh:∀ b,b<c→h'.get b=h.get b) :
 ∃ q:List Nat→List Nat, ∀ r w,go (rdI v) ⟨c',h',r,w⟩=some (l,⟨c',h',q r,w⟩):=by
 obtain ⟨q,hq⟩:=c5e H hc hh
 refine ⟨q,fun r w=>?_⟩
 unfold rdI
 rw [J6,hq,I4,c3W,Q9,Z5,H9 hl,R5]
 rfl
noncomputable def XL (q:List Int→Option Value) (bs:List Value):M Value:=match bs with
 | [v]=>M.bind (rdI v) fun l=>M.lift (q l)
 | _=>M.fail
theorem d6G (q:List Int→Option Value) (bs:List Value):Fr (XL q bs):=by
 unfold XL
 split
 · exact Fr.bind (Fr.rdI _) fun _=>Fr.lift _
 · exact Fr.fail
theorem d2M {q:List Int→Option Value} {bs:List Value} {s s':V.S} {x:Value} (h:XL q bs s=some (x,s')):∃ v l,bs=[v]∧Q6 s.c s.h v (P6 l)∧l.length<1000∧q l=some x∧s'.c=s.c∧s'.h=s.h:=by
 unfold XL at h
 split at h
 · rename_i v
   obtain ⟨l,s1,h1,h2⟩:=O7 h
   obtain ⟨h3,rfl⟩:=a6a h2
   obtain ⟨q1,q2,q3,q4⟩:=b4E h1
   exact ⟨v,l,rfl,q1,q2,h3,q3,q4⟩
 · cases h
theorem d2L {q:List Int→Option Value} {c c':Nat} {h h':Trie VObj} {v x:Value} {l:List Int} (H:Q6 c h v (P6 l)) (hl:l.length<1000) (hc:c≤c') (hh:∀ b,b<c→h'.get b=h.get b) (e:q l=some x) :
 ∃ z:List Nat→List Nat, ∀ r w,go (XL q [v]) ⟨c',h',r,w⟩=some (x,⟨c',h',z r,w⟩):=by
 obtain ⟨z,hz⟩:=b4A H hl hc hh
 refine ⟨z,fun r w=>?_⟩
 show go (M.bind (rdI v) fun l=>M.lift (q l)) _=_
 rw [J6,hz,I4,e]
 rfl
theorem b3P {sh:a1N} {f:Nat} {g:List Value→M Value} (h:sh.get f=some (arX g)) (m:Nat) {bs:List Value} {s s':V.S} {x:Value} (e:go (g bs) s=some (x,s')):go (K4 sh (m+1) f bs) s=some (.ret x,s'):=by
 rw [a8j sh m f bs h,J6,e]; rfl
noncomputable def XI (q:Ins→Option Value) (bs:List Value):M Value:=match bs with
 | [.agg ⟨[.int .i64 op,.int .i64 A,.int .i64 B,.int .u64 (.ofNat N),.int .i64 k,.int .i64 v,.int .i64 i,tv,lv]⟩]=>
   M.bind (rdI tv) fun ts=>M.bind (rdI lv) fun ls=>M.lift (q ⟨op,A,B,N,k,v,i,ts,ls⟩)
 | _=>M.fail
theorem e0Q (q:Ins→Option Value) (bs:List Value):Fr (XI q bs):=by
 unfold XI
 split
 · exact Fr.bind (Fr.rdI _) fun _=>Fr.bind (Fr.rdI _) fun _=>Fr.lift _
 · exact Fr.fail
structure InsAt (c:Nat) (h:Trie VObj) (X:Ins) (x:Value):Prop where
 ex:∃ tv lv,x=I7 X tv lv∧Q6 c h tv (P6 X.types)∧Q6 c h lv (P6 X.labels)
 t:X.types.length<1000
 l:X.labels.length<1000
theorem InsAt.mono {c c':Nat} {h h':Trie VObj} {X:Ins} {x:Value} (H:InsAt c h X x) (hc:c≤c') (hh:∀ b,b<c→h'.get b=h.get b):InsAt c' h' X x:=by
 obtain ⟨⟨tv,lv,e,h1,h2⟩,h3,h4⟩:=H
 exact ⟨⟨tv,lv,e,h1.mono hc hh,h2.mono hc hh⟩,h3,h4⟩
theorem d1Z {q:Ins→Option Value} {bs:List Value} {s s':V.S} {y:Value} (h:XI q bs s=some (y,s')):∃ X x,bs=[x]∧InsAt s.c s.h X x∧q X=some y∧s'.c=s.c∧s'.h=s.h:=by
 unfold XI at h
 split at h
 · rename_i op A B N k v i tv lv
   obtain ⟨ts,s1,h1,h2⟩:=O7 h
   obtain ⟨ls,s2,h3,h4⟩:=O7 h2
   obtain ⟨h5,rfl⟩:=a6a h4
   obtain ⟨q1,q2,q3,q4⟩:=b4E h1
   obtain ⟨p1,p2,p3,p4⟩:=b4E h3
   rw [q3,q4] at p1
   exact ⟨_,_,rfl,⟨⟨tv,lv,rfl,q1,p1⟩,q2,p2⟩,h5,by rw [p3,q3],by rw [p4,q4]⟩
 · cases h
theorem b3h {q:Ins→Option Value} {c c':Nat} {h h':Trie VObj} {X:Ins} {x y:Value} (H:InsAt c h X x) (hc:c≤c') (hh:∀ b,b<c→h'.get b=h.get b) (e:q X=some y) :
 ∃ z:List Nat→List Nat, ∀ r w,go (XI q [x]) ⟨c',h',r,w⟩=some (y,⟨c',h',z r,w⟩):=by
 obtain ⟨⟨tv,lv,rfl,h1,h2⟩,h3,h4⟩:=H
 obtain ⟨z1,e1⟩:=b4A h1 h3 hc hh
 obtain ⟨z2,e2⟩:=b4A h2 h4 hc hh
 refine ⟨fun r=>z2 (z1 r),fun r w=>?_⟩
 show go (M.bind (rdI tv) fun ts=>M.bind (rdI lv) fun ls=>M.lift (q ⟨X.op,X.A,X.B,X.N,X.k,X.v,X.i,ts,ls⟩)) _=_
 rw [J6,e1,I4,J6,e2,I4]
 show go (M.lift (q X)) _=_
 rw [e]
 rfl
theorem b4x {ext:Nat→Option (List Value→M Value)} {sh:a1N} (L:Shelf' Tryz.prog R4 (V6 mL) NN ext sh) {f:Nat} {fn:Func} {cd:Code} (hPf:Tryz.prog.funcs[f]?=some fn) (hnum:(fn.name == "runtime.NumGoroutine")=false) (hb:fn.body=some cd)
 {q:Ins→Option Value} (h:∀ X x y c hp,InsAt c hp X x→q X=some y→a0e 8 y=true∧∃ m, ∀ r w,H6 (go (K4 sh m f [x]) ⟨c,hp,r,w⟩) fun z s2=>z=.ret y∧∀ i,i<c→s2.h.get i=hp.get i):Y4 Tryz.prog R4 (V6 mL) f (XI q):=
 b1n a2m a0w L.e L.s hPf hnum hb (e0Q q) fun bs s y s1 hq=>by
  obtain ⟨X,x,rfl,h1,h2,h3,h4⟩:=d1Z hq
  refine ⟨(h X x y s.c s.h h1 h2).1,h3,h4,fun c hc=>?_⟩
  obtain ⟨_,m,hm⟩:=h X x y c s.h (h1.mono hc fun _ _=>rfl) h2
  exact ⟨m,hm s.r s.w⟩
theorem d4m (n:Nat) (z:Int):K4 s3 (n+1) 59 [.int .i64 z]=M.pure (.ret (.bool (idxB z))):=a2x (q:=fun z=>some (.bool (idxB z))) (by kernel_rfl) n rfl
theorem d6Z:Y4 Tryz.prog R4 (V6 mL) 60 (XL fun l=>some (.bool (idxAll l))):=b1n a2m a0w L3.e (L3 (mL:=mL)).s Tryz.func60 (by kernel_rfl) rfl (d6G _) fun bs s y s1 hq=>by
 obtain ⟨v,l,rfl,h1,h2,h3,h4,h5⟩:=d2M hq
 cases h3
 refine ⟨rfl,h4,h5,fun c hc=>⟨2, ?_⟩⟩
 rw [a2H (q:=b8T) (N:=NN) (by kernel_rfl) 1]
 exact (t60 NN _ (d4m 0) c s.h v l (h1.mono hc fun _ _=>rfl) (by omega) (by show l.length<100000; omega) s.r s.w).mono fun x s2 ⟨a,b,d⟩=>⟨a,fun i _=>by rw [d]⟩
theorem d3O (N:Nat) (call:o8) (X:Ins) (tv lv:Value) (K:Nat) (ua ub uc:Bool) (h39:call 39 [.int .i64 X.op]=M.pure (.ret (.int .i64 (.ofNat K)))) (h84:call 84 [.int .i64 (.ofNat K)]=M.pure (.ret (.tuple ⟨[.bool ua,.bool ub,.bool uc]⟩))) (h85:call 85 [.int .i64 X.op]=M.pure (.ret (.bool false)))
 (c:Nat) (h:Trie VObj) (Ht:Q6 c h tv (P6 X.types)) (Hl:Q6 c h lv (P6 X.labels)) (r w:List Nat) :
 H6 (go (b2W H8 N call (I7 X tv lv)) ⟨c,h,r,w⟩) fun x s=>x=.ret (.bool false)∧∀ i,i<c→s.h.get i=h.get i:=by
 obtain ⟨ta,te,rfl,_⟩:=id Ht
 obtain ⟨la,le,rfl,_⟩:=id Hl
 simp (config:={ maxSteps:=10000000 }) (disch:=first | assumption | omega | (simp only [l9,w9,F3,j6,A8,E8,D8,I5,G9,I9,I8,H7,o9,D5,G8,Nat.reduceAdd,D7,E9,Nat.reduceBEq,G5,F9,d9,j5,l6,z8,D9,F7,F5,F4,G6,C8,q9,A9,q8,l8,l7,E5,C9,G7,IntKind.bits,D6,r9,o7] <;> omega) | assumption) only [b2W,c2h,c2Q,c2r,c1r,c1y,c2P,b7Y,b9a,b7K,b8W,b8Z,b9q,b8c,b6B,b9k,b8l,b7j,b6W,b8B,I7,h39,h84,h85,G9,I5,bn,un,U0,V5,U6,a1P,J6,I4,K3,J4,a2W,a5N,U3,a4w,a1X,J3,J2,a2M,a3P,a3O,a5y,X4,Y3,b5Y,b0K,b3W,a6j,M6,K6,V.e1g,Q9,P8,a0v,R7,Q7,a7u,G5,F9,a7r,T9,M7,M8,K8,M5,H9,I6,K9,M0,O6,S9,J5,J7,G8,Nat.add_zero]
 exact H6.done ⟨rfl,fun i hi=>by simp (config:={ maxSteps:=10000000 }) (disch:=first | assumption | omega | (simp only [l9,w9,F3,j6,A8,E8,D8,I5,G9,I9,I8,H7,o9,D5,G8,Nat.reduceAdd,D7,E9,Nat.reduceBEq,G5,F9,d9,j5,l6,z8,D9,F7,F5,F4,G6,C8,q9,A9,q8,l8,l7,E5,C9,G7,IntKind.bits,D6,r9,o7] <;> omega) | assumption) only [F6]⟩
end Go.Proofs.YtmomonnlmbljoaaGreatDoor
end
section
namespace Go.Proofs.YtmomonnlmbljoaaGreatDoor
open Go.V Go.RowKit Go.Shelf Go.Proofs
set_option maxRecDepth 1000000
theorem fA (X:Ins):(!(decide (X.A=0)) || idxB X.A)=true:=by
 by_cases h:X.A=0
 · rw [h]; decide
 · simp [h]
theorem fB (X:Ins):(!(decide (X.B=0)) || idxB X.B)=true:=by
 by_cases h:X.B=0
 · rw [h]; decide
 · simp [h]
theorem fN (X:Ins):(!(X.N.beq 0) || X.N.blt 4294967296)=true:=by
 cases h:X.N.beq 0 with
 | true=>rw [Nat.eq_of_beq_eq_true h]; decide
 | false=>rfl
theorem fl (X:Ins):(Nat.blt 0 X.labels.length || idxAll X.labels)=true:=by
 cases X.labels with
 | nil=>rfl
 | cons a l=>rw [H9 (by simp)]; rfl
theorem f63 (X:Ins):(!(decide (X.A≤63)) || decide (X.A<4294967296))=true:=by
 by_cases h:X.A≤63
 · have:X.A<4294967296:=by omega
   simp [h,this]
 · simp [h]
theorem f34 (X:Ins):(!(decide (X.A=3) || decide (X.A=4)) || idxB X.A)=true:=by
 by_cases h:X.A=3
 · rw [h]; decide
 · by_cases h':X.A=4
   · rw [h']; decide
   · simp [h,h']
noncomputable def a2D (K:Nat) (X:Ins):Bool:=!K.beq 1 && !a5c X || !K.beq 3 && Nat.blt 0 X.labels.length || !K.beq 6 && Nat.blt 0 X.types.length
noncomputable def pK (K:Nat) (X:Ins):Bool:=a2w K (uA K) (uB K) (uN K) X
theorem c8t {K:Nat} {X:Ins} (g:a2D K X=true):pK K X=false:=by
 unfold a2D at g
 unfold pK a2w a4D
 revert g
 generalize a4y (uA K) (uB K) (uN K) X=b1
 generalize K.beq 1=k1
 generalize K.beq 3=k3
 generalize K.beq 6=k6
 generalize K.beq 19=k19
 generalize X.N.blt 4294967296=nl
 generalize a5c X=bl
 generalize Nat.blt 0 X.types.length=t
 generalize Nat.blt 0 X.labels.length=l
 generalize a2B K X=rb
 revert b1 k1 k3 k6 k19 nl bl t l rb
 decide +kernel
theorem d8P {X:Ins} (g:a2D 0 X=false):(decide (X.A=0) && decide (X.B=0) && X.N.beq 0)=pK 0 X:=by
 unfold a2D at g
 unfold pK a2w a4y a4D
 rw [show a2B 0 X=idxAll X.labels from rfl]
 have F:((!(decide (X.A=0)) || idxB X.A) && (!(decide (X.B=0)) || idxB X.B) && (!(X.N.beq 0) || X.N.blt 4294967296) && (Nat.blt 0 X.labels.length || idxAll X.labels))=true:=by rw [fA,fB,fN,fl]; rfl
 revert g F
 generalize Nat.blt 0 X.labels.length=l
 generalize Nat.blt 0 X.types.length=t
 generalize X.N.blt 4294967296=nl
 generalize decide (X.A=0)=a
 generalize decide (X.B=0)=b
 generalize idxAll X.labels=il
 generalize X.N.beq 0=n
 generalize idxB X.A=ia
 generalize idxB X.B=ib
 generalize a5c X=bl
 revert a ia b ib n nl bl t l il
 decide +kernel
theorem d8s {X:Ins} (g:a2D 1 X=false):(decide (X.A=0) && decide (X.B=0) && X.N.beq 0 && a4H X.k X.v X.i)=pK 1 X:=by
 unfold a2D at g
 unfold pK a2w a4y a4D
 rw [show a2B 1 X=a4H X.k X.v X.i from rfl]
 have F:((!(decide (X.A=0)) || idxB X.A) && (!(decide (X.B=0)) || idxB X.B) && (!(X.N.beq 0) || X.N.blt 4294967296))=true:=by rw [fA,fB,fN]; rfl
 revert g F
 generalize Nat.blt 0 X.labels.length=l
 generalize Nat.blt 0 X.types.length=t
 generalize X.N.blt 4294967296=nl
 generalize decide (X.A=0)=a
 generalize decide (X.B=0)=b
 generalize a4H X.k X.v X.i=bb
 generalize X.N.beq 0=n
 generalize idxB X.A=ia
 generalize idxB X.B=ib
 generalize a5c X=bl
 revert a ia b ib n nl bl bb t l
 decide +kernel
theorem d7a {X:Ins} (g:a2D 3 X=false):(idxB X.A && decide (X.B=0) && X.N.beq 0 && idxAll X.labels)=pK 3 X:=by
 unfold a2D at g
 unfold pK a2w a4y a4D
 rw [show a2B 3 X=idxAll X.labels from rfl]
 have F:((!(decide (X.A=0)) || idxB X.A) && (!(decide (X.B=0)) || idxB X.B) && (!(X.N.beq 0) || X.N.blt 4294967296) && (Nat.blt 0 X.labels.length || idxAll X.labels))=true:=by rw [fA,fB,fN,fl]; rfl
 revert g F
 generalize Nat.blt 0 X.labels.length=l
 generalize Nat.blt 0 X.types.length=t
 generalize X.N.blt 4294967296=nl
 generalize decide (X.A=0)=a
 generalize decide (X.B=0)=b
 generalize idxAll X.labels=il
 generalize X.N.beq 0=n
 generalize idxB X.A=ia
 generalize idxB X.B=ib
 generalize a5c X=bl
 revert a ia b ib n nl bl t l il
 decide +kernel
theorem d5X {X:Ins} (g:a2D 6 X=false):(decide (X.A=0) && decide (X.B=0) && X.N.beq 0 && a7W X.types)=pK 6 X:=by
 unfold a2D at g
 unfold pK a2w a4y a4D
 rw [show a2B 6 X=a7W X.types from rfl]
 have F:((!(decide (X.A=0)) || idxB X.A) && (!(decide (X.B=0)) || idxB X.B) && (!(X.N.beq 0) || X.N.blt 4294967296))=true:=by rw [fA,fB,fN]; rfl
 revert g F
 generalize Nat.blt 0 X.labels.length=l
 generalize Nat.blt 0 X.types.length=t
 generalize X.N.blt 4294967296=nl
 generalize decide (X.A=0)=a
 generalize decide (X.B=0)=b
 generalize a7W X.types=ty
 generalize X.N.beq 0=n
 generalize idxB X.A=ia
 generalize idxB X.B=ib
 generalize a5c X=bl
 revert a ia b ib n nl bl ty t l
 decide +kernel
theorem d5q {X:Ins} (g:a2D 2 X=false):(idxB X.A && decide (X.B=0) && X.N.beq 0)=pK 2 X:=by
 unfold a2D at g
 unfold pK a2w a4y a4D
 rw [show a2B 2 X=idxAll X.labels from rfl]
 have F:((!(decide (X.A=0)) || idxB X.A) && (!(decide (X.B=0)) || idxB X.B) && (!(X.N.beq 0) || X.N.blt 4294967296) && (Nat.blt 0 X.labels.length || idxAll X.labels))=true:=by rw [fA,fB,fN,fl]; rfl
 revert g F
 generalize Nat.blt 0 X.labels.length=l
 generalize Nat.blt 0 X.types.length=t
 generalize X.N.blt 4294967296=nl
 generalize decide (X.A=0)=a
 generalize decide (X.B=0)=b
 generalize idxAll X.labels=il
 generalize X.N.beq 0=n
 generalize idxB X.A=ia
 generalize idxB X.B=ib
 generalize a5c X=bl
 revert a ia b ib n nl bl t l il
 decide +kernel
theorem d7H {X:Ins} (g:a2D 4 X=false):(idxB X.A && decide (X.B=0) && X.N.beq 0)=pK 4 X:=by
 unfold a2D at g
 unfold pK a2w a4y a4D
 rw [show a2B 4 X=idxAll X.labels from rfl]
 have F:((!(decide (X.A=0)) || idxB X.A) && (!(decide (X.B=0)) || idxB X.B) && (!(X.N.beq 0) || X.N.blt 4294967296) && (Nat.blt 0 X.labels.length || idxAll X.labels))=true:=by rw [fA,fB,fN,fl]; rfl
 revert g F
 generalize Nat.blt 0 X.labels.length=l
 generalize Nat.blt 0 X.types.length=t
 generalize X.N.blt 4294967296=nl
 generalize decide (X.A=0)=a
 generalize decide (X.B=0)=b
 generalize idxAll X.labels=il
 generalize X.N.beq 0=n
 generalize idxB X.A=ia
 generalize idxB X.B=ib
 generalize a5c X=bl
 revert a ia b ib n nl bl t l il
 decide +kernel
theorem d3e {X:Ins} (g:a2D 7 X=false):(idxB X.A && decide (X.B=0) && X.N.beq 0)=pK 7 X:=by
 unfold a2D at g
 unfold pK a2w a4y a4D
 rw [show a2B 7 X=idxAll X.labels from rfl]
 have F:((!(decide (X.A=0)) || idxB X.A) && (!(decide (X.B=0)) || idxB X.B) && (!(X.N.beq 0) || X.N.blt 4294967296) && (Nat.blt 0 X.labels.length || idxAll X.labels))=true:=by rw [fA,fB,fN,fl]; rfl
 revert g F
 generalize Nat.blt 0 X.labels.length=l
 generalize Nat.blt 0 X.types.length=t
 generalize X.N.blt 4294967296=nl
 generalize decide (X.A=0)=a
 generalize decide (X.B=0)=b
 generalize idxAll X.labels=il
 generalize X.N.beq 0=n
 generalize idxB X.A=ia
 generalize idxB X.B=ib
 generalize a5c X=bl
 revert a ia b ib n nl bl t l il
 decide +kernel
theorem d3x {X:Ins} (g:a2D 8 X=false):(idxB X.A && decide (X.B=0) && X.N.beq 0)=pK 8 X:=by
 unfold a2D at g
 unfold pK a2w a4y a4D
 rw [show a2B 8 X=idxAll X.labels from rfl]
 have F:((!(decide (X.A=0)) || idxB X.A) && (!(decide (X.B=0)) || idxB X.B) && (!(X.N.beq 0) || X.N.blt 4294967296) && (Nat.blt 0 X.labels.length || idxAll X.labels))=true:=by rw [fA,fB,fN,fl]; rfl
 revert g F
 generalize Nat.blt 0 X.labels.length=l
 generalize Nat.blt 0 X.types.length=t
 generalize X.N.blt 4294967296=nl
 generalize decide (X.A=0)=a
 generalize decide (X.B=0)=b
 generalize idxAll X.labels=il
 generalize X.N.beq 0=n
 generalize idxB X.A=ia
 generalize idxB X.B=ib
 generalize a5c X=bl
 revert a ia b ib n nl bl t l il
 decide +kernel
theorem d5H {X:Ins} (g:a2D 9 X=false):(idxB X.A && decide (X.B=0) && X.N.beq 0)=pK 9 X:=by
 unfold a2D at g
 unfold pK a2w a4y a4D
 rw [show a2B 9 X=idxAll X.labels from rfl]
 have F:((!(decide (X.A=0)) || idxB X.A) && (!(decide (X.B=0)) || idxB X.B) && (!(X.N.beq 0) || X.N.blt 4294967296) && (Nat.blt 0 X.labels.length || idxAll X.labels))=true:=by rw [fA,fB,fN,fl]; rfl
 revert g F
 generalize Nat.blt 0 X.labels.length=l
 generalize Nat.blt 0 X.types.length=t
 generalize X.N.blt 4294967296=nl
 generalize decide (X.A=0)=a
 generalize decide (X.B=0)=b
 generalize idxAll X.labels=il
 generalize X.N.beq 0=n
 generalize idxB X.A=ia
 generalize idxB X.B=ib
 generalize a5c X=bl
 revert a ia b ib n nl bl t l il
 decide +kernel
theorem d0D {X:Ins} (g:a2D 12 X=false):(idxB X.A && decide (X.B=0) && X.N.beq 0)=pK 12 X:=by
 unfold a2D at g
 unfold pK a2w a4y a4D
 rw [show a2B 12 X=idxAll X.labels from rfl]
 have F:((!(decide (X.A=0)) || idxB X.A) && (!(decide (X.B=0)) || idxB X.B) && (!(X.N.beq 0) || X.N.blt 4294967296) && (Nat.blt 0 X.labels.length || idxAll X.labels))=true:=by rw [fA,fB,fN,fl]; rfl
 revert g F
 generalize Nat.blt 0 X.labels.length=l
 generalize Nat.blt 0 X.types.length=t
 generalize X.N.blt 4294967296=nl
 generalize decide (X.A=0)=a
 generalize decide (X.B=0)=b
 generalize idxAll X.labels=il
 generalize X.N.beq 0=n
 generalize idxB X.A=ia
 generalize idxB X.B=ib
 generalize a5c X=bl
 revert a ia b ib n nl bl t l il
 decide +kernel
theorem d1w {X:Ins} (g:a2D 16 X=false):(idxB X.A && decide (X.B=0) && X.N.beq 0)=pK 16 X:=by
 unfold a2D at g
 unfold pK a2w a4y a4D
 rw [show a2B 16 X=idxAll X.labels from rfl]
 have F:((!(decide (X.A=0)) || idxB X.A) && (!(decide (X.B=0)) || idxB X.B) && (!(X.N.beq 0) || X.N.blt 4294967296) && (Nat.blt 0 X.labels.length || idxAll X.labels))=true:=by rw [fA,fB,fN,fl]; rfl
 revert g F
 generalize Nat.blt 0 X.labels.length=l
 generalize Nat.blt 0 X.types.length=t
 generalize X.N.blt 4294967296=nl
 generalize decide (X.A=0)=a
 generalize decide (X.B=0)=b
 generalize idxAll X.labels=il
 generalize X.N.beq 0=n
 generalize idxB X.A=ia
 generalize idxB X.B=ib
 generalize a5c X=bl
 revert a ia b ib n nl bl t l il
 decide +kernel
theorem d6i {X:Ins} (g:a2D 5 X=false):(idxB X.A && idxB X.B && X.N.beq 0)=pK 5 X:=by
 unfold a2D at g
 unfold pK a2w a4y a4D
 rw [show a2B 5 X=idxAll X.labels from rfl]
 have F:((!(decide (X.A=0)) || idxB X.A) && (!(decide (X.B=0)) || idxB X.B) && (!(X.N.beq 0) || X.N.blt 4294967296) && (Nat.blt 0 X.labels.length || idxAll X.labels))=true:=by rw [fA,fB,fN,fl]; rfl
 revert g F
 generalize Nat.blt 0 X.labels.length=l
 generalize Nat.blt 0 X.types.length=t
 generalize X.N.blt 4294967296=nl
 generalize decide (X.A=0)=a
 generalize decide (X.B=0)=b
 generalize idxAll X.labels=il
 generalize X.N.beq 0=n
 generalize idxB X.A=ia
 generalize idxB X.B=ib
 generalize a5c X=bl
 revert a ia b ib n nl bl t l il
 decide +kernel
theorem d1l {X:Ins} (g:a2D 10 X=false):(idxB X.A && idxB X.B && X.N.beq 0)=pK 10 X:=by
 unfold a2D at g
 unfold pK a2w a4y a4D
 rw [show a2B 10 X=idxAll X.labels from rfl]
 have F:((!(decide (X.A=0)) || idxB X.A) && (!(decide (X.B=0)) || idxB X.B) && (!(X.N.beq 0) || X.N.blt 4294967296) && (Nat.blt 0 X.labels.length || idxAll X.labels))=true:=by rw [fA,fB,fN,fl]; rfl
 revert g F
 generalize Nat.blt 0 X.labels.length=l
 generalize Nat.blt 0 X.types.length=t
 generalize X.N.blt 4294967296=nl
 generalize decide (X.A=0)=a
 generalize decide (X.B=0)=b
 generalize idxAll X.labels=il
 generalize X.N.beq 0=n
 generalize idxB X.A=ia
 generalize idxB X.B=ib
 generalize a5c X=bl
 revert a ia b ib n nl bl t l il
 decide +kernel
theorem d1L {X:Ins} (g:a2D 11 X=false):(idxB X.A && idxB X.B && X.N.beq 0)=pK 11 X:=by
 unfold a2D at g
 unfold pK a2w a4y a4D
 rw [show a2B 11 X=idxAll X.labels from rfl]
 have F:((!(decide (X.A=0)) || idxB X.A) && (!(decide (X.B=0)) || idxB X.B) && (!(X.N.beq 0) || X.N.blt 4294967296) && (Nat.blt 0 X.labels.length || idxAll X.labels))=true:=by rw [fA,fB,fN,fl]; rfl
 revert g F
 generalize Nat.blt 0 X.labels.length=l
 generalize Nat.blt 0 X.types.length=t
 generalize X.N.blt 4294967296=nl
 generalize decide (X.A=0)=a
 generalize decide (X.B=0)=b
 generalize idxAll X.labels=il
 generalize X.N.beq 0=n
 generalize idxB X.A=ia
 generalize idxB X.B=ib
 generalize a5c X=bl
 revert a ia b ib n nl bl t l il
 decide +kernel
theorem d2S {X:Ins} (g:a2D 14 X=false):(idxB X.A && idxB X.B && X.N.beq 0)=pK 14 X:=by
 unfold a2D at g
 unfold pK a2w a4y a4D
 rw [show a2B 14 X=idxAll X.labels from rfl]
 have F:((!(decide (X.A=0)) || idxB X.A) && (!(decide (X.B=0)) || idxB X.B) && (!(X.N.beq 0) || X.N.blt 4294967296) && (Nat.blt 0 X.labels.length || idxAll X.labels))=true:=by rw [fA,fB,fN,fl]; rfl
 revert g F
 generalize Nat.blt 0 X.labels.length=l
 generalize Nat.blt 0 X.types.length=t
 generalize X.N.blt 4294967296=nl
 generalize decide (X.A=0)=a
 generalize decide (X.B=0)=b
 generalize idxAll X.labels=il
 generalize X.N.beq 0=n
 generalize idxB X.A=ia
 generalize idxB X.B=ib
 generalize a5c X=bl
 revert a ia b ib n nl bl t l il
 decide +kernel
theorem d1T {X:Ins} (g:a2D 15 X=false):(idxB X.A && idxB X.B && X.N.beq 0)=pK 15 X:=by
 unfold a2D at g
 unfold pK a2w a4y a4D
 rw [show a2B 15 X=idxAll X.labels from rfl]
 have F:((!(decide (X.A=0)) || idxB X.A) && (!(decide (X.B=0)) || idxB X.B) && (!(X.N.beq 0) || X.N.blt 4294967296) && (Nat.blt 0 X.labels.length || idxAll X.labels))=true:=by rw [fA,fB,fN,fl]; rfl
 revert g F
 generalize Nat.blt 0 X.labels.length=l
 generalize Nat.blt 0 X.types.length=t
 generalize X.N.blt 4294967296=nl
 generalize decide (X.A=0)=a
 generalize decide (X.B=0)=b
 generalize idxAll X.labels=il
 generalize X.N.beq 0=n
 generalize idxB X.A=ia
 generalize idxB X.B=ib
 generalize a5c X=bl
 revert a ia b ib n nl bl t l il
 decide +kernel
theorem d1Y {X:Ins} (g:a2D 13 X=false):(decide (X.A=0) && idxB X.B && X.N.beq 0)=pK 13 X:=by
 unfold a2D at g
 unfold pK a2w a4y a4D
 rw [show a2B 13 X=idxAll X.labels from rfl]
 have F:((!(decide (X.A=0)) || idxB X.A) && (!(decide (X.B=0)) || idxB X.B) && (!(X.N.beq 0) || X.N.blt 4294967296) && (Nat.blt 0 X.labels.length || idxAll X.labels))=true:=by rw [fA,fB,fN,fl]; rfl
 revert g F
 generalize Nat.blt 0 X.labels.length=l
 generalize Nat.blt 0 X.types.length=t
 generalize X.N.blt 4294967296=nl
 generalize decide (X.A=0)=a
 generalize decide (X.B=0)=b
 generalize idxAll X.labels=il
 generalize X.N.beq 0=n
 generalize idxB X.A=ia
 generalize idxB X.B=ib
 generalize a5c X=bl
 revert a ia b ib n nl bl t l il
 decide +kernel
theorem d2x {X:Ins} (g:a2D 17 X=false):(decide (0≤X.A) && decide (X.A≤63) && idxB X.B && X.N.blt 4294967296)=pK 17 X:=by
 unfold a2D at g
 unfold pK a2w a4y a4D
 rw [show a2B 17 X=decide (X.A≤63) from rfl]
 have F:((!(decide (X.B=0)) || idxB X.B) && (!(X.N.beq 0) || X.N.blt 4294967296) && (!(decide (X.A≤63)) || decide (X.A<4294967296)))=true:=by rw [fB,fN,f63]; rfl
 revert g F
 rw [show idxB X.A=(decide (0≤X.A) && decide (X.A<4294967296)) from rfl]
 generalize decide (X.A<4294967296)=aw
 generalize Nat.blt 0 X.labels.length=l
 generalize Nat.blt 0 X.types.length=t
 generalize X.N.blt 4294967296=nl
 generalize decide (X.A≤63)=a63
 generalize decide (X.A=0)=a
 generalize decide (0≤X.A)=a0
 generalize decide (X.B=0)=b
 generalize X.N.beq 0=n
 generalize idxB X.B=ib
 generalize a5c X=bl
 revert a a0 aw a63 b ib n nl bl t l
 decide +kernel
theorem c9E {X:Ins} (g:a2D 18 X=false):(decide (X.A=0) && decide (X.B=0) && X.N.blt 4294967296)=pK 18 X:=by
 unfold a2D at g
 unfold pK a2w a4y a4D
 rw [show a2B 18 X=idxAll X.labels from rfl]
 have F:((!(decide (X.A=0)) || idxB X.A) && (!(decide (X.B=0)) || idxB X.B) && (!(X.N.beq 0) || X.N.blt 4294967296) && (Nat.blt 0 X.labels.length || idxAll X.labels))=true:=by rw [fA,fB,fN,fl]; rfl
 revert g F
 generalize Nat.blt 0 X.labels.length=l
 generalize Nat.blt 0 X.types.length=t
 generalize X.N.blt 4294967296=nl
 generalize decide (X.A=0)=a
 generalize decide (X.B=0)=b
 generalize idxAll X.labels=il
 generalize X.N.beq 0=n
 generalize idxB X.A=ia
 generalize idxB X.B=ib
 generalize a5c X=bl
 revert a ia b ib n nl bl t l il
 decide +kernel
theorem d0o {X:Ins} (g:a2D 19 X=false):(decide (X.A=0) && decide (X.B=0))=pK 19 X:=by
 unfold a2D at g
 unfold pK a2w a4y a4D
 rw [show a2B 19 X=idxAll X.labels from rfl]
 have F:((!(decide (X.A=0)) || idxB X.A) && (!(decide (X.B=0)) || idxB X.B) && (!(X.N.beq 0) || X.N.blt 4294967296) && (Nat.blt 0 X.labels.length || idxAll X.labels))=true:=by rw [fA,fB,fN,fl]; rfl
 revert g F
 generalize Nat.blt 0 X.labels.length=l
 generalize Nat.blt 0 X.types.length=t
 generalize X.N.blt 4294967296=nl
 generalize decide (X.A=0)=a
 generalize decide (X.B=0)=b
 generalize idxAll X.labels=il
 generalize X.N.beq 0=n
 generalize idxB X.A=ia
 generalize idxB X.B=ib
 generalize a5c X=bl
 revert a ia b ib n nl bl t l il
 decide +kernel
theorem c9G {X:Ins} (g:a2D 20 X=false):((decide (X.A=3) || decide (X.A=4)) && decide (X.B=0) && X.N.beq 0)=pK 20 X:=by
 unfold a2D at g
 unfold pK a2w a4y a4D
 rw [show a2B 20 X=(decide (X.A=3) || decide (X.A=4)) from rfl]
 have F:((!(decide (X.A=0)) || idxB X.A) && (!(decide (X.B=0)) || idxB X.B) && (!(X.N.beq 0) || X.N.blt 4294967296) && (!(decide (X.A=3) || decide (X.A=4)) || idxB X.A))=true:=by rw [fA,fB,fN,f34]; rfl
 revert g F
 generalize Nat.blt 0 X.labels.length=l
 generalize Nat.blt 0 X.types.length=t
 generalize X.N.blt 4294967296=nl
 generalize decide (X.A=0)=a
 generalize decide (X.A=3)=a3
 generalize decide (X.A=4)=a4
 generalize decide (X.B=0)=b
 generalize X.N.beq 0=n
 generalize idxB X.A=ia
 generalize idxB X.B=ib
 generalize a5c X=bl
 revert a a3 a4 ia b ib n nl bl t l
 decide +kernel
end Go.Proofs.YtmomonnlmbljoaaGreatDoor
end
