import Derived.Test.YtmomonnlmbljoaaGreatDoorPbe
import Derived.Test.YtmomonnlmbljoaaGreatDoorPbf
section
namespace Go.Proofs.YtmomonnlmbljoaaGreatDoor
open Go.V Go.RowKit Go.Shelf Go.Proofs
set_option maxRecDepth 1000000
set_option linter.unusedVariables false
attribute [local congr] U8 U7 Y8 Z0 a0i a0h
variable {mL:Int}
theorem O9 {z:Int} (h:idxB z=true):∃ a:Nat,z=.ofNat a∧a<4294967296:=by
 unfold idxB at h
 rw [Bool.and_eq_true,decide_eq_true_eq,decide_eq_true_eq] at h
 exact ⟨z.toNat,by simp; omega,by omega⟩
theorem a8S:∀ {l:List Int},idxAll l=true→l=(l.map Int.toNat).map Int.ofNat∧∀ m∈l.map Int.toNat,m<4294967296:=by
 intro l
 induction l with
 | nil=>intro _; exact ⟨rfl,fun m h=>by cases h⟩
 | cons z l ih=>
   intro h
   have h':=(a0y _ _).1 (show a0o idxB (z::l)=true from h)
   obtain ⟨a,rfl,ha⟩:=O9 (h' z List.mem_cons_self)
   obtain ⟨q1,q2⟩:=ih (show a0o idxB l=true from (a0y _ _).2 fun x hx=>h' x (List.mem_cons_of_mem _ hx))
   refine ⟨?_, ?_⟩
   · rw [List.map_cons,List.map_cons, ← q1]; rfl
   · intro m hm
     rw [List.map_cons,List.mem_cons] at hm
     rcases hm with rfl | hm
     · exact ha
     · exact q2 m hm
structure PlainF (K:Nat) (X:Ins):Prop where
 A:idxB X.A=true
 B:idxB X.B=true
 N:K.beq 19=false→X.N<4294967296
 rest:a2B K X=true
theorem b9b {K:Nat} {X:Ins} (h:pK K X=true):PlainF K X:=by
 unfold pK a2w at h
 cases h1:a4y (uA K) (uB K) (uN K) X with
 | true=>rw [h1] at h; cases h
 | false=>
   cases h2:a4D K X with
   | true=>rw [h1,h2] at h; cases h
   | false=>
     rw [h1,h2] at h
     unfold a4y at h1
     unfold a4D at h2
     simp only [Bool.or_eq_false_iff,Bool.not_eq_false'] at h1
     refine ⟨h1.1.2,h1.2,fun hk=>?_,h⟩
     simp only [Bool.or_eq_false_iff] at h2
     have h3:=h2.1.1.1
     rw [hk] at h3
     simpa [Nat.blt_eq] using h3
theorem c5w:a0o (fun r:a4V=>!(r.2.2.beq 17) || (a4a a4i (Int.ofNat r.1)).isSome) a0j=true:=by kernel_rfl
theorem c6M {z:Int} (h:a0n z=17):∃ al,a4a a4i z=some al:=by
 unfold a0n at h
 cases hf:a0z z a0j with
 | none=>rw [hf] at h; cases h
 | some r=>
   rw [hf] at h
   obtain ⟨h1,h2⟩:=a6o z a0j r hf
   have h3:=(a0y _ _).1 c5w r h1
   rw [show r.2.2=17 from h, ← h2] at h3
   exact Option.isSome_iff_exists.1 h3
noncomputable def e5:Nat→Option (List Value→M Value):=a0m (a0m (a0m (a0m e4 34 (XI fun X=>some (.bool (a1G X)))) 19 (XI fun X=>some (.bool (a1G X)))) 15 (XB a9f)) 98 (X1 .i64 a6k)
noncomputable def s5:a1N:=a1O (a1O (a1O (a1O s4 34 (XI fun X=>some (.bool (a1G X)))) 19 (XI fun X=>some (.bool (a1G X)))) 15 (XB a9f)) 98 (X1 .i64 a6k)
theorem L5:Shelf' Tryz.prog R4 (V6 mL) NN e5 s5:=(((L4.add d3z).add d4L).add d8q).add d6H
theorem d7G (n m:Nat) (h:m<18446744073709551616):K4 s5 (n+1) 47 [.int .i64 (.ofNat m)]=M.pure (.ret (.string ⟨⟨X8 m⟩⟩)):=a2x (q:=q47) (by kernel_rfl) n (b7S m h)
theorem d6F (n m:Nat) (h:m<18446744073709551616):K4 s5 (n+1) 49 [.int .i64 (.ofNat m)]=M.pure (.ret (.string ⟨⟨a0C m⟩⟩)):=a2x (q:=q49) (by kernel_rfl) n (c3N m h)
theorem d6W (n m:Nat) (h:m<18446744073709551616):K4 s5 (n+1) 25 [.int .u64 (.ofNat m)]=M.pure (.ret (.string ⟨⟨Lib.decDigits m⟩⟩)):=a2x (q:=q25) (by kernel_rfl) n (c4z m h)
theorem d8u (n:Nat) (z:Int) (al:Nat) (h:a4a a4i z=some al):K4 s5 (n+1) 98 [.int .i64 z]=M.pure (.ret (.int .i64 (.ofNat al))):=a2x (q:=a6k) (by kernel_rfl) n (by unfold a6k; rw [h])
noncomputable def q48 (X:Ins):Option Value:=bcase (idxAll X.labels && idxB X.A) (some (.string ⟨⟨M4 (a7n (X.labels.map Int.toNat)) (X8 X.A.toNat)⟩⟩)) none
theorem c8L {X:Ins} {v:Value} (h:q48 X=some v):idxAll X.labels=true∧idxB X.A=true∧v=.string ⟨⟨M4 (a7n (X.labels.map Int.toNat)) (X8 X.A.toNat)⟩⟩:=by
 obtain ⟨h1,rfl⟩:=a2K h
 rw [Bool.and_eq_true] at h1
 exact ⟨h1.1,h1.2,rfl⟩
theorem d8V:Y4 Tryz.prog R4 (V6 mL) 48 (XI q48):=b4x L5 Tryz.func48 (by kernel_rfl) rfl fun X x y c hp H e=>by
 obtain ⟨h1,h2,rfl⟩:=c8L e
 obtain ⟨⟨tv,lv,rfl,Ht,Hl⟩,h3,h4⟩:=H
 obtain ⟨a,hA,ha⟩:=O9 h2
 obtain ⟨q1,q2⟩:=a8S h1
 refine ⟨rfl, 2,fun r w=>?_⟩
 rw [a2H (q:=b8z) (N:=NN) (by kernel_rfl) 1,hA]
 exact t48 NN (by decide) _ (d7G 0) X tv lv a _ hA ha q1 q2 (by rw [List.length_map]; exact h4) c hp Ht Hl r w
noncomputable def q52 (X:Ins):Option Value:=bcase ((idxB X.A && idxB X.B) && (decide (X.A≤63) && (X.N.blt 4294967296 && (a4a a4i X.op).isSome))) (some (.string ⟨⟨M4 (M4 (a0C X.B.toNat) (a5e X.N)) (a5f X.A.toNat ((a4a a4i X.op).getD 0))⟩⟩)) none
theorem c9y {X:Ins} {v:Value} (h:q52 X=some v):idxB X.A=true∧idxB X.B=true∧X.A≤63∧X.N<4294967296∧(∃ al,a4a a4i X.op=some al)∧v=.string ⟨⟨M4 (M4 (a0C X.B.toNat) (a5e X.N)) (a5f X.A.toNat ((a4a a4i X.op).getD 0))⟩⟩:=by
 obtain ⟨h1,rfl⟩:=a2K h
 simp only [Bool.and_eq_true,decide_eq_true_eq,Nat.blt_eq] at h1
 exact ⟨h1.1.1,h1.1.2,h1.2.1,h1.2.2.1,Option.isSome_iff_exists.1 h1.2.2.2,rfl⟩
theorem e0o:Y4 Tryz.prog R4 (V6 mL) 52 (XI q52):=b4x L5 Tryz.func52 (by kernel_rfl) rfl fun X x y c hp H e=>by
 obtain ⟨h1,h2,h5,h6,⟨al,hal⟩,rfl⟩:=c9y e
 obtain ⟨⟨tv,lv,rfl,Ht,Hl⟩,h3,h4⟩:=H
 obtain ⟨a,hA,ha⟩:=O9 h1
 obtain ⟨b,hB,hb⟩:=O9 h2
 refine ⟨rfl, 2,fun r w=>?_⟩
 obtain ⟨ta,te,rfl,_⟩:=Ht
 obtain ⟨la,le,rfl,_⟩:=Hl
 rw [a2H (q:=b1S) (N:=NN) (by kernel_rfl) 1,hA,hB,hal]
 unfold I7
 rw [hA,hB]
 exact t52 NN _ X.op a b X.N al X.k X.v X.i _ _ ⟨rfl,rfl⟩ (by rw [hA] at h5; simp only [Int.ofNat_eq_natCast] at h5; omega) hb h6 (d6F 0 b (by omega)) (d6W 0) (d8u 0 _ al hal) c hp r w _ _ _ _ _ _ rfl rfl
noncomputable def e6:Nat→Option (List Value→M Value):=a0m (a0m e5 48 (XI q48)) 52 (XI q52)
noncomputable def s6:a1N:=a1O (a1O s5 48 (XI q48)) 52 (XI q52)
theorem L6:Shelf' Tryz.prog R4 (V6 mL) NN e6 s6:=(L5.add d8V).add e0o
theorem a4L (n:Nat) (z:Int):K4 s6 (n+1) 45 [.int .i64 z]=M.pure (.ret (.string ⟨⟨V4 z⟩⟩)):=a2x (q:=fun z=>some (.string ⟨⟨V4 z⟩⟩)) (by kernel_rfl) n rfl
theorem a4K (n:Nat) (z:Int):K4 s6 (n+1) 46 [.int .i64 z]=M.pure (.ret (.int .i64 (.ofNat (a0n z)))):=a2x (q:=fun z=>some (.int .i64 (.ofNat (a0n z)))) (by kernel_rfl) n rfl
theorem a8H (n m:Nat) (h:m<18446744073709551616):K4 s6 (n+1) 47 [.int .i64 (.ofNat m)]=M.pure (.ret (.string ⟨⟨X8 m⟩⟩)):=a2x (q:=q47) (by kernel_rfl) n (b7S m h)
theorem b3m (n m:Nat) (h:m<18446744073709551616):K4 s6 (n+1) 49 [.int .i64 (.ofNat m)]=M.pure (.ret (.string ⟨⟨a0C m⟩⟩)):=a2x (q:=q49) (by kernel_rfl) n (c3N m h)
theorem c6Z (n m k:Nat) (h:m<18446744073709551616) (h':k<18446744073709551616):K4 s6 (n+1) 51 [.int .i64 (.ofNat m),.int .i64 (.ofNat k)]=M.pure (.ret (.string ⟨⟨a4A m k⟩⟩)):=Y2 (q:=q51) (by kernel_rfl) n (d2z m k h h')
theorem d0K (n m:Nat) (h:m<4294967296):K4 s6 (n+1) 53 [.int .u64 (.ofNat m),.int .i64 (.ofNat 32)]=M.pure (.ret (.string ⟨⟨Lib.itoa (sgn 32 m)⟩⟩)):=Y2 (q:=a6b) (by kernel_rfl) n (b8X m h)
theorem d0I (n m:Nat) (h:m<18446744073709551616):K4 s6 (n+1) 53 [.int .u64 (.ofNat m),.int .i64 (.ofNat 64)]=M.pure (.ret (.string ⟨⟨Lib.itoa (sgn 64 m)⟩⟩)):=Y2 (q:=a6b) (by kernel_rfl) n (b2U m h)
theorem d9L (n:Nat) (z:Int):K4 s6 (n+1) 50 [.int .i64 z]=M.pure (.ret (.string ⟨⟨a1Q z⟩⟩)):=a2x (q:=fun z=>some (.string ⟨⟨a1Q z⟩⟩)) (by kernel_rfl) n rfl
theorem d5t (n:Nat) (k v i:Int) (h1:-9223372036854775808≤i) (h2:i≤9223372036854775807):K4 s6 (n+1) 15 [.agg ⟨[.int .i64 k,.int .i64 v,.int .i64 i]⟩]=M.pure (.ret (.string ⟨⟨a5H k v i⟩⟩)):=b6j (q:=a9f) (by kernel_rfl) n (c0h k v i h1 h2)
theorem cI {q:Ins→Option Value} {sh:a1N} {f:Nat} (hf:sh.get f=some (arX (XI q))) {c:Nat} {h:Trie VObj} {X:Ins} {x y:Value} (H:InsAt c h X x) (e:q X=some y) (hh:Trie VObj) (hb:∀ b,b<c→hh.get b=h.get b) :
 ∃ z:List Nat→List Nat, ∀ r w,go (K4 sh 1 f [x]) ⟨c+1,hh,r,w⟩=some (.ret y,⟨c+1,hh,z r,w⟩):=by
 obtain ⟨z,hz⟩:=b3h H (Nat.le_succ c) hb e
 exact ⟨z,fun r w=>b3P hf 0 (hz r w)⟩
theorem b9j {k v i:Int} (h:a4H k v i=true):-9223372036854775808≤i∧i≤9223372036854775807:=by
 unfold a4H at h
 cases h0:decide (k=0) with
 | true=>
   rw [h0] at h
   have h':(decide (v=0) && decide (i=0))=true:=h
   simp only [Bool.and_eq_true,decide_eq_true_eq] at h'
   omega
 | false=>
   rw [h0] at h
   cases h1:decide (k=1) with
   | true=>
     rw [h1] at h
     have h':(a2E v && decide (i=0))=true:=h
     simp only [Bool.and_eq_true,decide_eq_true_eq] at h'
     omega
   | false=>
     rw [h1] at h
     have h':(decide (k=2) && decide (v=0) && idxB i)=true:=h
     rw [Bool.and_eq_true] at h'
     obtain ⟨a,rfl,ha⟩:=O9 h'.2
     simp only [Int.ofNat_eq_natCast]
     omega
theorem a0p {X:Ins} {K:Nat} (hk:a0n X.op=K) {T:List UInt8} (h:a2n K X=T):M4 (V4 X.op) T=R6 X:=by
 unfold R6; rw [hk,h]
theorem d5Y (X:Ins) (tv lv:Value) (hk:a0n X.op=0) (F:PlainF 0 X) (hN:X.N<18446744073709551616) (c:Nat) (h:Trie VObj) (h19:∀ hh,(∀ b,b<c→hh.get b=h.get b)→∃ z:List Nat→List Nat, ∀ r w,go (K4 s6 1 19 [I7 X tv lv]) ⟨c+1,hh,r,w⟩=some (.ret (.bool true),⟨c+1,hh,z r,w⟩))
 (H:InsAt c h X (I7 X tv lv)) (Ht:Q6 c h tv (P6 X.types)) (Hl:Q6 c h lv (P6 X.labels)) (r w:List Nat) :
 H6 (go (a0F H8 NN (K4 s6 1) (I7 X tv lv)) ⟨c,h,r,w⟩) fun x s=>x=.ret (.string ⟨⟨R6 X⟩⟩)∧∀ i,i<c→s.h.get i=h.get i:=by
 obtain ⟨a,hA,ha⟩:=O9 F.A
 obtain ⟨b,hB,hb⟩:=O9 F.B
 have h46:K4 s6 1 46 [.int .i64 X.op]=M.pure (.ret (.int .i64 (.ofNat 0))):=by rw [a4K 0,hk]
 exact (d9a NN _ X tv lv a b hA hB ha hb  c h h19 (a4L 0 _) h46 Ht Hl r w).mono fun x s ⟨q,q'⟩=>⟨by rw [q,a0p hk (by rfl)],q'⟩
theorem d4z (X:Ins) (tv lv:Value) (hk:a0n X.op=2) (F:PlainF 2 X) (hN:X.N<18446744073709551616) (c:Nat) (h:Trie VObj) (h19:∀ hh,(∀ b,b<c→hh.get b=h.get b)→∃ z:List Nat→List Nat, ∀ r w,go (K4 s6 1 19 [I7 X tv lv]) ⟨c+1,hh,r,w⟩=some (.ret (.bool true),⟨c+1,hh,z r,w⟩))
 (H:InsAt c h X (I7 X tv lv)) (Ht:Q6 c h tv (P6 X.types)) (Hl:Q6 c h lv (P6 X.labels)) (r w:List Nat) :
 H6 (go (a0F H8 NN (K4 s6 1) (I7 X tv lv)) ⟨c,h,r,w⟩) fun x s=>x=.ret (.string ⟨⟨R6 X⟩⟩)∧∀ i,i<c→s.h.get i=h.get i:=by
 obtain ⟨a,hA,ha⟩:=O9 F.A
 obtain ⟨b,hB,hb⟩:=O9 F.B
 have h46:K4 s6 1 46 [.int .i64 X.op]=M.pure (.ret (.int .i64 (.ofNat 2))):=by rw [a4K 0,hk]
 exact (d7F NN _ X tv lv a b hA hB ha hb (a8H 0) c h h19 (a4L 0 _) h46 Ht Hl r w).mono fun x s ⟨q,q'⟩=>⟨by rw [q,a0p hk (by unfold a2n; rw [hA]; rfl)],q'⟩
theorem d3D (X:Ins) (tv lv:Value) (hk:a0n X.op=4) (F:PlainF 4 X) (hN:X.N<18446744073709551616) (c:Nat) (h:Trie VObj) (h19:∀ hh,(∀ b,b<c→hh.get b=h.get b)→∃ z:List Nat→List Nat, ∀ r w,go (K4 s6 1 19 [I7 X tv lv]) ⟨c+1,hh,r,w⟩=some (.ret (.bool true),⟨c+1,hh,z r,w⟩))
 (H:InsAt c h X (I7 X tv lv)) (Ht:Q6 c h tv (P6 X.types)) (Hl:Q6 c h lv (P6 X.labels)) (r w:List Nat) :
 H6 (go (a0F H8 NN (K4 s6 1) (I7 X tv lv)) ⟨c,h,r,w⟩) fun x s=>x=.ret (.string ⟨⟨R6 X⟩⟩)∧∀ i,i<c→s.h.get i=h.get i:=by
 obtain ⟨a,hA,ha⟩:=O9 F.A
 obtain ⟨b,hB,hb⟩:=O9 F.B
 have h46:K4 s6 1 46 [.int .i64 X.op]=M.pure (.ret (.int .i64 (.ofNat 4))):=by rw [a4K 0,hk]
 exact (d4O NN _ X tv lv a b hA hB ha hb (a8H 0) c h h19 (a4L 0 _) h46 Ht Hl r w).mono fun x s ⟨q,q'⟩=>⟨by rw [q,a0p hk (by unfold a2n; rw [hA]; rfl)],q'⟩
theorem d8R (X:Ins) (tv lv:Value) (hk:a0n X.op=7) (F:PlainF 7 X) (hN:X.N<18446744073709551616) (c:Nat) (h:Trie VObj) (h19:∀ hh,(∀ b,b<c→hh.get b=h.get b)→∃ z:List Nat→List Nat, ∀ r w,go (K4 s6 1 19 [I7 X tv lv]) ⟨c+1,hh,r,w⟩=some (.ret (.bool true),⟨c+1,hh,z r,w⟩))
 (H:InsAt c h X (I7 X tv lv)) (Ht:Q6 c h tv (P6 X.types)) (Hl:Q6 c h lv (P6 X.labels)) (r w:List Nat) :
 H6 (go (a0F H8 NN (K4 s6 1) (I7 X tv lv)) ⟨c,h,r,w⟩) fun x s=>x=.ret (.string ⟨⟨R6 X⟩⟩)∧∀ i,i<c→s.h.get i=h.get i:=by
 obtain ⟨a,hA,ha⟩:=O9 F.A
 obtain ⟨b,hB,hb⟩:=O9 F.B
 have h46:K4 s6 1 46 [.int .i64 X.op]=M.pure (.ret (.int .i64 (.ofNat 7))):=by rw [a4K 0,hk]
 exact (d7w NN _ X tv lv a b hA hB ha hb (a8H 0) c h h19 (a4L 0 _) h46 Ht Hl r w).mono fun x s ⟨q,q'⟩=>⟨by rw [q,a0p hk (by unfold a2n; rw [hA]; rfl)],q'⟩
theorem d6M (X:Ins) (tv lv:Value) (hk:a0n X.op=8) (F:PlainF 8 X) (hN:X.N<18446744073709551616) (c:Nat) (h:Trie VObj) (h19:∀ hh,(∀ b,b<c→hh.get b=h.get b)→∃ z:List Nat→List Nat, ∀ r w,go (K4 s6 1 19 [I7 X tv lv]) ⟨c+1,hh,r,w⟩=some (.ret (.bool true),⟨c+1,hh,z r,w⟩))
 (H:InsAt c h X (I7 X tv lv)) (Ht:Q6 c h tv (P6 X.types)) (Hl:Q6 c h lv (P6 X.labels)) (r w:List Nat) :
 H6 (go (a0F H8 NN (K4 s6 1) (I7 X tv lv)) ⟨c,h,r,w⟩) fun x s=>x=.ret (.string ⟨⟨R6 X⟩⟩)∧∀ i,i<c→s.h.get i=h.get i:=by
 obtain ⟨a,hA,ha⟩:=O9 F.A
 obtain ⟨b,hB,hb⟩:=O9 F.B
 have h46:K4 s6 1 46 [.int .i64 X.op]=M.pure (.ret (.int .i64 (.ofNat 8))):=by rw [a4K 0,hk]
 exact (d5T NN _ X tv lv a b hA hB ha hb (a8H 0) c h h19 (a4L 0 _) h46 Ht Hl r w).mono fun x s ⟨q,q'⟩=>⟨by rw [q,a0p hk (by unfold a2n; rw [hA]; rfl)],q'⟩
theorem d2K (X:Ins) (tv lv:Value) (hk:a0n X.op=12) (F:PlainF 12 X) (hN:X.N<18446744073709551616) (c:Nat) (h:Trie VObj) (h19:∀ hh,(∀ b,b<c→hh.get b=h.get b)→∃ z:List Nat→List Nat, ∀ r w,go (K4 s6 1 19 [I7 X tv lv]) ⟨c+1,hh,r,w⟩=some (.ret (.bool true),⟨c+1,hh,z r,w⟩))
 (H:InsAt c h X (I7 X tv lv)) (Ht:Q6 c h tv (P6 X.types)) (Hl:Q6 c h lv (P6 X.labels)) (r w:List Nat) :
 H6 (go (a0F H8 NN (K4 s6 1) (I7 X tv lv)) ⟨c,h,r,w⟩) fun x s=>x=.ret (.string ⟨⟨R6 X⟩⟩)∧∀ i,i<c→s.h.get i=h.get i:=by
 obtain ⟨a,hA,ha⟩:=O9 F.A
 obtain ⟨b,hB,hb⟩:=O9 F.B
 have h46:K4 s6 1 46 [.int .i64 X.op]=M.pure (.ret (.int .i64 (.ofNat 12))):=by rw [a4K 0,hk]
 exact (d2m NN _ X tv lv a b hA hB ha hb (a8H 0) c h h19 (a4L 0 _) h46 Ht Hl r w).mono fun x s ⟨q,q'⟩=>⟨by rw [q,a0p hk (by unfold a2n; rw [hA]; rfl)],q'⟩
theorem d1K (X:Ins) (tv lv:Value) (hk:a0n X.op=16) (F:PlainF 16 X) (hN:X.N<18446744073709551616) (c:Nat) (h:Trie VObj) (h19:∀ hh,(∀ b,b<c→hh.get b=h.get b)→∃ z:List Nat→List Nat, ∀ r w,go (K4 s6 1 19 [I7 X tv lv]) ⟨c+1,hh,r,w⟩=some (.ret (.bool true),⟨c+1,hh,z r,w⟩))
 (H:InsAt c h X (I7 X tv lv)) (Ht:Q6 c h tv (P6 X.types)) (Hl:Q6 c h lv (P6 X.labels)) (r w:List Nat) :
 H6 (go (a0F H8 NN (K4 s6 1) (I7 X tv lv)) ⟨c,h,r,w⟩) fun x s=>x=.ret (.string ⟨⟨R6 X⟩⟩)∧∀ i,i<c→s.h.get i=h.get i:=by
 obtain ⟨a,hA,ha⟩:=O9 F.A
 obtain ⟨b,hB,hb⟩:=O9 F.B
 have h46:K4 s6 1 46 [.int .i64 X.op]=M.pure (.ret (.int .i64 (.ofNat 16))):=by rw [a4K 0,hk]
 exact (d0e NN _ X tv lv a b hA hB ha hb (a8H 0) c h h19 (a4L 0 _) h46 Ht Hl r w).mono fun x s ⟨q,q'⟩=>⟨by rw [q,a0p hk (by unfold a2n; rw [hA]; rfl)],q'⟩
theorem d4f (X:Ins) (tv lv:Value) (hk:a0n X.op=9) (F:PlainF 9 X) (hN:X.N<18446744073709551616) (c:Nat) (h:Trie VObj) (h19:∀ hh,(∀ b,b<c→hh.get b=h.get b)→∃ z:List Nat→List Nat, ∀ r w,go (K4 s6 1 19 [I7 X tv lv]) ⟨c+1,hh,r,w⟩=some (.ret (.bool true),⟨c+1,hh,z r,w⟩))
 (H:InsAt c h X (I7 X tv lv)) (Ht:Q6 c h tv (P6 X.types)) (Hl:Q6 c h lv (P6 X.labels)) (r w:List Nat) :
 H6 (go (a0F H8 NN (K4 s6 1) (I7 X tv lv)) ⟨c,h,r,w⟩) fun x s=>x=.ret (.string ⟨⟨R6 X⟩⟩)∧∀ i,i<c→s.h.get i=h.get i:=by
 obtain ⟨a,hA,ha⟩:=O9 F.A
 obtain ⟨b,hB,hb⟩:=O9 F.B
 have h46:K4 s6 1 46 [.int .i64 X.op]=M.pure (.ret (.int .i64 (.ofNat 9))):=by rw [a4K 0,hk]
 exact (d3B NN _ X tv lv a b hA hB ha hb (b3m 0) c h h19 (a4L 0 _) h46 Ht Hl r w).mono fun x s ⟨q,q'⟩=>⟨by rw [q,a0p hk (by unfold a2n; rw [hA]; rfl)],q'⟩
theorem d0g (X:Ins) (tv lv:Value) (hk:a0n X.op=13) (F:PlainF 13 X) (hN:X.N<18446744073709551616) (c:Nat) (h:Trie VObj) (h19:∀ hh,(∀ b,b<c→hh.get b=h.get b)→∃ z:List Nat→List Nat, ∀ r w,go (K4 s6 1 19 [I7 X tv lv]) ⟨c+1,hh,r,w⟩=some (.ret (.bool true),⟨c+1,hh,z r,w⟩))
 (H:InsAt c h X (I7 X tv lv)) (Ht:Q6 c h tv (P6 X.types)) (Hl:Q6 c h lv (P6 X.labels)) (r w:List Nat) :
 H6 (go (a0F H8 NN (K4 s6 1) (I7 X tv lv)) ⟨c,h,r,w⟩) fun x s=>x=.ret (.string ⟨⟨R6 X⟩⟩)∧∀ i,i<c→s.h.get i=h.get i:=by
 obtain ⟨a,hA,ha⟩:=O9 F.A
 obtain ⟨b,hB,hb⟩:=O9 F.B
 have h46:K4 s6 1 46 [.int .i64 X.op]=M.pure (.ret (.int .i64 (.ofNat 13))):=by rw [a4K 0,hk]
 exact (d0Y NN _ X tv lv a b hA hB ha hb (b3m 0) c h h19 (a4L 0 _) h46 Ht Hl r w).mono fun x s ⟨q,q'⟩=>⟨by rw [q,a0p hk (by unfold a2n; rw [hB]; rfl)],q'⟩
theorem d1W (X:Ins) (tv lv:Value) (hk:a0n X.op=10) (F:PlainF 10 X) (hN:X.N<18446744073709551616) (c:Nat) (h:Trie VObj) (h19:∀ hh,(∀ b,b<c→hh.get b=h.get b)→∃ z:List Nat→List Nat, ∀ r w,go (K4 s6 1 19 [I7 X tv lv]) ⟨c+1,hh,r,w⟩=some (.ret (.bool true),⟨c+1,hh,z r,w⟩))
 (H:InsAt c h X (I7 X tv lv)) (Ht:Q6 c h tv (P6 X.types)) (Hl:Q6 c h lv (P6 X.labels)) (r w:List Nat) :
 H6 (go (a0F H8 NN (K4 s6 1) (I7 X tv lv)) ⟨c,h,r,w⟩) fun x s=>x=.ret (.string ⟨⟨R6 X⟩⟩)∧∀ i,i<c→s.h.get i=h.get i:=by
 obtain ⟨a,hA,ha⟩:=O9 F.A
 obtain ⟨b,hB,hb⟩:=O9 F.B
 have h46:K4 s6 1 46 [.int .i64 X.op]=M.pure (.ret (.int .i64 (.ofNat 10))):=by rw [a4K 0,hk]
 exact (d0Q NN _ X tv lv a b hA hB ha hb (c6Z 0) c h h19 (a4L 0 _) h46 Ht Hl r w).mono fun x s ⟨q,q'⟩=>⟨by rw [q,a0p hk (by unfold a2n; rw [hA,hB]; rfl)],q'⟩
theorem d2U (X:Ins) (tv lv:Value) (hk:a0n X.op=14) (F:PlainF 14 X) (hN:X.N<18446744073709551616) (c:Nat) (h:Trie VObj) (h19:∀ hh,(∀ b,b<c→hh.get b=h.get b)→∃ z:List Nat→List Nat, ∀ r w,go (K4 s6 1 19 [I7 X tv lv]) ⟨c+1,hh,r,w⟩=some (.ret (.bool true),⟨c+1,hh,z r,w⟩))
 (H:InsAt c h X (I7 X tv lv)) (Ht:Q6 c h tv (P6 X.types)) (Hl:Q6 c h lv (P6 X.labels)) (r w:List Nat) :
 H6 (go (a0F H8 NN (K4 s6 1) (I7 X tv lv)) ⟨c,h,r,w⟩) fun x s=>x=.ret (.string ⟨⟨R6 X⟩⟩)∧∀ i,i<c→s.h.get i=h.get i:=by
 obtain ⟨a,hA,ha⟩:=O9 F.A
 obtain ⟨b,hB,hb⟩:=O9 F.B
 have h46:K4 s6 1 46 [.int .i64 X.op]=M.pure (.ret (.int .i64 (.ofNat 14))):=by rw [a4K 0,hk]
 exact (d0F NN _ X tv lv a b hA hB ha hb (c6Z 0) c h h19 (a4L 0 _) h46 Ht Hl r w).mono fun x s ⟨q,q'⟩=>⟨by rw [q,a0p hk (by unfold a2n; rw [hA,hB]; rfl)],q'⟩
theorem d1t (X:Ins) (tv lv:Value) (hk:a0n X.op=11) (F:PlainF 11 X) (hN:X.N<18446744073709551616) (c:Nat) (h:Trie VObj) (h19:∀ hh,(∀ b,b<c→hh.get b=h.get b)→∃ z:List Nat→List Nat, ∀ r w,go (K4 s6 1 19 [I7 X tv lv]) ⟨c+1,hh,r,w⟩=some (.ret (.bool true),⟨c+1,hh,z r,w⟩))
 (H:InsAt c h X (I7 X tv lv)) (Ht:Q6 c h tv (P6 X.types)) (Hl:Q6 c h lv (P6 X.labels)) (r w:List Nat) :
 H6 (go (a0F H8 NN (K4 s6 1) (I7 X tv lv)) ⟨c,h,r,w⟩) fun x s=>x=.ret (.string ⟨⟨R6 X⟩⟩)∧∀ i,i<c→s.h.get i=h.get i:=by
 obtain ⟨a,hA,ha⟩:=O9 F.A
 obtain ⟨b,hB,hb⟩:=O9 F.B
 have h46:K4 s6 1 46 [.int .i64 X.op]=M.pure (.ret (.int .i64 (.ofNat 11))):=by rw [a4K 0,hk]
 exact (d0n NN _ X tv lv a b hA hB ha hb (a8H 0) (b3m 0) c h h19 (a4L 0 _) h46 Ht Hl r w).mono fun x s ⟨q,q'⟩=>⟨by rw [q,a0p hk (by unfold a2n; rw [hA,hB]; rfl)],q'⟩
theorem d2X (X:Ins) (tv lv:Value) (hk:a0n X.op=15) (F:PlainF 15 X) (hN:X.N<18446744073709551616) (c:Nat) (h:Trie VObj) (h19:∀ hh,(∀ b,b<c→hh.get b=h.get b)→∃ z:List Nat→List Nat, ∀ r w,go (K4 s6 1 19 [I7 X tv lv]) ⟨c+1,hh,r,w⟩=some (.ret (.bool true),⟨c+1,hh,z r,w⟩))
 (H:InsAt c h X (I7 X tv lv)) (Ht:Q6 c h tv (P6 X.types)) (Hl:Q6 c h lv (P6 X.labels)) (r w:List Nat) :
 H6 (go (a0F H8 NN (K4 s6 1) (I7 X tv lv)) ⟨c,h,r,w⟩) fun x s=>x=.ret (.string ⟨⟨R6 X⟩⟩)∧∀ i,i<c→s.h.get i=h.get i:=by
 obtain ⟨a,hA,ha⟩:=O9 F.A
 obtain ⟨b,hB,hb⟩:=O9 F.B
 have h46:K4 s6 1 46 [.int .i64 X.op]=M.pure (.ret (.int .i64 (.ofNat 15))):=by rw [a4K 0,hk]
 exact (d1J NN _ X tv lv a b hA hB ha hb (a8H 0) (b3m 0) c h h19 (a4L 0 _) h46 Ht Hl r w).mono fun x s ⟨q,q'⟩=>⟨by rw [q,a0p hk (by unfold a2n; rw [hA,hB]; rfl)],q'⟩
theorem d8w (X:Ins) (tv lv:Value) (hk:a0n X.op=5) (F:PlainF 5 X) (hN:X.N<18446744073709551616) (c:Nat) (h:Trie VObj) (h19:∀ hh,(∀ b,b<c→hh.get b=h.get b)→∃ z:List Nat→List Nat, ∀ r w,go (K4 s6 1 19 [I7 X tv lv]) ⟨c+1,hh,r,w⟩=some (.ret (.bool true),⟨c+1,hh,z r,w⟩))
 (H:InsAt c h X (I7 X tv lv)) (Ht:Q6 c h tv (P6 X.types)) (Hl:Q6 c h lv (P6 X.labels)) (r w:List Nat) :
 H6 (go (a0F H8 NN (K4 s6 1) (I7 X tv lv)) ⟨c,h,r,w⟩) fun x s=>x=.ret (.string ⟨⟨R6 X⟩⟩)∧∀ i,i<c→s.h.get i=h.get i:=by
 obtain ⟨a,hA,ha⟩:=O9 F.A
 obtain ⟨b,hB,hb⟩:=O9 F.B
 have h46:K4 s6 1 46 [.int .i64 X.op]=M.pure (.ret (.int .i64 (.ofNat 5))):=by rw [a4K 0,hk]
 exact (d9Y NN _ X tv lv a b hA hB ha hb (a8H 0) (b3m 0) c h h19 (a4L 0 _) h46 Ht Hl r w).mono fun x s ⟨q,q'⟩=>⟨by rw [q,a0p hk (by unfold a2n; rw [hA,hB]; rfl)],q'⟩
theorem d1V (X:Ins) (tv lv:Value) (hk:a0n X.op=18) (F:PlainF 18 X) (hN:X.N<18446744073709551616) (c:Nat) (h:Trie VObj) (h19:∀ hh,(∀ b,b<c→hh.get b=h.get b)→∃ z:List Nat→List Nat, ∀ r w,go (K4 s6 1 19 [I7 X tv lv]) ⟨c+1,hh,r,w⟩=some (.ret (.bool true),⟨c+1,hh,z r,w⟩))
 (H:InsAt c h X (I7 X tv lv)) (Ht:Q6 c h tv (P6 X.types)) (Hl:Q6 c h lv (P6 X.labels)) (r w:List Nat) :
 H6 (go (a0F H8 NN (K4 s6 1) (I7 X tv lv)) ⟨c,h,r,w⟩) fun x s=>x=.ret (.string ⟨⟨R6 X⟩⟩)∧∀ i,i<c→s.h.get i=h.get i:=by
 obtain ⟨a,hA,ha⟩:=O9 F.A
 obtain ⟨b,hB,hb⟩:=O9 F.B
 have h46:K4 s6 1 46 [.int .i64 X.op]=M.pure (.ret (.int .i64 (.ofNat 18))):=by rw [a4K 0,hk]
 exact (d1n NN _ X tv lv a b hA hB ha hb (F.N rfl) (d0K 0 _ (F.N rfl)) c h h19 (a4L 0 _) h46 Ht Hl r w).mono fun x s ⟨q,q'⟩=>⟨by rw [q,a0p hk (by rfl)],q'⟩
theorem d0O (X:Ins) (tv lv:Value) (hk:a0n X.op=19) (F:PlainF 19 X) (hN:X.N<18446744073709551616) (c:Nat) (h:Trie VObj) (h19:∀ hh,(∀ b,b<c→hh.get b=h.get b)→∃ z:List Nat→List Nat, ∀ r w,go (K4 s6 1 19 [I7 X tv lv]) ⟨c+1,hh,r,w⟩=some (.ret (.bool true),⟨c+1,hh,z r,w⟩))
 (H:InsAt c h X (I7 X tv lv)) (Ht:Q6 c h tv (P6 X.types)) (Hl:Q6 c h lv (P6 X.labels)) (r w:List Nat) :
 H6 (go (a0F H8 NN (K4 s6 1) (I7 X tv lv)) ⟨c,h,r,w⟩) fun x s=>x=.ret (.string ⟨⟨R6 X⟩⟩)∧∀ i,i<c→s.h.get i=h.get i:=by
 obtain ⟨a,hA,ha⟩:=O9 F.A
 obtain ⟨b,hB,hb⟩:=O9 F.B
 have h46:K4 s6 1 46 [.int .i64 X.op]=M.pure (.ret (.int .i64 (.ofNat 19))):=by rw [a4K 0,hk]
 exact (d1N NN _ X tv lv a b hA hB ha hb hN (d0I 0 _ hN) c h h19 (a4L 0 _) h46 Ht Hl r w).mono fun x s ⟨q,q'⟩=>⟨by rw [q,a0p hk (by rfl)],q'⟩
theorem d2u (X:Ins) (tv lv:Value) (hk:a0n X.op=20) (F:PlainF 20 X) (hN:X.N<18446744073709551616) (c:Nat) (h:Trie VObj) (h19:∀ hh,(∀ b,b<c→hh.get b=h.get b)→∃ z:List Nat→List Nat, ∀ r w,go (K4 s6 1 19 [I7 X tv lv]) ⟨c+1,hh,r,w⟩=some (.ret (.bool true),⟨c+1,hh,z r,w⟩))
 (H:InsAt c h X (I7 X tv lv)) (Ht:Q6 c h tv (P6 X.types)) (Hl:Q6 c h lv (P6 X.labels)) (r w:List Nat) :
 H6 (go (a0F H8 NN (K4 s6 1) (I7 X tv lv)) ⟨c,h,r,w⟩) fun x s=>x=.ret (.string ⟨⟨R6 X⟩⟩)∧∀ i,i<c→s.h.get i=h.get i:=by
 obtain ⟨a,hA,ha⟩:=O9 F.A
 obtain ⟨b,hB,hb⟩:=O9 F.B
 have h46:K4 s6 1 46 [.int .i64 X.op]=M.pure (.ret (.int .i64 (.ofNat 20))):=by rw [a4K 0,hk]
 exact (c9N NN _ X tv lv a b hA hB ha hb  c h h19 (a4L 0 _) h46 Ht Hl r w).mono fun x s ⟨q,q'⟩=>⟨by rw [q,a0p hk (by rfl)],q'⟩
theorem d5e (X:Ins) (tv lv:Value) (hk:a0n X.op=1) (F:PlainF 1 X) (hN:X.N<18446744073709551616) (c:Nat) (h:Trie VObj) (h19:∀ hh,(∀ b,b<c→hh.get b=h.get b)→∃ z:List Nat→List Nat, ∀ r w,go (K4 s6 1 19 [I7 X tv lv]) ⟨c+1,hh,r,w⟩=some (.ret (.bool true),⟨c+1,hh,z r,w⟩))
 (H:InsAt c h X (I7 X tv lv)) (Ht:Q6 c h tv (P6 X.types)) (Hl:Q6 c h lv (P6 X.labels)) (r w:List Nat) :
 H6 (go (a0F H8 NN (K4 s6 1) (I7 X tv lv)) ⟨c,h,r,w⟩) fun x s=>x=.ret (.string ⟨⟨R6 X⟩⟩)∧∀ i,i<c→s.h.get i=h.get i:=by
 obtain ⟨a,hA,ha⟩:=O9 F.A
 obtain ⟨b,hB,hb⟩:=O9 F.B
 have h46:K4 s6 1 46 [.int .i64 X.op]=M.pure (.ret (.int .i64 (.ofNat 1))):=by rw [a4K 0,hk]
 obtain ⟨i1,i2⟩:=b9j (show a4H X.k X.v X.i=true from F.rest)
 exact (d4h NN _ X tv lv a b hA hB ha hb i1 i2 (d5t 0 _ _ _ i1 i2) c h h19 (a4L 0 _) h46 Ht Hl r w).mono fun x s ⟨q,q'⟩=>⟨by rw [q,a0p hk (by rfl)],q'⟩
theorem d4s (X:Ins) (tv lv:Value) (hk:a0n X.op=6) (F:PlainF 6 X) (hN:X.N<18446744073709551616) (c:Nat) (h:Trie VObj) (h19:∀ hh,(∀ b,b<c→hh.get b=h.get b)→∃ z:List Nat→List Nat, ∀ r w,go (K4 s6 1 19 [I7 X tv lv]) ⟨c+1,hh,r,w⟩=some (.ret (.bool true),⟨c+1,hh,z r,w⟩))
 (H:InsAt c h X (I7 X tv lv)) (Ht:Q6 c h tv (P6 X.types)) (Hl:Q6 c h lv (P6 X.labels)) (r w:List Nat) :
 H6 (go (a0F H8 NN (K4 s6 1) (I7 X tv lv)) ⟨c,h,r,w⟩) fun x s=>x=.ret (.string ⟨⟨R6 X⟩⟩)∧∀ i,i<c→s.h.get i=h.get i:=by
 obtain ⟨a,hA,ha⟩:=O9 F.A
 obtain ⟨b,hB,hb⟩:=O9 F.B
 have h46:K4 s6 1 46 [.int .i64 X.op]=M.pure (.ret (.int .i64 (.ofNat 6))):=by rw [a4K 0,hk]
 have ht:a7W X.types=true:=F.rest
 unfold a7W at ht
 split at ht
 · rename_i t e
   exact (d4x NN _ X tv lv a b hA hB ha hb t e (d9L 0) c h h19 (a4L 0 _) h46 Ht Hl r w).mono fun x s ⟨q,q'⟩=>⟨by rw [q,a0p hk (by unfold a2n; rw [e]; rfl)],q'⟩
 · cases ht
theorem d7J (X:Ins) (tv lv:Value) (hk:a0n X.op=3) (F:PlainF 3 X) (hN:X.N<18446744073709551616) (c:Nat) (h:Trie VObj) (h19:∀ hh,(∀ b,b<c→hh.get b=h.get b)→∃ z:List Nat→List Nat, ∀ r w,go (K4 s6 1 19 [I7 X tv lv]) ⟨c+1,hh,r,w⟩=some (.ret (.bool true),⟨c+1,hh,z r,w⟩))
 (H:InsAt c h X (I7 X tv lv)) (Ht:Q6 c h tv (P6 X.types)) (Hl:Q6 c h lv (P6 X.labels)) (r w:List Nat) :
 H6 (go (a0F H8 NN (K4 s6 1) (I7 X tv lv)) ⟨c,h,r,w⟩) fun x s=>x=.ret (.string ⟨⟨R6 X⟩⟩)∧∀ i,i<c→s.h.get i=h.get i:=by
 obtain ⟨a,hA,ha⟩:=O9 F.A
 obtain ⟨b,hB,hb⟩:=O9 F.B
 have h46:K4 s6 1 46 [.int .i64 X.op]=M.pure (.ret (.int .i64 (.ofNat 3))):=by rw [a4K 0,hk]
 have e:q48 X=some (.string ⟨⟨M4 (a7n (X.labels.map Int.toNat)) (X8 a)⟩⟩):=by
  unfold q48
  rw [show idxAll X.labels=true from F.rest,F.A,hA]; rfl
 have hl:=H.l
 have hlen:L9 (M4 (a7n (X.labels.map Int.toNat)) (X8 a))≤100000:=by
  rw [D6]
  have:=b0C (X.labels.map Int.toNat) (a8S (show idxAll X.labels=true from F.rest)).2
  have:=a2z a (by omega)
  rw [List.length_map] at *
  omega
 exact (d7f NN _ X tv lv a b c h _ hlen hA hB ha hb (cI (by kernel_rfl) H e) h19 (a4L 0 _) h46 Ht Hl r w).mono fun x s ⟨q,q'⟩=>⟨by rw [q,a0p hk (by unfold a2n; rw [hA]; rfl)],q'⟩
theorem d2D (X:Ins) (tv lv:Value) (hk:a0n X.op=17) (F:PlainF 17 X) (hN:X.N<18446744073709551616) (c:Nat) (h:Trie VObj) (h19:∀ hh,(∀ b,b<c→hh.get b=h.get b)→∃ z:List Nat→List Nat, ∀ r w,go (K4 s6 1 19 [I7 X tv lv]) ⟨c+1,hh,r,w⟩=some (.ret (.bool true),⟨c+1,hh,z r,w⟩))
 (H:InsAt c h X (I7 X tv lv)) (Ht:Q6 c h tv (P6 X.types)) (Hl:Q6 c h lv (P6 X.labels)) (r w:List Nat) :
 H6 (go (a0F H8 NN (K4 s6 1) (I7 X tv lv)) ⟨c,h,r,w⟩) fun x s=>x=.ret (.string ⟨⟨R6 X⟩⟩)∧∀ i,i<c→s.h.get i=h.get i:=by
 obtain ⟨a,hA,ha⟩:=O9 F.A
 obtain ⟨b,hB,hb⟩:=O9 F.B
 have h46:K4 s6 1 46 [.int .i64 X.op]=M.pure (.ret (.int .i64 (.ofNat 17))):=by rw [a4K 0,hk]
 have ha63:X.A≤63:=by simpa using (show decide (X.A≤63)=true from F.rest)
 obtain ⟨al,hal⟩:=c6M hk
 have hN':X.N<4294967296:=F.N rfl
 have e:q52 X=some (.string ⟨⟨M4 (M4 (a0C b) (a5e X.N)) (a5f a al)⟩⟩):=by
  unfold q52
  rw [F.A,F.B,hal,H9 hN',decide_eq_true ha63,hA,hB]; rfl
 have hlen:L9 (M4 (M4 (a0C b) (a5e X.N)) (a5f a al))≤100:=by
  rw [D6,D6]
  have:=a5D b (by omega)
  have:=b8Q X.N (by omega)
  have:=b8E a al (by rw [hA] at ha63; simp only [Int.ofNat_eq_natCast] at ha63; omega)
  omega
 exact (d1i NN _ X tv lv a b c h _ hlen hA hB ha hb (cI (by kernel_rfl) H e) h19 (a4L 0 _) h46 Ht Hl r w).mono fun x s ⟨q,q'⟩=>⟨by rw [q,a0p hk (by unfold a2n; rw [hA,hB,hal]; rfl)],q'⟩
theorem d5F (N:Nat) (call:o8) (X:Ins) (tv lv:Value) (c:Nat) (h:Trie VObj) (h19:∀ hh,(∀ b,b<c→hh.get b=h.get b)→∃ z:List Nat→List Nat, ∀ r w,go (call 19 [I7 X tv lv]) ⟨c+1,hh,r,w⟩=some (.ret (.bool false),⟨c+1,hh,z r,w⟩))
 (Ht:Q6 c h tv (P6 X.types)) (Hl:Q6 c h lv (P6 X.labels)) (r w:List Nat) :
 H6 (go (a0F H8 N call (I7 X tv lv)) ⟨c,h,r,w⟩) fun x s=>x=.ret (.string ⟨⟨[]⟩⟩)∧∀ i,i<c→s.h.get i=h.get i:=by
 obtain ⟨z,h19'⟩:=h19 (upd h c (.cells [(.int .i64 X.op, 0),(.int .i64 X.A, 0),(.int .i64 X.B, 0),(.int .u64 (Int.ofNat X.N), 0),(.int .i64 X.k, 0),(.int .i64 X.v, 0),(.int .i64 X.i, 0),(tv, 0),(lv, 0)] 0 false)) (fun b hb=>F6 (by omega))
 obtain ⟨ta,te,rfl,_⟩:=Ht
 obtain ⟨la,le,rfl,_⟩:=Hl
 simp only [I7,List.length_map] at h19'
 simp (config:={ maxSteps:=10000000 }) (disch:=first | assumption | omega | (simp only [l9,w9,F3,j6,A8,E8,D8,I5,G9,I9,I8,H7,o9,D5,G8,Nat.reduceAdd,D7,E9,Nat.reduceBEq,G5,F9,d9,j5,l6,z8,D9,F7,F5,F4,G6,C8,q9,A9,q8,l8,l7,E5,C9,G7,IntKind.bits,D6,r9,o7] <;> omega) | assumption) only [a0F,a4p,a4j,a4g,a4d,a4r,a4f,a4n,a4u,a4s,a4k,a3f,a3y,a3H,a3z,a3o,a3e,a3g,a3x,a3n,a3h,a3E,a3q,a3t,a3l,a3j,a3B,a3k,a3C,a3F,a3u,a3p,a3G,a3D,a2l,a3A,a2k,a3i,I7,List.length_map,h19',J3,I5,bn,un,U0,V5,U6,J6,I4,K3,J4,P7,P9,J3,M6,V.e1g,R7,Q7,M7,Q8,K8,M5,H9,I6,K9,M0,O6,J5,J7,G8,Nat.add_zero]
 exact H6.done ⟨rfl,fun i hi=>by simp (config:={ maxSteps:=10000000 }) (disch:=first | assumption | omega | (simp only [l9,w9,F3,j6,A8,E8,D8,I5,G9,I9,I8,H7,o9,D5,G8,Nat.reduceAdd,D7,E9,Nat.reduceBEq,G5,F9,d9,j5,l6,z8,D9,F7,F5,F4,G6,C8,q9,A9,q8,l8,l7,E5,C9,G7,IntKind.bits,D6,r9,o7] <;> omega) | assumption) only [F6]⟩
theorem l13 (X:Ins) (tv lv:Value) (K:Nat) (hK:K≤20) (hk:a0n X.op=K) (F:PlainF K X) (hN:X.N<18446744073709551616) (c:Nat) (h:Trie VObj) (h19:∀ hh,(∀ b,b<c→hh.get b=h.get b)→∃ z:List Nat→List Nat, ∀ r w,go (K4 s6 1 19 [I7 X tv lv]) ⟨c+1,hh,r,w⟩=some (.ret (.bool true),⟨c+1,hh,z r,w⟩))
 (H:InsAt c h X (I7 X tv lv)) (Ht:Q6 c h tv (P6 X.types)) (Hl:Q6 c h lv (P6 X.labels)) (r w:List Nat) :
 H6 (go (a0F H8 NN (K4 s6 1) (I7 X tv lv)) ⟨c,h,r,w⟩) fun x s=>x=.ret (.string ⟨⟨R6 X⟩⟩)∧∀ i,i<c→s.h.get i=h.get i:=by
 match K,hk,F with
 | 0,hk,F=>exact d5Y X tv lv hk F hN c h h19 H Ht Hl r w
 | 1,hk,F=>exact d5e X tv lv hk F hN c h h19 H Ht Hl r w
 | 2,hk,F=>exact d4z X tv lv hk F hN c h h19 H Ht Hl r w
 | 3,hk,F=>exact d7J X tv lv hk F hN c h h19 H Ht Hl r w
 | 4,hk,F=>exact d3D X tv lv hk F hN c h h19 H Ht Hl r w
 | 5,hk,F=>exact d8w X tv lv hk F hN c h h19 H Ht Hl r w
 | 6,hk,F=>exact d4s X tv lv hk F hN c h h19 H Ht Hl r w
 | 7,hk,F=>exact d8R X tv lv hk F hN c h h19 H Ht Hl r w
 | 8,hk,F=>exact d6M X tv lv hk F hN c h h19 H Ht Hl r w
 | 9,hk,F=>exact d4f X tv lv hk F hN c h h19 H Ht Hl r w
 | 10,hk,F=>exact d1W X tv lv hk F hN c h h19 H Ht Hl r w
 | 11,hk,F=>exact d1t X tv lv hk F hN c h h19 H Ht Hl r w
 | 12,hk,F=>exact d2K X tv lv hk F hN c h h19 H Ht Hl r w
 | 13,hk,F=>exact d0g X tv lv hk F hN c h h19 H Ht Hl r w
 | 14,hk,F=>exact d2U X tv lv hk F hN c h h19 H Ht Hl r w
 | 15,hk,F=>exact d2X X tv lv hk F hN c h h19 H Ht Hl r w
 | 16,hk,F=>exact d1K X tv lv hk F hN c h h19 H Ht Hl r w
 | 17,hk,F=>exact d2D X tv lv hk F hN c h h19 H Ht Hl r w
 | 18,hk,F=>exact d1V X tv lv hk F hN c h h19 H Ht Hl r w
 | 19,hk,F=>exact d0O X tv lv hk F hN c h h19 H Ht Hl r w
 | 20,hk,F=>exact d2u X tv lv hk F hN c h h19 H Ht Hl r w
 | k+21,hk,F=>omega
noncomputable def a7i (X:Ins):Option Value:=bcase (a1G X) (bcase (X.N.blt 18446744073709551616) (some (.string ⟨⟨R6 X⟩⟩)) none) (some (.string ⟨⟨[]⟩⟩))
theorem e0d:Y4 Tryz.prog R4 (V6 mL) 13 (XI a7i):=b4x L6 Tryz.func13 (by kernel_rfl) rfl fun X x y c hp H e=>by
 have H0:=H
 obtain ⟨⟨tv,lv,rfl,Ht,Hl⟩,h3,h4⟩:=H0
 unfold a7i at e
 have h19:=fun hh hb=>cI (sh:=s6) (f:=19) (q:=fun X=>some (.bool (a1G X))) (by kernel_rfl) H (y:=.bool (a1G X)) rfl hh hb
 cases hpl:a1G X with
 | false=>
   rw [hpl] at e h19
   cases e
   refine ⟨rfl, 2,fun r w=>?_⟩
   rw [a2H (q:=a0F) (N:=NN) (by kernel_rfl) 1]
   exact d5F NN _ X tv lv c hp h19 Ht Hl r w
 | true=>
   rw [hpl] at e h19
   obtain ⟨h1,rfl⟩:=a2K e
   rw [Nat.blt_eq] at h1
   refine ⟨rfl, 2,fun r w=>?_⟩
   rw [a2H (q:=a0F) (N:=NN) (by kernel_rfl) 1]
   have hp2:pK (a0n X.op) X=true:=by
    unfold a1G at hpl
    cases hk:a2q X.op with
    | true=>rw [hk] at hpl; exact hpl
    | false=>rw [hk] at hpl; cases hpl
   exact l13 X tv lv _ (a9U _) rfl (b9b hp2) h1 c hp h19 H Ht Hl r w
end Go.Proofs.YtmomonnlmbljoaaGreatDoor
end
