import Derived.Test.YtmomonnlmbljoaaGreatDoorPap
import Derived.Test.YtmomonnlmbljoaaGreatDoorPaw
import Derived.Test.YtmomonnlmbljoaaGreatDoorPbh
import Derived.Test.YtmomonnlmbljoaaGreatDoorPbi
import Derived.Test.YtmomonnlmbljoaaGreatDoorPbj
import Derived.Test.YtmomonnlmbljoaaGreatDoorPbk
section
namespace Go.Proofs.YtmomonnlmbljoaaGreatDoor
open Go.V Go.RowKit Go.Shelf Go.Proofs
set_option maxRecDepth 1000000
set_option linter.unusedVariables false
variable {mL:Int}
noncomputable def e7:Nat→Option (List Value→M Value):=a0m (a0m e6 13 (XI a7i)) 41 (a6X q41)
noncomputable def s7:a1N:=a1O (a1O s6 13 (XI a7i)) 41 (a6X q41)
theorem L7:Shelf' Tryz.prog R4 (V6 mL) NN e7 s7:=(L6.add e0d).add d3p
theorem c2M (n m:Nat) (h:m<9223372036854775808):K4 s7 (n+1) 37 [.int .i64 (.ofNat m)]=M.pure (.ret (.string ⟨⟨Lib.decDigits m⟩⟩)):=by
 refine a5g s7 n 37 _ (g:=b2q) (by kernel_rfl) ?_
 show bcase (decide (-9223372036854775808≤(Int.ofNat m)) && decide ((Int.ofNat m)≤9223372036854775807)) _ none=_
 rw [decide_eq_true (by simp only [Int.ofNat_eq_natCast]; omega),decide_eq_true (by simp only [Int.ofNat_eq_natCast]; omega)]; rfl
theorem a2p (X:Ins) {K:Nat} (hk:a0n X.op=K):Calls12 NN (K4 s7 3) (K4 s7 2) (K4 s7 1) X K where
 h35:=a2x (q:=fun z=>some (.string ⟨⟨V4 z⟩⟩)) (by kernel_rfl) 2 rfl
 h39:=by rw [← hk]; exact a2x (q:=fun z=>some (.int .i64 (.ofNat (a0n z)))) (by kernel_rfl) 2 rfl
 h36:=fun a b=>a9L (q:=a3V) (N:=NN) (by kernel_rfl) 2 a b
 h36':=fun a b=>a9L (q:=a3V) (N:=NN) (by kernel_rfl) 1 a b
 h37c:=c2M 2
 h37:=c2M 1
 h37':=c2M 0
 h38:=fun a b=>a9L (q:=a2J) (N:=NN) (by kernel_rfl) 2 a b
 h44:=fun a=>a2H (q:=a2F) (N:=NN) (by kernel_rfl) 2 a
 h96:=fun a b=>a8j s7 1 96 [a,b] (g:=a7L) (by kernel_rfl)
theorem e0H (n:Nat) (z:Int):K4 s7 (n+1) 40 [.int .i64 z]=M.pure (.ret (.string ⟨⟨a1Q z⟩⟩)):=a2x (q:=fun z=>some (.string ⟨⟨a1Q z⟩⟩)) (by kernel_rfl) n rfl
theorem d5m (n:Nat) (z:Int):K4 s7 (n+1) 43 [.int .i64 z]=M.pure (.ret (.string ⟨⟨bcase (decide (z=3)) [102, 117, 110, 99] [101, 120, 116, 101, 114, 110]⟩⟩)):=a2x (q:=fun z=>some (.string ⟨⟨bcase (decide (z=3)) [102, 117, 110, 99] [101, 120, 116, 101, 114, 110]⟩⟩)) (by kernel_rfl) n rfl
theorem d0z (n m:Nat) (h:m<4294967296):K4 s7 (n+1) 42 [.int .u64 (.ofNat m),.int .i64 (.ofNat 32)]=M.pure (.ret (.string ⟨⟨Lib.itoa (sgn 32 m)⟩⟩)):=Y2 (q:=a6b) (by kernel_rfl) n (b8X m h)
theorem c9Q (n m:Nat) (h:m<18446744073709551616):K4 s7 (n+1) 42 [.int .u64 (.ofNat m),.int .i64 (.ofNat 64)]=M.pure (.ret (.string ⟨⟨Lib.itoa (sgn 64 m)⟩⟩)):=Y2 (q:=a6b) (by kernel_rfl) n (b2U m h)
theorem d5C (n:Nat) (k v i:Int) (h1:-9223372036854775808≤i) (h2:i≤9223372036854775807):K4 s7 (n+1) 14 [.agg ⟨[.int .i64 k,.int .i64 v,.int .i64 i]⟩]=M.pure (.ret (.string ⟨⟨a5H k v i⟩⟩)):=b6j (q:=a9f) (by kernel_rfl) n (c0h k v i h1 h2)
theorem b6u (n:Nat) (a:Value):K4 s7 (n+1) 41 [a]=M.bind (a6X q41 [a]) fun v=>M.pure (.ret v):=a8j s7 n 41 [a] (g:=a6X q41) (by kernel_rfl)
theorem cI3 {q:Ins→Option Value} {sh:a1N} {f:Nat} (hf:sh.get f=some (arX (XI q))) {c:Nat} {h:Trie VObj} {X:Ins} {x y:Value} (H:InsAt c h X x) (e:q X=some y) (hh:Trie VObj) (hb:∀ b,b<c→hh.get b=h.get b) :
 ∃ z:List Nat→List Nat, ∀ r w,go (K4 sh 3 f [x]) ⟨c+1,hh,r,w⟩=some (.ret y,⟨c+1,hh,z r,w⟩):=by
 obtain ⟨z,hz⟩:=b3h H (Nat.le_succ c) hb e
 exact ⟨z,fun r w=>b3P hf 2 (hz r w)⟩
theorem d2G {k v i:Int} (h:a4H k v i=true):beqBytes (a5H k v i) []=decide (k=0):=by
 unfold a4H at h
 cases h0:decide (k=0) with
 | true=>
   have:k=0:=of_decide_eq_true h0
   subst this
   rfl
 | false=>
   rw [h0] at h
   cases h1:decide (k=1) with
   | true=>
     rw [h1] at h
     have h':(a2E v && decide (i=0))=true:=h
     rw [Bool.and_eq_true] at h'
     unfold a5H
     rw [h1,h'.1]
     rfl
   | false=>
     rw [h1] at h
     have h':(decide (k=2) && decide (v=0) && idxB i)=true:=h
     rw [Bool.and_eq_true,Bool.and_eq_true] at h'
     unfold a5H
     rw [h1,h'.1.1]
     rfl
theorem d6c (X:Ins) (tv lv:Value) (hk:a0n X.op=0) (F:PlainF 0 X) (hN:X.N<18446744073709551616) (c:Nat) (h:Trie VObj) (h34:∀ hh,(∀ b,b<c→hh.get b=h.get b)→∃ z:List Nat→List Nat, ∀ r w,go (K4 s7 3 34 [I7 X tv lv]) ⟨c+1,hh,r,w⟩=some (.ret (.bool true),⟨c+1,hh,z r,w⟩))
 (H:InsAt c h X (I7 X tv lv)) (Ht:Q6 c h tv (P6 X.types)) (Hl:Q6 c h lv (P6 X.labels)) (r w:List Nat) :
 H6 (go (a0c H8 NN (K4 s7 3) (I7 X tv lv)) ⟨c,h,r,w⟩) fun x s=>x=.ret (.string ⟨⟨R6 X⟩⟩)∧∀ i,i<c→s.h.get i=h.get i:=by
 obtain ⟨a,hA,ha⟩:=O9 F.A
 obtain ⟨b,hB,hb⟩:=O9 F.B
 exact (d8v NN _ _ _ X tv lv a b hA hB ha hb  c h h34 (a2p X hk) Ht Hl r w).mono fun x s ⟨q,q'⟩=>⟨by rw [q,a0p hk (by rfl)],q'⟩
theorem d9B (X:Ins) (tv lv:Value) (hk:a0n X.op=2) (F:PlainF 2 X) (hN:X.N<18446744073709551616) (c:Nat) (h:Trie VObj) (h34:∀ hh,(∀ b,b<c→hh.get b=h.get b)→∃ z:List Nat→List Nat, ∀ r w,go (K4 s7 3 34 [I7 X tv lv]) ⟨c+1,hh,r,w⟩=some (.ret (.bool true),⟨c+1,hh,z r,w⟩))
 (H:InsAt c h X (I7 X tv lv)) (Ht:Q6 c h tv (P6 X.types)) (Hl:Q6 c h lv (P6 X.labels)) (r w:List Nat) :
 H6 (go (a0c H8 NN (K4 s7 3) (I7 X tv lv)) ⟨c,h,r,w⟩) fun x s=>x=.ret (.string ⟨⟨R6 X⟩⟩)∧∀ i,i<c→s.h.get i=h.get i:=by
 obtain ⟨a,hA,ha⟩:=O9 F.A
 obtain ⟨b,hB,hb⟩:=O9 F.B
 exact (d6w NN _ _ _ X tv lv a b hA hB ha hb  c h h34 (a2p X hk) Ht Hl r w).mono fun x s ⟨q,q'⟩=>⟨by rw [q,a0p hk (by unfold a2n; rw [hA]; rfl)],q'⟩
theorem d9C (X:Ins) (tv lv:Value) (hk:a0n X.op=4) (F:PlainF 4 X) (hN:X.N<18446744073709551616) (c:Nat) (h:Trie VObj) (h34:∀ hh,(∀ b,b<c→hh.get b=h.get b)→∃ z:List Nat→List Nat, ∀ r w,go (K4 s7 3 34 [I7 X tv lv]) ⟨c+1,hh,r,w⟩=some (.ret (.bool true),⟨c+1,hh,z r,w⟩))
 (H:InsAt c h X (I7 X tv lv)) (Ht:Q6 c h tv (P6 X.types)) (Hl:Q6 c h lv (P6 X.labels)) (r w:List Nat) :
 H6 (go (a0c H8 NN (K4 s7 3) (I7 X tv lv)) ⟨c,h,r,w⟩) fun x s=>x=.ret (.string ⟨⟨R6 X⟩⟩)∧∀ i,i<c→s.h.get i=h.get i:=by
 obtain ⟨a,hA,ha⟩:=O9 F.A
 obtain ⟨b,hB,hb⟩:=O9 F.B
 exact (d8b NN _ _ _ X tv lv a b hA hB ha hb  c h h34 (a2p X hk) Ht Hl r w).mono fun x s ⟨q,q'⟩=>⟨by rw [q,a0p hk (by unfold a2n; rw [hA]; rfl)],q'⟩
theorem d5d (X:Ins) (tv lv:Value) (hk:a0n X.op=7) (F:PlainF 7 X) (hN:X.N<18446744073709551616) (c:Nat) (h:Trie VObj) (h34:∀ hh,(∀ b,b<c→hh.get b=h.get b)→∃ z:List Nat→List Nat, ∀ r w,go (K4 s7 3 34 [I7 X tv lv]) ⟨c+1,hh,r,w⟩=some (.ret (.bool true),⟨c+1,hh,z r,w⟩))
 (H:InsAt c h X (I7 X tv lv)) (Ht:Q6 c h tv (P6 X.types)) (Hl:Q6 c h lv (P6 X.labels)) (r w:List Nat) :
 H6 (go (a0c H8 NN (K4 s7 3) (I7 X tv lv)) ⟨c,h,r,w⟩) fun x s=>x=.ret (.string ⟨⟨R6 X⟩⟩)∧∀ i,i<c→s.h.get i=h.get i:=by
 obtain ⟨a,hA,ha⟩:=O9 F.A
 obtain ⟨b,hB,hb⟩:=O9 F.B
 exact (d8t NN _ _ _ X tv lv a b hA hB ha hb  c h h34 (a2p X hk) Ht Hl r w).mono fun x s ⟨q,q'⟩=>⟨by rw [q,a0p hk (by unfold a2n; rw [hA]; rfl)],q'⟩
theorem d9k (X:Ins) (tv lv:Value) (hk:a0n X.op=8) (F:PlainF 8 X) (hN:X.N<18446744073709551616) (c:Nat) (h:Trie VObj) (h34:∀ hh,(∀ b,b<c→hh.get b=h.get b)→∃ z:List Nat→List Nat, ∀ r w,go (K4 s7 3 34 [I7 X tv lv]) ⟨c+1,hh,r,w⟩=some (.ret (.bool true),⟨c+1,hh,z r,w⟩))
 (H:InsAt c h X (I7 X tv lv)) (Ht:Q6 c h tv (P6 X.types)) (Hl:Q6 c h lv (P6 X.labels)) (r w:List Nat) :
 H6 (go (a0c H8 NN (K4 s7 3) (I7 X tv lv)) ⟨c,h,r,w⟩) fun x s=>x=.ret (.string ⟨⟨R6 X⟩⟩)∧∀ i,i<c→s.h.get i=h.get i:=by
 obtain ⟨a,hA,ha⟩:=O9 F.A
 obtain ⟨b,hB,hb⟩:=O9 F.B
 exact (d6y NN _ _ _ X tv lv a b hA hB ha hb  c h h34 (a2p X hk) Ht Hl r w).mono fun x s ⟨q,q'⟩=>⟨by rw [q,a0p hk (by unfold a2n; rw [hA]; rfl)],q'⟩
theorem d2R (X:Ins) (tv lv:Value) (hk:a0n X.op=12) (F:PlainF 12 X) (hN:X.N<18446744073709551616) (c:Nat) (h:Trie VObj) (h34:∀ hh,(∀ b,b<c→hh.get b=h.get b)→∃ z:List Nat→List Nat, ∀ r w,go (K4 s7 3 34 [I7 X tv lv]) ⟨c+1,hh,r,w⟩=some (.ret (.bool true),⟨c+1,hh,z r,w⟩))
 (H:InsAt c h X (I7 X tv lv)) (Ht:Q6 c h tv (P6 X.types)) (Hl:Q6 c h lv (P6 X.labels)) (r w:List Nat) :
 H6 (go (a0c H8 NN (K4 s7 3) (I7 X tv lv)) ⟨c,h,r,w⟩) fun x s=>x=.ret (.string ⟨⟨R6 X⟩⟩)∧∀ i,i<c→s.h.get i=h.get i:=by
 obtain ⟨a,hA,ha⟩:=O9 F.A
 obtain ⟨b,hB,hb⟩:=O9 F.B
 exact (d2B NN _ _ _ X tv lv a b hA hB ha hb  c h h34 (a2p X hk) Ht Hl r w).mono fun x s ⟨q,q'⟩=>⟨by rw [q,a0p hk (by unfold a2n; rw [hA]; rfl)],q'⟩
theorem d0p (X:Ins) (tv lv:Value) (hk:a0n X.op=16) (F:PlainF 16 X) (hN:X.N<18446744073709551616) (c:Nat) (h:Trie VObj) (h34:∀ hh,(∀ b,b<c→hh.get b=h.get b)→∃ z:List Nat→List Nat, ∀ r w,go (K4 s7 3 34 [I7 X tv lv]) ⟨c+1,hh,r,w⟩=some (.ret (.bool true),⟨c+1,hh,z r,w⟩))
 (H:InsAt c h X (I7 X tv lv)) (Ht:Q6 c h tv (P6 X.types)) (Hl:Q6 c h lv (P6 X.labels)) (r w:List Nat) :
 H6 (go (a0c H8 NN (K4 s7 3) (I7 X tv lv)) ⟨c,h,r,w⟩) fun x s=>x=.ret (.string ⟨⟨R6 X⟩⟩)∧∀ i,i<c→s.h.get i=h.get i:=by
 obtain ⟨a,hA,ha⟩:=O9 F.A
 obtain ⟨b,hB,hb⟩:=O9 F.B
 exact (d2y NN _ _ _ X tv lv a b hA hB ha hb  c h h34 (a2p X hk) Ht Hl r w).mono fun x s ⟨q,q'⟩=>⟨by rw [q,a0p hk (by unfold a2n; rw [hA]; rfl)],q'⟩
theorem d7i (X:Ins) (tv lv:Value) (hk:a0n X.op=9) (F:PlainF 9 X) (hN:X.N<18446744073709551616) (c:Nat) (h:Trie VObj) (h34:∀ hh,(∀ b,b<c→hh.get b=h.get b)→∃ z:List Nat→List Nat, ∀ r w,go (K4 s7 3 34 [I7 X tv lv]) ⟨c+1,hh,r,w⟩=some (.ret (.bool true),⟨c+1,hh,z r,w⟩))
 (H:InsAt c h X (I7 X tv lv)) (Ht:Q6 c h tv (P6 X.types)) (Hl:Q6 c h lv (P6 X.labels)) (r w:List Nat) :
 H6 (go (a0c H8 NN (K4 s7 3) (I7 X tv lv)) ⟨c,h,r,w⟩) fun x s=>x=.ret (.string ⟨⟨R6 X⟩⟩)∧∀ i,i<c→s.h.get i=h.get i:=by
 obtain ⟨a,hA,ha⟩:=O9 F.A
 obtain ⟨b,hB,hb⟩:=O9 F.B
 exact (d6P NN _ _ _ X tv lv a b hA hB ha hb  c h h34 (a2p X hk) Ht Hl r w).mono fun x s ⟨q,q'⟩=>⟨by rw [q,a0p hk (by unfold a2n; rw [hA]; rfl)],q'⟩
theorem d2h (X:Ins) (tv lv:Value) (hk:a0n X.op=13) (F:PlainF 13 X) (hN:X.N<18446744073709551616) (c:Nat) (h:Trie VObj) (h34:∀ hh,(∀ b,b<c→hh.get b=h.get b)→∃ z:List Nat→List Nat, ∀ r w,go (K4 s7 3 34 [I7 X tv lv]) ⟨c+1,hh,r,w⟩=some (.ret (.bool true),⟨c+1,hh,z r,w⟩))
 (H:InsAt c h X (I7 X tv lv)) (Ht:Q6 c h tv (P6 X.types)) (Hl:Q6 c h lv (P6 X.labels)) (r w:List Nat) :
 H6 (go (a0c H8 NN (K4 s7 3) (I7 X tv lv)) ⟨c,h,r,w⟩) fun x s=>x=.ret (.string ⟨⟨R6 X⟩⟩)∧∀ i,i<c→s.h.get i=h.get i:=by
 obtain ⟨a,hA,ha⟩:=O9 F.A
 obtain ⟨b,hB,hb⟩:=O9 F.B
 exact (d3b NN _ _ _ X tv lv a b hA hB ha hb  c h h34 (a2p X hk) Ht Hl r w).mono fun x s ⟨q,q'⟩=>⟨by rw [q,a0p hk (by unfold a2n; rw [hB]; rfl)],q'⟩
theorem d1x (X:Ins) (tv lv:Value) (hk:a0n X.op=10) (F:PlainF 10 X) (hN:X.N<18446744073709551616) (c:Nat) (h:Trie VObj) (h34:∀ hh,(∀ b,b<c→hh.get b=h.get b)→∃ z:List Nat→List Nat, ∀ r w,go (K4 s7 3 34 [I7 X tv lv]) ⟨c+1,hh,r,w⟩=some (.ret (.bool true),⟨c+1,hh,z r,w⟩))
 (H:InsAt c h X (I7 X tv lv)) (Ht:Q6 c h tv (P6 X.types)) (Hl:Q6 c h lv (P6 X.labels)) (r w:List Nat) :
 H6 (go (a0c H8 NN (K4 s7 3) (I7 X tv lv)) ⟨c,h,r,w⟩) fun x s=>x=.ret (.string ⟨⟨R6 X⟩⟩)∧∀ i,i<c→s.h.get i=h.get i:=by
 obtain ⟨a,hA,ha⟩:=O9 F.A
 obtain ⟨b,hB,hb⟩:=O9 F.B
 exact (d2w NN _ _ _ X tv lv a b hA hB ha hb  c h h34 (a2p X hk) Ht Hl r w).mono fun x s ⟨q,q'⟩=>⟨by rw [q,a0p hk (by unfold a2n; rw [hA,hB]; rfl)],q'⟩
theorem d1R (X:Ins) (tv lv:Value) (hk:a0n X.op=14) (F:PlainF 14 X) (hN:X.N<18446744073709551616) (c:Nat) (h:Trie VObj) (h34:∀ hh,(∀ b,b<c→hh.get b=h.get b)→∃ z:List Nat→List Nat, ∀ r w,go (K4 s7 3 34 [I7 X tv lv]) ⟨c+1,hh,r,w⟩=some (.ret (.bool true),⟨c+1,hh,z r,w⟩))
 (H:InsAt c h X (I7 X tv lv)) (Ht:Q6 c h tv (P6 X.types)) (Hl:Q6 c h lv (P6 X.labels)) (r w:List Nat) :
 H6 (go (a0c H8 NN (K4 s7 3) (I7 X tv lv)) ⟨c,h,r,w⟩) fun x s=>x=.ret (.string ⟨⟨R6 X⟩⟩)∧∀ i,i<c→s.h.get i=h.get i:=by
 obtain ⟨a,hA,ha⟩:=O9 F.A
 obtain ⟨b,hB,hb⟩:=O9 F.B
 exact (d0k NN _ _ _ X tv lv a b hA hB ha hb  c h h34 (a2p X hk) Ht Hl r w).mono fun x s ⟨q,q'⟩=>⟨by rw [q,a0p hk (by unfold a2n; rw [hA,hB]; rfl)],q'⟩
theorem d1v (X:Ins) (tv lv:Value) (hk:a0n X.op=11) (F:PlainF 11 X) (hN:X.N<18446744073709551616) (c:Nat) (h:Trie VObj) (h34:∀ hh,(∀ b,b<c→hh.get b=h.get b)→∃ z:List Nat→List Nat, ∀ r w,go (K4 s7 3 34 [I7 X tv lv]) ⟨c+1,hh,r,w⟩=some (.ret (.bool true),⟨c+1,hh,z r,w⟩))
 (H:InsAt c h X (I7 X tv lv)) (Ht:Q6 c h tv (P6 X.types)) (Hl:Q6 c h lv (P6 X.labels)) (r w:List Nat) :
 H6 (go (a0c H8 NN (K4 s7 3) (I7 X tv lv)) ⟨c,h,r,w⟩) fun x s=>x=.ret (.string ⟨⟨R6 X⟩⟩)∧∀ i,i<c→s.h.get i=h.get i:=by
 obtain ⟨a,hA,ha⟩:=O9 F.A
 obtain ⟨b,hB,hb⟩:=O9 F.B
 exact (d2n NN _ _ _ X tv lv a b hA hB ha hb  c h h34 (a2p X hk) Ht Hl r w).mono fun x s ⟨q,q'⟩=>⟨by rw [q,a0p hk (by unfold a2n; rw [hA,hB]; rfl)],q'⟩
theorem d0c (X:Ins) (tv lv:Value) (hk:a0n X.op=15) (F:PlainF 15 X) (hN:X.N<18446744073709551616) (c:Nat) (h:Trie VObj) (h34:∀ hh,(∀ b,b<c→hh.get b=h.get b)→∃ z:List Nat→List Nat, ∀ r w,go (K4 s7 3 34 [I7 X tv lv]) ⟨c+1,hh,r,w⟩=some (.ret (.bool true),⟨c+1,hh,z r,w⟩))
 (H:InsAt c h X (I7 X tv lv)) (Ht:Q6 c h tv (P6 X.types)) (Hl:Q6 c h lv (P6 X.labels)) (r w:List Nat) :
 H6 (go (a0c H8 NN (K4 s7 3) (I7 X tv lv)) ⟨c,h,r,w⟩) fun x s=>x=.ret (.string ⟨⟨R6 X⟩⟩)∧∀ i,i<c→s.h.get i=h.get i:=by
 obtain ⟨a,hA,ha⟩:=O9 F.A
 obtain ⟨b,hB,hb⟩:=O9 F.B
 exact (d2V NN _ _ _ X tv lv a b hA hB ha hb  c h h34 (a2p X hk) Ht Hl r w).mono fun x s ⟨q,q'⟩=>⟨by rw [q,a0p hk (by unfold a2n; rw [hA,hB]; rfl)],q'⟩
theorem d8h (X:Ins) (tv lv:Value) (hk:a0n X.op=5) (F:PlainF 5 X) (hN:X.N<18446744073709551616) (c:Nat) (h:Trie VObj) (h34:∀ hh,(∀ b,b<c→hh.get b=h.get b)→∃ z:List Nat→List Nat, ∀ r w,go (K4 s7 3 34 [I7 X tv lv]) ⟨c+1,hh,r,w⟩=some (.ret (.bool true),⟨c+1,hh,z r,w⟩))
 (H:InsAt c h X (I7 X tv lv)) (Ht:Q6 c h tv (P6 X.types)) (Hl:Q6 c h lv (P6 X.labels)) (r w:List Nat) :
 H6 (go (a0c H8 NN (K4 s7 3) (I7 X tv lv)) ⟨c,h,r,w⟩) fun x s=>x=.ret (.string ⟨⟨R6 X⟩⟩)∧∀ i,i<c→s.h.get i=h.get i:=by
 obtain ⟨a,hA,ha⟩:=O9 F.A
 obtain ⟨b,hB,hb⟩:=O9 F.B
 exact (d4W NN _ _ _ X tv lv a b hA hB ha hb  c h h34 (a2p X hk) Ht Hl r w).mono fun x s ⟨q,q'⟩=>⟨by rw [q,a0p hk (by unfold a2n; rw [hA,hB]; rfl)],q'⟩
theorem d0L (X:Ins) (tv lv:Value) (hk:a0n X.op=18) (F:PlainF 18 X) (hN:X.N<18446744073709551616) (c:Nat) (h:Trie VObj) (h34:∀ hh,(∀ b,b<c→hh.get b=h.get b)→∃ z:List Nat→List Nat, ∀ r w,go (K4 s7 3 34 [I7 X tv lv]) ⟨c+1,hh,r,w⟩=some (.ret (.bool true),⟨c+1,hh,z r,w⟩))
 (H:InsAt c h X (I7 X tv lv)) (Ht:Q6 c h tv (P6 X.types)) (Hl:Q6 c h lv (P6 X.labels)) (r w:List Nat) :
 H6 (go (a0c H8 NN (K4 s7 3) (I7 X tv lv)) ⟨c,h,r,w⟩) fun x s=>x=.ret (.string ⟨⟨R6 X⟩⟩)∧∀ i,i<c→s.h.get i=h.get i:=by
 obtain ⟨a,hA,ha⟩:=O9 F.A
 obtain ⟨b,hB,hb⟩:=O9 F.B
 exact (d0B NN _ _ _ X tv lv a b hA hB ha hb (d0z 2 _ (F.N rfl)) (Nat.le_trans (a6g (sgn 32 X.N) (b1e _ (F.N rfl)) (by have:=b0H _ (F.N rfl); omega)) (by decide)) c h h34 (a2p X hk) Ht Hl r w).mono fun x s ⟨q,q'⟩=>⟨by rw [q,a0p hk (by rfl)],q'⟩
theorem d0Z (X:Ins) (tv lv:Value) (hk:a0n X.op=19) (F:PlainF 19 X) (hN:X.N<18446744073709551616) (c:Nat) (h:Trie VObj) (h34:∀ hh,(∀ b,b<c→hh.get b=h.get b)→∃ z:List Nat→List Nat, ∀ r w,go (K4 s7 3 34 [I7 X tv lv]) ⟨c+1,hh,r,w⟩=some (.ret (.bool true),⟨c+1,hh,z r,w⟩))
 (H:InsAt c h X (I7 X tv lv)) (Ht:Q6 c h tv (P6 X.types)) (Hl:Q6 c h lv (P6 X.labels)) (r w:List Nat) :
 H6 (go (a0c H8 NN (K4 s7 3) (I7 X tv lv)) ⟨c,h,r,w⟩) fun x s=>x=.ret (.string ⟨⟨R6 X⟩⟩)∧∀ i,i<c→s.h.get i=h.get i:=by
 obtain ⟨a,hA,ha⟩:=O9 F.A
 obtain ⟨b,hB,hb⟩:=O9 F.B
 exact (d0A NN _ _ _ X tv lv a b hA hB ha hb (c9Q 2 _ hN) (Nat.le_trans (a6g (sgn 64 X.N) (by unfold sgn; split <;> omega) (by unfold sgn; split <;> omega)) (by decide)) c h h34 (a2p X hk) Ht Hl r w).mono fun x s ⟨q,q'⟩=>⟨by rw [q,a0p hk (by rfl)],q'⟩
theorem d2F (X:Ins) (tv lv:Value) (hk:a0n X.op=20) (F:PlainF 20 X) (hN:X.N<18446744073709551616) (c:Nat) (h:Trie VObj) (h34:∀ hh,(∀ b,b<c→hh.get b=h.get b)→∃ z:List Nat→List Nat, ∀ r w,go (K4 s7 3 34 [I7 X tv lv]) ⟨c+1,hh,r,w⟩=some (.ret (.bool true),⟨c+1,hh,z r,w⟩))
 (H:InsAt c h X (I7 X tv lv)) (Ht:Q6 c h tv (P6 X.types)) (Hl:Q6 c h lv (P6 X.labels)) (r w:List Nat) :
 H6 (go (a0c H8 NN (K4 s7 3) (I7 X tv lv)) ⟨c,h,r,w⟩) fun x s=>x=.ret (.string ⟨⟨R6 X⟩⟩)∧∀ i,i<c→s.h.get i=h.get i:=by
 obtain ⟨a,hA,ha⟩:=O9 F.A
 obtain ⟨b,hB,hb⟩:=O9 F.B
 exact (d0J NN _ _ _ X tv lv a b hA hB ha hb (d5m 2 _) c h h34 (a2p X hk) Ht Hl r w).mono fun x s ⟨q,q'⟩=>⟨by rw [q,a0p hk (by rfl)],q'⟩
theorem d3H (X:Ins) (tv lv:Value) (hk:a0n X.op=1) (F:PlainF 1 X) (hN:X.N<18446744073709551616) (c:Nat) (h:Trie VObj) (h34:∀ hh,(∀ b,b<c→hh.get b=h.get b)→∃ z:List Nat→List Nat, ∀ r w,go (K4 s7 3 34 [I7 X tv lv]) ⟨c+1,hh,r,w⟩=some (.ret (.bool true),⟨c+1,hh,z r,w⟩))
 (H:InsAt c h X (I7 X tv lv)) (Ht:Q6 c h tv (P6 X.types)) (Hl:Q6 c h lv (P6 X.labels)) (r w:List Nat) :
 H6 (go (a0c H8 NN (K4 s7 3) (I7 X tv lv)) ⟨c,h,r,w⟩) fun x s=>x=.ret (.string ⟨⟨R6 X⟩⟩)∧∀ i,i<c→s.h.get i=h.get i:=by
 obtain ⟨a,hA,ha⟩:=O9 F.A
 obtain ⟨b,hB,hb⟩:=O9 F.B
 have hbk:a4H X.k X.v X.i=true:=F.rest
 obtain ⟨i1,i2⟩:=b9j hbk
 exact (d4Z NN _ _ _ X tv lv a b hA hB ha hb (b2Q _ _ _ i1 i2) (d2G hbk) (d5C 2 _ _ _ i1 i2) c h h34 (a2p X hk) Ht Hl r w).mono fun x s ⟨q,q'⟩=>⟨by rw [q,a0p hk (by rfl)],q'⟩
theorem d6l (X:Ins) (tv lv:Value) (hk:a0n X.op=6) (F:PlainF 6 X) (hN:X.N<18446744073709551616) (c:Nat) (h:Trie VObj) (h34:∀ hh,(∀ b,b<c→hh.get b=h.get b)→∃ z:List Nat→List Nat, ∀ r w,go (K4 s7 3 34 [I7 X tv lv]) ⟨c+1,hh,r,w⟩=some (.ret (.bool true),⟨c+1,hh,z r,w⟩))
 (H:InsAt c h X (I7 X tv lv)) (Ht:Q6 c h tv (P6 X.types)) (Hl:Q6 c h lv (P6 X.labels)) (r w:List Nat) :
 H6 (go (a0c H8 NN (K4 s7 3) (I7 X tv lv)) ⟨c,h,r,w⟩) fun x s=>x=.ret (.string ⟨⟨R6 X⟩⟩)∧∀ i,i<c→s.h.get i=h.get i:=by
 obtain ⟨a,hA,ha⟩:=O9 F.A
 obtain ⟨b,hB,hb⟩:=O9 F.B
 have ht:a7W X.types=true:=F.rest
 unfold a7W at ht
 split at ht
 · rename_i t e
   exact (d6D NN _ _ _ X tv lv a b hA hB ha hb t e (e0H 2) c h h34 (a2p X hk) Ht Hl r w).mono fun x s ⟨q,q'⟩=>⟨by rw [q,a0p hk (by unfold a2n; rw [e]; rfl)],q'⟩
 · cases ht
theorem d7I (X:Ins) (tv lv:Value) (hk:a0n X.op=3) (F:PlainF 3 X) (hN:X.N<18446744073709551616) (c:Nat) (h:Trie VObj) (h34:∀ hh,(∀ b,b<c→hh.get b=h.get b)→∃ z:List Nat→List Nat, ∀ r w,go (K4 s7 3 34 [I7 X tv lv]) ⟨c+1,hh,r,w⟩=some (.ret (.bool true),⟨c+1,hh,z r,w⟩))
 (H:InsAt c h X (I7 X tv lv)) (Ht:Q6 c h tv (P6 X.types)) (Hl:Q6 c h lv (P6 X.labels)) (r w:List Nat) :
 H6 (go (a0c H8 NN (K4 s7 3) (I7 X tv lv)) ⟨c,h,r,w⟩) fun x s=>x=.ret (.string ⟨⟨R6 X⟩⟩)∧∀ i,i<c→s.h.get i=h.get i:=by
 obtain ⟨a,hA,ha⟩:=O9 F.A
 obtain ⟨b,hB,hb⟩:=O9 F.B
 obtain ⟨q1,q2⟩:=a8S (show idxAll X.labels=true from F.rest)
 have hl:=H.l
 exact (d7R NN (by decide) _ _ _ X tv lv a b hA hB ha hb _ q1 q2 (by rw [List.length_map]; exact hl) c h h34 (a2p X hk) Ht Hl r w).mono fun x s ⟨q,q'⟩=>⟨by rw [q,a0p hk (by unfold a2n; rw [hA]; rfl)],q'⟩
theorem d0h (X:Ins) (tv lv:Value) (hk:a0n X.op=17) (F:PlainF 17 X) (hN:X.N<18446744073709551616) (c:Nat) (h:Trie VObj) (h34:∀ hh,(∀ b,b<c→hh.get b=h.get b)→∃ z:List Nat→List Nat, ∀ r w,go (K4 s7 3 34 [I7 X tv lv]) ⟨c+1,hh,r,w⟩=some (.ret (.bool true),⟨c+1,hh,z r,w⟩))
 (H:InsAt c h X (I7 X tv lv)) (Ht:Q6 c h tv (P6 X.types)) (Hl:Q6 c h lv (P6 X.labels)) (r w:List Nat) :
 H6 (go (a0c H8 NN (K4 s7 3) (I7 X tv lv)) ⟨c,h,r,w⟩) fun x s=>x=.ret (.string ⟨⟨R6 X⟩⟩)∧∀ i,i<c→s.h.get i=h.get i:=by
 obtain ⟨a,hA,ha⟩:=O9 F.A
 obtain ⟨b,hB,hb⟩:=O9 F.B
 have ha63:X.A≤63:=by simpa using (show decide (X.A≤63)=true from F.rest)
 obtain ⟨al,hal⟩:=c6M hk
 have hN':X.N<4294967296:=F.N rfl
 have ha':a≤63:=by rw [hA] at ha63; simp only [Int.ofNat_eq_natCast] at ha63; omega
 have e0:q41 [I7 X tv lv]=some (a6D a X.N al):=by
  obtain ⟨ta,te,rfl,_⟩:=Ht
  obtain ⟨la,le,rfl,_⟩:=Hl
  unfold I7
  rw [hA]
  show bcase (decide (a≤63) && (Nat.blt X.N 4294967296 && (a4a a4i X.op).isSome)) _ none=_
  rw [decide_eq_true ha',H9 hN',hal]; rfl
 have lo:L9 (111::102::102::115::101::116::61::Lib.decDigits X.N)≤60:=by
  have:=Y6 X.N (by omega)
  simp only [o9]; omega
 have la:L9 (97::108::105::103::110::61::Lib.decDigits (2 ^ a))≤60:=by
  have:=Y6 (2 ^ a) (a9z a ha')
  simp only [o9]; omega
 cases hz:X.N.beq 0 with
 | true=>
   cases hy:a.beq al with
   | true=>
     have hq:q41 [I7 X tv lv]=some []:=by rw [e0]; unfold a6D; rw [hz,hy]; rfl
     exact (c8q NN _ _ _ X tv lv a b hA hB ha hb [] [] (Nat.zero_le _) (Nat.zero_le _) (b6u 2) hq c h h34 (a2p X hk) Ht Hl r w).mono fun x s ⟨q,q'⟩=>⟨by rw [q,a0p hk (by unfold a2n; rw [hA,hB,hal]; show M4 (M4 (a0C b) (a5e X.N)) (a5f a al)=_; unfold a5e a5f; rw [hz,hy]; simp only [a9X,N9,List.append_nil])],q'⟩
   | false=>
     have hq:q41 [I7 X tv lv]=some [.string ⟨⟨(97::108::105::103::110::61::Lib.decDigits (2 ^ a))⟩⟩]:=by rw [e0]; unfold a6D; rw [hz,hy]; rfl
     exact (c1b NN _ _ _ X tv lv a b hA hB ha hb (97::108::105::103::110::61::Lib.decDigits (2 ^ a)) [] la (Nat.zero_le _) (b6u 2) hq c h h34 (a2p X hk) Ht Hl r w).mono fun x s ⟨q,q'⟩=>⟨by rw [q,a0p hk (by unfold a2n; rw [hA,hB,hal]; show M4 (M4 (a0C b) (a5e X.N)) (a5f a al)=_; unfold a5e a5f; rw [hz,hy]; simp only [a9X,b2i,N9,List.append_nil])],q'⟩
 | false=>
   cases hy:a.beq al with
   | true=>
     have hq:q41 [I7 X tv lv]=some [.string ⟨⟨(111::102::102::115::101::116::61::Lib.decDigits X.N)⟩⟩]:=by rw [e0]; unfold a6D; rw [hz,hy]; rfl
     exact (c1b NN _ _ _ X tv lv a b hA hB ha hb (111::102::102::115::101::116::61::Lib.decDigits X.N) [] lo (Nat.zero_le _) (b6u 2) hq c h h34 (a2p X hk) Ht Hl r w).mono fun x s ⟨q,q'⟩=>⟨by rw [q,a0p hk (by unfold a2n; rw [hA,hB,hal]; show M4 (M4 (a0C b) (a5e X.N)) (a5f a al)=_; unfold a5e a5f; rw [hz,hy]; simp only [a9X,b2i,N9,List.append_nil])],q'⟩
   | false=>
     have hq:q41 [I7 X tv lv]=some [.string ⟨⟨(111::102::102::115::101::116::61::Lib.decDigits X.N)⟩⟩,.string ⟨⟨(97::108::105::103::110::61::Lib.decDigits (2 ^ a))⟩⟩]:=by rw [e0]; unfold a6D; rw [hz,hy]; rfl
     exact (c8O NN _ _ _ X tv lv a b hA hB ha hb (111::102::102::115::101::116::61::Lib.decDigits X.N) (97::108::105::103::110::61::Lib.decDigits (2 ^ a)) lo la (b6u 2) hq c h h34 (a2p X hk) Ht Hl r w).mono fun x s ⟨q,q'⟩=>⟨by rw [q,a0p hk (by unfold a2n; rw [hA,hB,hal]; show M4 (M4 (a0C b) (a5e X.N)) (a5f a al)=_; unfold a5e a5f; rw [hz,hy]; simp only [b2i,N9,List.append_assoc,List.cons_append])],q'⟩
theorem l12 (X:Ins) (tv lv:Value) (K:Nat) (hK:K≤20) (hk:a0n X.op=K) (F:PlainF K X) (hN:X.N<18446744073709551616) (c:Nat) (h:Trie VObj) (h34:∀ hh,(∀ b,b<c→hh.get b=h.get b)→∃ z:List Nat→List Nat, ∀ r w,go (K4 s7 3 34 [I7 X tv lv]) ⟨c+1,hh,r,w⟩=some (.ret (.bool true),⟨c+1,hh,z r,w⟩))
 (H:InsAt c h X (I7 X tv lv)) (Ht:Q6 c h tv (P6 X.types)) (Hl:Q6 c h lv (P6 X.labels)) (r w:List Nat) :
 H6 (go (a0c H8 NN (K4 s7 3) (I7 X tv lv)) ⟨c,h,r,w⟩) fun x s=>x=.ret (.string ⟨⟨R6 X⟩⟩)∧∀ i,i<c→s.h.get i=h.get i:=by
 match K,hk,F with
 | 0,hk,F=>exact d6c X tv lv hk F hN c h h34 H Ht Hl r w
 | 1,hk,F=>exact d3H X tv lv hk F hN c h h34 H Ht Hl r w
 | 2,hk,F=>exact d9B X tv lv hk F hN c h h34 H Ht Hl r w
 | 3,hk,F=>exact d7I X tv lv hk F hN c h h34 H Ht Hl r w
 | 4,hk,F=>exact d9C X tv lv hk F hN c h h34 H Ht Hl r w
 | 5,hk,F=>exact d8h X tv lv hk F hN c h h34 H Ht Hl r w
 | 6,hk,F=>exact d6l X tv lv hk F hN c h h34 H Ht Hl r w
 | 7,hk,F=>exact d5d X tv lv hk F hN c h h34 H Ht Hl r w
 | 8,hk,F=>exact d9k X tv lv hk F hN c h h34 H Ht Hl r w
 | 9,hk,F=>exact d7i X tv lv hk F hN c h h34 H Ht Hl r w
 | 10,hk,F=>exact d1x X tv lv hk F hN c h h34 H Ht Hl r w
 | 11,hk,F=>exact d1v X tv lv hk F hN c h h34 H Ht Hl r w
 | 12,hk,F=>exact d2R X tv lv hk F hN c h h34 H Ht Hl r w
 | 13,hk,F=>exact d2h X tv lv hk F hN c h h34 H Ht Hl r w
 | 14,hk,F=>exact d1R X tv lv hk F hN c h h34 H Ht Hl r w
 | 15,hk,F=>exact d0c X tv lv hk F hN c h h34 H Ht Hl r w
 | 16,hk,F=>exact d0p X tv lv hk F hN c h h34 H Ht Hl r w
 | 17,hk,F=>exact d0h X tv lv hk F hN c h h34 H Ht Hl r w
 | 18,hk,F=>exact d0L X tv lv hk F hN c h h34 H Ht Hl r w
 | 19,hk,F=>exact d0Z X tv lv hk F hN c h h34 H Ht Hl r w
 | 20,hk,F=>exact d2F X tv lv hk F hN c h h34 H Ht Hl r w
 | k+21,hk,F=>omega
theorem d6s:Y4 Tryz.prog R4 (V6 mL) 12 (XI a7i):=b4x L7 Tryz.func12 (by kernel_rfl) rfl fun X x y c hp H e=>by
 have H0:=H
 obtain ⟨⟨tv,lv,rfl,Ht,Hl⟩,h3,h4⟩:=H0
 unfold a7i at e
 have h34:=fun hh hb=>cI3 (sh:=s7) (f:=34) (q:=fun X=>some (.bool (a1G X))) (by kernel_rfl) H (y:=.bool (a1G X)) rfl hh hb
 cases hpl:a1G X with
 | false=>
   rw [hpl] at e h34
   cases e
   refine ⟨rfl, 4,fun r w=>?_⟩
   rw [a2H (q:=a0c) (N:=NN) (by kernel_rfl) 3]
   exact d9G NN _ X tv lv c hp h34 Ht Hl r w
 | true=>
   rw [hpl] at e h34
   obtain ⟨h1,rfl⟩:=a2K e
   rw [Nat.blt_eq] at h1
   refine ⟨rfl, 4,fun r w=>?_⟩
   rw [a2H (q:=a0c) (N:=NN) (by kernel_rfl) 3]
   have hp2:pK (a0n X.op) X=true:=by
    unfold a1G at hpl
    cases hk:a2q X.op with
    | true=>rw [hk] at hpl; exact hpl
    | false=>rw [hk] at hpl; cases hpl
   exact l12 X tv lv _ (a9U _) rfl (b9b hp2) h1 c hp h34 H Ht Hl r w
end Go.Proofs.YtmomonnlmbljoaaGreatDoor
end
section
namespace Go.Proofs.YtmomonnlmbljoaaGreatDoor
open Go.V Go.RowKit Go.Shelf Go.Proofs
set_option maxRecDepth 1000000
set_option maxHeartbeats 4000000
set_option linter.unusedVariables false
attribute [local congr] U8 U7 Y8 Z0 a0i a0h a1V
variable {mL:Int}
theorem b5t:∀ l:List UInt8,beqBytes l l=true:=by
 intro l
 induction l with
 | nil=>rfl
 | cons x l ih=>
   show Bool.rec (motive:=fun _=>Bool) false (beqBytes l l) (Nat.beq x.toNat x.toNat)=true
   rw [D7]; exact ih
theorem t3 (k:Nat) (call Y2:o8) (X:Ins) (tv lv:Value) (bk bv bi:Int) (T U:List UInt8) (c:Nat) (h:Trie VObj) (h10:∀ a,call 10 [a]=a9b H8 (k+3) Y2 a) (h11:call 11 []=M.pure (.ret (.bool true)))
 (h12:X.types.length<1000→X.labels.length<1000→∀ c' hh,c≤c'→(∀ b,b<c→hh.get b=h.get b)→∃ z:List Nat→List Nat, ∀ r w,go (call 12 [I7 X tv lv]) ⟨c',hh,r,w⟩=some (.ret (.string ⟨⟨T⟩⟩),⟨c',hh,z r,w⟩))
 (h13:X.types.length<1000→X.labels.length<1000→∀ c' hh,c≤c'→(∀ b,b<c→hh.get b=h.get b)→∃ z:List Nat→List Nat, ∀ r w,go (call 13 [I7 X tv lv]) ⟨c',hh,r,w⟩=some (.ret (.string ⟨⟨T⟩⟩),⟨c',hh,z r,w⟩))
 (h14:call 14 [.agg ⟨[.int .i64 bk,.int .i64 bv,.int .i64 bi]⟩]=M.pure (.ret (.string ⟨⟨U⟩⟩))) (h15:call 15 [.agg ⟨[.int .i64 bk,.int .i64 bv,.int .i64 bi]⟩]=M.pure (.ret (.string ⟨⟨U⟩⟩)))
 (Ht:Q6 c h tv (P6 X.types)) (Hl:Q6 c h lv (P6 X.labels)) (r w:List Nat) :
 H6 (go (sh3 H8 (k+3) call (I7 X tv lv) (.agg ⟨[.int .i64 bk,.int .i64 bv,.int .i64 bi]⟩)) ⟨c,h,r,w⟩) fun x s=>x=.ret (.bool true)∧∀ i,i<c→s.h.get i=h.get i:=by
 obtain ⟨ta,te,rfl,_⟩:=id Ht
 obtain ⟨la,le,rfl,_⟩:=id Hl
 simp only [I7,List.length_map] at h12 h13
 cases hl:Nat.blt 20 X.labels.length with
 | true=>
   simp (config:={ maxSteps:=10000000 }) (disch:=first | assumption | omega | (simp only [O1,N8,N7,M9,F8,Nat.reduceMul,Nat.reduceLT,l9,w9,F3,j6,A8,E8,D8,I5,G9,I9,I8,H7,o9,D5,G8,Nat.reduceAdd,D7,E9,Nat.reduceBEq,G5,F9,d9,j5,l6,z8,D9,F7,F5,F4,G6,C8,q9,A9,q8,l8,l7,E5,C9,G7,IntKind.bits,D6,r9,o7] <;> omega) | assumption) only [sh3,c2x,b4L,c1V,a9b,a9x,a9A,a9C,a9E,a9H,a8G,b2k,I7,List.length_map,a1d,a2t,hl,h10,h11,J3,J2,G9,I5,bn,un,U0,V5,U6,a1P,J6,I4,K3,J4,a2W,a5N,U3,P7,P9,a1X,J3,J2,a2M,X4,Y3,a6j,M6,K6,a5Y,V.e1g,a0t,a3s,a0G,R7,Q7,a5G,a6S,z8,T9,R9,U9,P5,O5,l9,w9,F3,A8,H7,M7,M8,Q8,R8,K8,M5,H9,I6,F6,K9,M0,O6,S9,J5,J7,G8]
   exact H6.done ⟨rfl,fun i hi=>by simp (config:={ maxSteps:=10000000 }) (disch:=first | assumption | omega | (simp only [O1,N8,N7,M9,F8,Nat.reduceMul,Nat.reduceLT,l9,w9,F3,j6,A8,E8,D8,I5,G9,I9,I8,H7,o9,D5,G8,Nat.reduceAdd,D7,E9,Nat.reduceBEq,G5,F9,d9,j5,l6,z8,D9,F7,F5,F4,G6,C8,q9,A9,q8,l8,l7,E5,C9,G7,IntKind.bits,D6,r9,o7] <;> omega) | assumption) only [F6]⟩
 | false=>
   cases ht:Nat.blt 20 X.types.length with
   | true=>
     simp (config:={ maxSteps:=10000000 }) (disch:=first | assumption | omega | (simp only [O1,N8,N7,M9,F8,Nat.reduceMul,Nat.reduceLT,l9,w9,F3,j6,A8,E8,D8,I5,G9,I9,I8,H7,o9,D5,G8,Nat.reduceAdd,D7,E9,Nat.reduceBEq,G5,F9,d9,j5,l6,z8,D9,F7,F5,F4,G6,C8,q9,A9,q8,l8,l7,E5,C9,G7,IntKind.bits,D6,r9,o7] <;> omega) | assumption) only [sh3,c2x,b4L,c1V,a9b,a9x,a9A,a9C,a9E,a9H,a8G,b2k,I7,List.length_map,a1d,a2t,hl,ht,h10,h11,J3,I5,bn,un,U0,V5,U6,a1P,J6,I4,K3,J4,a2W,a5N,U3,P7,P9,a1X,J3,a2M,X4,Y3,a4h,M6,K6,a5Y,V.e1g,a0t,a3s,a0G,R7,Q7,a5G,a6S,z8,T9,R9,U9,P5,O5,l9,w9,F3,A8,H7,M7,M8,Q8,R8,K8,M5,H9,I6,F6,K9,M0,O6,S9,J5,J7,G8]
     exact H6.done ⟨rfl,fun i hi=>by simp (config:={ maxSteps:=10000000 }) (disch:=first | assumption | omega | (simp only [O1,N8,N7,M9,F8,Nat.reduceMul,Nat.reduceLT,l9,w9,F3,j6,A8,E8,D8,I5,G9,I9,I8,H7,o9,D5,G8,Nat.reduceAdd,D7,E9,Nat.reduceBEq,G5,F9,d9,j5,l6,z8,D9,F7,F5,F4,G6,C8,q9,A9,q8,l8,l7,E5,C9,G7,IntKind.bits,D6,r9,o7] <;> omega) | assumption) only [F6]⟩
   | false=>
     have m1:X.labels.length<1000:=by
      rcases Nat.lt_or_ge 20 X.labels.length with q | q
      · rw [H9 q] at hl; cases hl
      · omega
     have m2:X.types.length<1000:=by
      rcases Nat.lt_or_ge 20 X.types.length with q | q
      · rw [H9 q] at ht; cases ht
      · omega
     have b60:Nat.blt 60 1=false:=rfl
     have b01:Nat.blt 0 1=true:=rfl
     have b11:Nat.blt 1 1=false:=rfl
     have hinc:=a4G 0 (by omega)
     obtain ⟨z12,e12⟩:=h12 m2 m1 (c+1+1+1) (upd (upd (upd h c (.cells [(.int .i64 X.op, 0),(.int .i64 X.A, 0),(.int .i64 X.B, 0),(.int .u64 (Int.ofNat X.N), 0),(.int .i64 X.k, 0),(.int .i64 X.v, 0),(.int .i64 X.i, 0),(.slice ta X.types.length te, 0),(.slice la X.labels.length le, 0)] 0 false)) (c+1) (.cells [(.int .i64 bk, 0),(.int .i64 bv, 0),(.int .i64 bi, 0)] 0 false)) (c+1+1) (.cells [(.int .i64 X.op, 0),(.int .i64 X.A, 0),(.int .i64 X.B, 0),(.int .u64 (Int.ofNat X.N), 0),(.int .i64 X.k, 0),(.int .i64 X.v, 0),(.int .i64 X.i, 0),(.slice ta X.types.length te, 0),(.slice la X.labels.length le, 0)] 0 false)) (by omega) (fun b hb=>by simp (config:={ maxSteps:=10000000 }) (disch:=first | assumption | omega | (simp only [O1,N8,N7,M9,F8,Nat.reduceMul,Nat.reduceLT,l9,w9,F3,j6,A8,E8,D8,I5,G9,I9,I8,H7,o9,D5,G8,Nat.reduceAdd,D7,E9,Nat.reduceBEq,G5,F9,d9,j5,l6,z8,D9,F7,F5,F4,G6,C8,q9,A9,q8,l8,l7,E5,C9,G7,IntKind.bits,D6,r9,o7] <;> omega) | assumption) only [F6])
     obtain ⟨z13,e13⟩:=h13 m2 m1 (c+1+1+1) (upd (upd (upd h c (.cells [(.int .i64 X.op, 0),(.int .i64 X.A, 0),(.int .i64 X.B, 0),(.int .u64 (Int.ofNat X.N), 0),(.int .i64 X.k, 0),(.int .i64 X.v, 0),(.int .i64 X.i, 0),(.slice ta X.types.length te, 0),(.slice la X.labels.length le, 0)] 0 false)) (c+1) (.cells [(.int .i64 bk, 0),(.int .i64 bv, 0),(.int .i64 bi, 0)] 0 false)) (c+1+1) (.cells [(.int .i64 X.op, 0),(.int .i64 X.A, 0),(.int .i64 X.B, 0),(.int .u64 (Int.ofNat X.N), 0),(.int .i64 X.k, 0),(.int .i64 X.v, 0),(.int .i64 X.i, 0),(.slice ta X.types.length te, 0),(.slice la X.labels.length le, 0)] 0 false)) (by omega) (fun b hb=>by simp (config:={ maxSteps:=10000000 }) (disch:=first | assumption | omega | (simp only [O1,N8,N7,M9,F8,Nat.reduceMul,Nat.reduceLT,l9,w9,F3,j6,A8,E8,D8,I5,G9,I9,I8,H7,o9,D5,G8,Nat.reduceAdd,D7,E9,Nat.reduceBEq,G5,F9,d9,j5,l6,z8,D9,F7,F5,F4,G6,C8,q9,A9,q8,l8,l7,E5,C9,G7,IntKind.bits,D6,r9,o7] <;> omega) | assumption) only [F6])
     simp (config:={ maxSteps:=10000000 }) (disch:=first | assumption | omega | (simp only [O1,N8,N7,M9,F8,Nat.reduceMul,Nat.reduceLT,l9,w9,F3,j6,A8,E8,D8,I5,G9,I9,I8,H7,o9,D5,G8,Nat.reduceAdd,D7,E9,Nat.reduceBEq,G5,F9,d9,j5,l6,z8,D9,F7,F5,F4,G6,C8,q9,A9,q8,l8,l7,E5,C9,G7,IntKind.bits,D6,r9,o7] <;> omega) | assumption) only [sh3,c2x,b4L,c1V,c9D,a9b,a9x,a9A,a9C,a9E,a9H,a8G,b2k,b60,b01,b11,hinc,e12,e13,I7,List.length_map,a1d,a2t,hl,ht,h10,h11,h14,h15,b5t,J3,J2,D7,G9,I5,bn,un,U0,V5,U6,a1P,J6,I4,K3,J4,P7,P9,r9,o7,a4w,a1X,J3,J2,a2M,X4,Y3,a6j,a4h,M6,K6,a2N,V.e1g,R5,a0t,a3s,a0G,R7,a5S,Q7,a5G,a6S,z8,T9,R9,U9,P5,O5,l9,w9,F3,A8,H7,M7,M8,Q8,R8,K8,M5,H9,I6,F6,K9,M0,O6,S9,J5,J7,G8,a0q,V7]
     exact H6.done ⟨rfl,fun i hi=>by simp (config:={ maxSteps:=10000000 }) (disch:=first | assumption | omega | (simp only [O1,N8,N7,M9,F8,Nat.reduceMul,Nat.reduceLT,l9,w9,F3,j6,A8,E8,D8,I5,G9,I9,I8,H7,o9,D5,G8,Nat.reduceAdd,D7,E9,Nat.reduceBEq,G5,F9,d9,j5,l6,z8,D9,F7,F5,F4,G6,C8,q9,A9,q8,l8,l7,E5,C9,G7,IntKind.bits,D6,r9,o7] <;> omega) | assumption) only [F6]⟩
end Go.Proofs.YtmomonnlmbljoaaGreatDoor
end
section
namespace Go.Proofs.YtmomonnlmbljoaaGreatDoor
open Go.V Go.Proofs
set_option maxRecDepth 1000000
noncomputable def d0C (r:Option (Value×S)):Option Value:=match r with
 | some x=>some x.1
 | none=>none
theorem c5m {r:Option (Value×S)} {v:Value} (h:d0C r=some v):∃ s,r=some (v,s):=by
 cases r with
 | none=>cases h
 | some x=>obtain ⟨u,s⟩:=x; cases h; exact ⟨s,rfl⟩
theorem c4b (mL:Int):d0C (a7j Tryz.prog R4 a0E 400 11 [] (Go.V.a4P (V6 mL)))=some (.bool true):=by kernel_rfl
theorem b6T {mL:Int}:a6Z Tryz.prog (V6 mL) 11 [] (.bool true):=by
 obtain ⟨s,h⟩:=c5m (c4b mL)
 exact b9y a2m a0w a8U a5U b0i Tryz.func11 (by kernel_rfl) rfl rfl rfl h
end Go.Proofs.YtmomonnlmbljoaaGreatDoor
end
section
namespace Go.Proofs.YtmomonnlmbljoaaGreatDoor
open Go.V Go.RowKit Go.Shelf Go.Proofs
set_option maxRecDepth 1000000
set_option linter.unusedVariables false
variable {mL:Int}
noncomputable def alX (bs:List Value):Option Value:=match bs with
 | []=>some (.bool true)
 | _=>none
theorem d9f:Y4 Tryz.prog R4 (V6 mL) 11 (fun bs=>M.lift (alX bs)):=a6i fun bs v h=>by
 unfold alX at h
 split at h
 · cases h; exact ⟨rfl,rfl,b6T⟩
 · cases h
noncomputable def e8:Nat→Option (List Value→M Value):=a0m (a0m e7 12 (XI a7i)) 11 (fun bs=>M.lift (alX bs))
noncomputable def s8:a1N:=a1O (a1O s7 12 (XI a7i)) 11 (fun bs=>M.lift (alX bs))
theorem L8:Shelf' Tryz.prog R4 (V6 mL) NN e8 s8:=(L7.add d6s).add d9f
end Go.Proofs.YtmomonnlmbljoaaGreatDoor
end
