import Derived.Test.YtmomonnlmbljoaaGreatDoorPay
import Derived.Test.YtmomonnlmbljoaaGreatDoorPba
section
namespace Go.Proofs.YtmomonnlmbljoaaGreatDoor
open Go.V Go.RowKit Go.Shelf Go.Proofs
set_option maxRecDepth 1000000
attribute [local congr] U8 U7 Y8 Z0 a0i
variable {mL:Int}
theorem e0r (n:Nat) (z:Int):K4 s1 (n+1) 35 [.int .i64 z]=M.pure (.ret (.string ⟨⟨V4 z⟩⟩)):=a2x (q:=fun z=>some (.string ⟨⟨V4 z⟩⟩)) (by kernel_rfl) n rfl
theorem d7d (n:Nat) (z:Int):K4 s1 (n+1) 86 [.int .i64 z]=M.pure (.ret (.bool (idxB z))):=a2x (q:=fun z=>some (.bool (idxB z))) (by kernel_rfl) n rfl
theorem d7p (n:Nat) (z:Int):K4 s1 (n+1) 59 [.int .i64 z]=M.pure (.ret (.bool (idxB z))):=a2x (q:=fun z=>some (.bool (idxB z))) (by kernel_rfl) n rfl
theorem d9p (n:Nat) (z:Int):K4 s1 (n+1) 88 [.int .i64 z]=M.pure (.ret (.bool (a2E z))):=a2x (q:=fun z=>some (.bool (a2E z))) (by kernel_rfl) n rfl
theorem d4i (n:Nat) (z:Int):K4 s1 (n+1) 61 [.int .i64 z]=M.pure (.ret (.bool (a2E z))):=a2x (q:=fun z=>some (.bool (a2E z))) (by kernel_rfl) n rfl
theorem e0I (n:Nat) (z:Int):K4 s1 (n+1) 54 [.int .i64 z]=M.pure (.ret (.bool (a2E z))):=a2x (q:=fun z=>some (.bool (a2E z))) (by kernel_rfl) n rfl
theorem c2f (n:Nat) (m:Nat) (h:m<18446744073709551616):K4 s1 (n+1) 25 [.int .u64 (.ofNat m)]=M.pure (.ret (.string ⟨⟨Lib.decDigits m⟩⟩)):=a2x (q:=q25) (by kernel_rfl) n (c4z m h)
theorem c7D (n:Nat) (z:Int) (h1:-9223372036854775808≤z) (h2:z≤9223372036854775807):K4 s1 (n+1) 95 [.int .i64 z,.int .i64 (.ofNat 10)]=M.pure (.ret (.string ⟨⟨Lib.itoa z⟩⟩)):=by
 refine a5g s1 n 95 _ (g:=a9Z) (by kernel_rfl) ?_
 show bcase (decide (-9223372036854775808≤z) && decide (z≤9223372036854775807)) _ none=_
 rw [decide_eq_true h1,decide_eq_true h2]; rfl
theorem d2c (n:Nat) (m:Nat) (h:m<18446744073709551616):K4 s1 (n+1) 126 [.int .u64 (.ofNat m),.int .i64 (.ofNat 10)]=M.pure (.ret (.string ⟨⟨Lib.decDigits m⟩⟩)):=by
 refine a5g s1 n 126 _ (g:=a5K) (by kernel_rfl) ?_
 show bcase (Nat.blt m 18446744073709551616) _ none=_
 rw [H9 h]; rfl
theorem c9I (n c:Nat) (h:Trie VObj) (r w:List Nat):go (K4 s1 (n+1) 127 []) ⟨c,h,r,w⟩=some (.ret (.slice (some ⟨c, 0,some 0⟩) 125 3),⟨c+1,upd h c (.cells (a1R (fun v=>(v, 0)) (a3Q a0j)) 0 false),r,c::w⟩):=by
 rw [a8j s1 n 127 [] (g:=b0k (a3Q a0j) 125 3) (by kernel_rfl),J6]
 have e:go (b0k (a3Q a0j) 125 3 []) ⟨c,h,r,w⟩=some (.slice (some ⟨c, 0,some 0⟩) 125 3,⟨c+1,upd h c (.cells (a1R (fun v=>(v, 0)) (a3Q a0j)) 0 false),r,c::w⟩):=by
  show go (M.bind (a1U (a3Q a0j)) fun a=>M.pure (Value.slice (some a) 125 3)) ⟨c,h,r,w⟩=_
  rw [J6,a6m c h r w _ (by kernel_rfl)]
  rfl
 rw [e]
 rfl
theorem d7U:Y4 Tryz.prog R4 (V6 mL) 97 (X1 .i64 fun z=>some (a7l (a0z z a0j))):=a6t a2m a0w L1 Tryz.func97 (by kernel_rfl) rfl fun z v h=>by
 cases h
 refine ⟨?_, 2, ?_⟩
 · cases a0z z a0j <;> rfl
 · rw [a2H (q:=b8u) (N:=NN) (by kernel_rfl) 1]
   exact fun c h r w=>t97 NN (by decide) _ (c9I 0) z c h r w
theorem d4o:Y4 Tryz.prog R4 (V6 mL) 93 (fun bs=>M.lift (a5K bs)):=a8K a2m a0w L1.e (L1 (mL:=mL)).s Tryz.func93 (by kernel_rfl) rfl fun bs v h=>by
 unfold a5K at h
 split at h
 · rename_i u
   obtain ⟨h1,rfl⟩:=a2K h
   refine ⟨rfl,fun c h r w=>⟨2, ?_⟩⟩
   rw [a9L (q:=c2t) (N:=NN) (by kernel_rfl) 1]
   have e:K4 s1 1 126 [.int .u64 (.ofNat u),.int .i64 (.ofNat 10)]=_:=d2c 0 u (by simpa [Nat.blt_eq] using h1)
   have e':(Value.int IntKind.i64 10)=.int .i64 (.ofNat 10):=rfl
   simp only [c2t,e',e,U6,K3,J4,V.e1g]
   exact H6.done ⟨rfl,fun _ _=>rfl⟩
 · cases h
theorem d4y:Y4 Tryz.prog R4 (V6 mL) 50 (X1 .i64 fun z=>some (.string ⟨⟨a1Q z⟩⟩)):=a6t a2m a0w L1 Tryz.func50 (by kernel_rfl) rfl fun z v h=>by
 cases h
 exact ⟨rfl, 2,by rw [a2H (q:=b8A) (N:=NN) (by kernel_rfl) 1]; exact t50 _ _ (e0I 0) z⟩
theorem d6n:Y4 Tryz.prog R4 (V6 mL) 85 (X1 .i64 fun z=>some (.bool (a2q z))):=a6t a2m a0w L1 Tryz.func85 (by kernel_rfl) rfl fun z v h=>by
 cases h
 exact ⟨rfl, 2,by rw [a2H (q:=b7V) (N:=NN) (by kernel_rfl) 1]; exact a2T.pure (t85 _ _ (e0r 0) z)⟩
theorem c9A {z:Int} {v:Value} (h:q47 z=some v):∃ m:Nat,z=.ofNat m∧m<18446744073709551616∧v=.string ⟨⟨X8 m⟩⟩:=by
 unfold q47 at h
 split at h
 · rename_i m
   obtain ⟨h1,rfl⟩:=a2K h
   exact ⟨m,rfl,by simpa [Nat.blt_eq] using h1,rfl⟩
 · cases h
theorem b7S (m:Nat) (h:m<18446744073709551616):q47 (.ofNat m)=some (.string ⟨⟨X8 m⟩⟩):=by
 show bcase (Nat.blt m 18446744073709551616) _ none=_
 rw [H9 h]; rfl
theorem d7y:Y4 Tryz.prog R4 (V6 mL) 47 (X1 .i64 q47):=a6t a2m a0w L1 Tryz.func47 (by kernel_rfl) rfl fun z v h=>by
 obtain ⟨m,rfl,hm,rfl⟩:=c9A h
 exact ⟨rfl, 2,by rw [a2H (q:=b6Z) (N:=NN) (by kernel_rfl) 1]; exact a2T.pure (t47 _ _ m hm (c2f 0))⟩
theorem b5k {z w:Int} {v:Value} (h:a6b z w=some v):∃ n:Nat,z=.ofNat n∧((w=.ofNat 32∧n<4294967296∧v=.string ⟨⟨Lib.itoa (sgn 32 n)⟩⟩)∨(w=.ofNat 64∧n<18446744073709551616∧v=.string ⟨⟨Lib.itoa (sgn 64 n)⟩⟩)):=by
 unfold a6b at h
 split at h
 · rename_i n
   split at h
   · rename_i w
     obtain ⟨h1,rfl⟩:=a2K h
     rw [Bool.or_eq_true,Bool.and_eq_true,Bool.and_eq_true] at h1
     refine ⟨n,rfl, ?_⟩
     rcases h1 with ⟨a,b⟩ | ⟨a,b⟩
     · obtain rfl:=Nat.eq_of_beq_eq_true a
       exact Or.inl ⟨rfl,by simpa [Nat.blt_eq] using b,rfl⟩
     · obtain rfl:=Nat.eq_of_beq_eq_true a
       exact Or.inr ⟨rfl,by simpa [Nat.blt_eq] using b,rfl⟩
   · cases h
 · cases h
theorem b8X (n:Nat) (h:n<4294967296):a6b (.ofNat n) (.ofNat 32)=some (.string ⟨⟨Lib.itoa (sgn 32 n)⟩⟩):=by
 show bcase ((Nat.beq 32 32 && Nat.blt n 4294967296) || (Nat.beq 32 64 && Nat.blt n 18446744073709551616)) _ none=_
 rw [H9 h]; rfl
theorem b2U (n:Nat) (h:n<18446744073709551616):a6b (.ofNat n) (.ofNat 64)=some (.string ⟨⟨Lib.itoa (sgn 64 n)⟩⟩):=by
 show bcase ((Nat.beq 64 32 && Nat.blt n 4294967296) || (Nat.beq 64 64 && Nat.blt n 18446744073709551616)) _ none=_
 rw [H9 h]; rfl
theorem e0u:Y4 Tryz.prog R4 (V6 mL) 42 (X2 .u64 .i64 a6b):=c6c a2m a0w L1 Tryz.func42 (by kernel_rfl) rfl fun z w v h=>by
 obtain ⟨n,rfl,⟨rfl,hn,rfl⟩ | ⟨rfl,hn,rfl⟩⟩:=b5k h
 · exact ⟨rfl, 2,by rw [a9L (q:=b1T) (N:=NN) (by kernel_rfl) 1]; exact a2T.pure (c9H _ _ n hn (c7D 0))⟩
 · exact ⟨rfl, 2,by rw [a9L (q:=b1T) (N:=NN) (by kernel_rfl) 1]; exact a2T.pure (d0i _ _ n hn (c7D 0))⟩
theorem d8W:Y4 Tryz.prog R4 (V6 mL) 53 (X2 .u64 .i64 a6b):=c6c a2m a0w L1 Tryz.func53 (by kernel_rfl) rfl fun z w v h=>by
 obtain ⟨n,rfl,⟨rfl,hn,rfl⟩ | ⟨rfl,hn,rfl⟩⟩:=b5k h
 · exact ⟨rfl, 2,by rw [a9L (q:=a9P) (N:=NN) (by kernel_rfl) 1]; exact a2T.pure (d1c _ _ n hn (c2f 0))⟩
 · exact ⟨rfl, 2,by rw [a9L (q:=a9P) (N:=NN) (by kernel_rfl) 1]; exact a2T.pure (d1j _ _ n hn (c2f 0))⟩
noncomputable def onB (q:Int→Int→Int→Option Value) (bs:List Value):Option Value:=match bs with
 | [.agg ⟨[.int .i64 a,.int .i64 b,.int .i64 d]⟩]=>q a b d
 | _=>none
theorem c8Q {q:Int→Int→Int→Option Value} {bs:List Value} {v:Value} (h:onB q bs=some v):∃ a b d,bs=[.agg ⟨[.int .i64 a,.int .i64 b,.int .i64 d]⟩]∧q a b d=some v:=by
 unfold onB at h
 split at h
 · exact ⟨_,_,_,rfl,h⟩
 · cases h
noncomputable def XB (q:Int→Int→Int→Option Value):List Value→M Value:=fun bs=>M.lift (onB q bs)
theorem b6j {sh:a1N} {f:Nat} {q:Int→Int→Int→Option Value} (h:sh.get f=some (arX (XB q))) (m:Nat) {a b d:Int} {v:Value} (e:q a b d=some v):K4 sh (m+1) f [.agg ⟨[.int .i64 a,.int .i64 b,.int .i64 d]⟩]=M.pure (.ret v):=
 a5g sh m f _ h e
theorem c2S {ext:Nat→Option (List Value→M Value)} {sh:a1N} (L:Shelf' Tryz.prog R4 (V6 mL) NN ext sh) {f:Nat} {fn:Func} {cd:Code} (hPf:Tryz.prog.funcs[f]?=some fn) (hnum:(fn.name == "runtime.NumGoroutine")=false) (hb:fn.body=some cd)
 {q:Int→Int→Int→Option Value} (h:∀ a b d v,q a b d=some v→a0e 8 v=true∧∃ m,a2T (K4 sh m f [.agg ⟨[.int .i64 a,.int .i64 b,.int .i64 d]⟩]) v):Y4 Tryz.prog R4 (V6 mL) f (XB q):=
 a8K a2m a0w L.e L.s hPf hnum hb fun bs v hq=>by
  obtain ⟨a,b,d,rfl,e⟩:=c8Q hq
  obtain ⟨h1,m,h2⟩:=h a b d v e
  exact ⟨h1,fun c h r w=>⟨m,h2 c h r w⟩⟩
theorem e0v:Y4 Tryz.prog R4 (V6 mL) 87 (XB fun a b d=>some (.bool (a4H a b d))):=c2S L1 Tryz.func87 (by kernel_rfl) rfl fun a b d v h=>by
 cases h
 exact ⟨rfl, 2,by rw [a2H (q:=b6S) (N:=NN) (by kernel_rfl) 1]; exact t87 _ _ (d7d 0) (d9p 0) a b d⟩
theorem d8p:Y4 Tryz.prog R4 (V6 mL) 58 (XB fun a b d=>some (.bool (a4H a b d))):=c2S L1 Tryz.func58 (by kernel_rfl) rfl fun a b d v h=>by
 cases h
 exact ⟨rfl, 2,by rw [a2H (q:=b8b) (N:=NN) (by kernel_rfl) 1]; exact t58 _ _ (d7p 0) (d4i 0) a b d⟩
noncomputable def e2:Nat→Option (List Value→M Value):=(a0m (a0m (a0m (a0m (a0m (a0m (a0m (a0m (a0m e1 97 (X1 .i64 fun z=>some (a7l (a0z z a0j)))) 93 (fun bs=>M.lift (a5K bs))) 50 (X1 .i64 fun z=>some (.string ⟨⟨a1Q z⟩⟩))) 85 (X1 .i64 fun z=>some (.bool (a2q z)))) 47 (X1 .i64 q47)) 42 (X2 .u64 .i64 a6b)) 53 (X2 .u64 .i64 a6b)) 87 (XB fun a b d=>some (.bool (a4H a b d)))) 58 (XB fun a b d=>some (.bool (a4H a b d))))
noncomputable def s2:a1N:=(a1O (a1O (a1O (a1O (a1O (a1O (a1O (a1O (a1O s1 97 (X1 .i64 fun z=>some (a7l (a0z z a0j)))) 93 (fun bs=>M.lift (a5K bs))) 50 (X1 .i64 fun z=>some (.string ⟨⟨a1Q z⟩⟩))) 85 (X1 .i64 fun z=>some (.bool (a2q z)))) 47 (X1 .i64 q47)) 42 (X2 .u64 .i64 a6b)) 53 (X2 .u64 .i64 a6b)) 87 (XB fun a b d=>some (.bool (a4H a b d)))) 58 (XB fun a b d=>some (.bool (a4H a b d))))
theorem L2:Shelf' Tryz.prog R4 (V6 mL) NN e2 s2:=(((((((((L1.add d7U).add d4o).add d4y).add d6n).add d7y).add e0u).add d8W).add e0v).add d8p)
theorem c2W (n:Nat) (z:Int):K4 s2 (n+1) 97 [.int .i64 z]=M.pure (.ret (a7l (a0z z a0j))):=a2x (q:=fun z=>some (a7l (a0z z a0j))) (by kernel_rfl) n rfl
theorem e0B (n:Nat) (z:Int):K4 s2 (n+1) 85 [.int .i64 z]=M.pure (.ret (.bool (a2q z))):=a2x (q:=fun z=>some (.bool (a2q z))) (by kernel_rfl) n rfl
theorem c7e (n:Nat) (m:Nat) (h:m<18446744073709551616):K4 s2 (n+1) 47 [.int .i64 (.ofNat m)]=M.pure (.ret (.string ⟨⟨X8 m⟩⟩)):=a2x (q:=q47) (by kernel_rfl) n (b7S m h)
theorem d9E (n:Nat) (m:Nat) (h:m<18446744073709551616):K4 s2 (n+1) 53 [.int .u64 (.ofNat m),.int .i64 (.ofNat 64)]=M.pure (.ret (.string ⟨⟨Lib.itoa (sgn 64 m)⟩⟩)):=Y2 (q:=a6b) (by kernel_rfl) n (b2U m h)
theorem d3M (n:Nat) (z:Int):K4 s2 (n+1) 40 [.int .i64 z]=M.pure (.ret (.string ⟨⟨a1Q z⟩⟩)):=a2x (q:=fun z=>some (.string ⟨⟨a1Q z⟩⟩)) (by kernel_rfl) n rfl
theorem d6I (n:Nat) (z:Int) (h1:-9223372036854775808≤z) (h2:z≤9223372036854775807):K4 s2 (n+1) 37 [.int .i64 z]=M.pure (.ret (.string ⟨⟨Lib.itoa z⟩⟩)):=by
 refine a5g s2 n 37 _ (g:=b2q) (by kernel_rfl) ?_
 show bcase (decide (-9223372036854775808≤z) && decide (z≤9223372036854775807)) _ none=_
 rw [decide_eq_true h1,decide_eq_true h2]; rfl
theorem d4C:Y4 Tryz.prog R4 (V6 mL) 45 (X1 .i64 fun z=>some (.string ⟨⟨V4 z⟩⟩)):=a6t a2m a0w L2 Tryz.func45 (by kernel_rfl) rfl fun z v h=>by
 cases h
 exact ⟨rfl, 2,by rw [a2H (q:=b4I) (N:=NN) (by kernel_rfl) 1]; exact t45 _ _ (c2W 0) z⟩
theorem d9b:Y4 Tryz.prog R4 (V6 mL) 46 (X1 .i64 fun z=>some (.int .i64 (.ofNat (a0n z)))):=a6t a2m a0w L2 Tryz.func46 (by kernel_rfl) rfl fun z v h=>by
 cases h
 exact ⟨rfl, 2,by rw [a2H (q:=b4F) (N:=NN) (by kernel_rfl) 1]; exact t46 _ _ (c2W 0) z⟩
theorem e0x:Y4 Tryz.prog R4 (V6 mL) 57 (X1 .i64 fun z=>some (.bool (a2q z))):=a6t a2m a0w L2 Tryz.func57 (by kernel_rfl) rfl fun z v h=>by
 cases h
 exact ⟨rfl, 2,by rw [a2H (q:=b4Q) (N:=NN) (by kernel_rfl) 1]; exact t57 _ _ (c2W 0) z⟩
noncomputable def q55 (z:Int):Option Value:=bcase (decide (-9223372036854775808≤z) && decide (z≤9223372036854775807)) (some (.string ⟨⟨Lib.itoa z⟩⟩)) none
theorem c8b {z:Int} {v:Value} (h:q55 z=some v):-9223372036854775808≤z∧z≤9223372036854775807∧v=.string ⟨⟨Lib.itoa z⟩⟩:=by
 obtain ⟨h1,rfl⟩:=a2K h
 simp only [Bool.and_eq_true,decide_eq_true_eq] at h1
 exact ⟨h1.1,h1.2,rfl⟩
theorem d1g (z:Int) (h1:-9223372036854775808≤z) (h2:z≤9223372036854775807):q55 z=some (.string ⟨⟨Lib.itoa z⟩⟩):=by
 unfold q55; rw [decide_eq_true h1,decide_eq_true h2]; rfl
theorem d6m:Y4 Tryz.prog R4 (V6 mL) 55 (X1 .i64 q55):=a6t a2m a0w L2 Tryz.func55 (by kernel_rfl) rfl fun z v h=>by
 obtain ⟨h1,h2,rfl⟩:=c8b h
 exact ⟨rfl, 2,by rw [a2H (q:=b9o) (N:=NN) (by kernel_rfl) 1]; exact a2T.pure (t55 _ _ z h1 h2 (d9E 0))⟩
theorem c8c {z:Int} {v:Value} (h:q49 z=some v):∃ m:Nat,z=.ofNat m∧m<18446744073709551616∧v=.string ⟨⟨a0C m⟩⟩:=by
 unfold q49 at h
 split at h
 · rename_i m
   obtain ⟨h1,rfl⟩:=a2K h
   exact ⟨m,rfl,by simpa [Nat.blt_eq] using h1,rfl⟩
 · cases h
theorem c3N (m:Nat) (h:m<18446744073709551616):q49 (.ofNat m)=some (.string ⟨⟨a0C m⟩⟩):=by
 show bcase (Nat.blt m 18446744073709551616) _ none=_
 rw [H9 h]; rfl
theorem d4B:Y4 Tryz.prog R4 (V6 mL) 49 (X1 .i64 q49):=a6t a2m a0w L2 Tryz.func49 (by kernel_rfl) rfl fun z v h=>by
 obtain ⟨m,rfl,hm,rfl⟩:=c8c h
 exact ⟨rfl, 2,by rw [a2H (q:=b7Z) (N:=NN) (by kernel_rfl) 1]; exact a2T.pure (t49 _ _ m hm (c7e 0))⟩
theorem c9f {z w:Int} {v:Value} (h:q51 z w=some v):∃ m n:Nat,z=.ofNat m∧w=.ofNat n∧m<18446744073709551616∧n<18446744073709551616∧v=.string ⟨⟨a4A m n⟩⟩:=by
 unfold q51 at h
 split at h
 · rename_i m
   split at h
   · rename_i n
     obtain ⟨h1,rfl⟩:=a2K h
     rw [Bool.and_eq_true] at h1
     exact ⟨m,n,rfl,rfl,by simpa [Nat.blt_eq] using h1.1,by simpa [Nat.blt_eq] using h1.2,rfl⟩
   · cases h
 · cases h
theorem d2z (m n:Nat) (h:m<18446744073709551616) (h':n<18446744073709551616):q51 (.ofNat m) (.ofNat n)=some (.string ⟨⟨a4A m n⟩⟩):=by
 show bcase (Nat.blt m 18446744073709551616 && Nat.blt n 18446744073709551616) _ none=_
 rw [H9 h,H9 h']; rfl
theorem d9c:Y4 Tryz.prog R4 (V6 mL) 51 (X2 .i64 .i64 q51):=c6c a2m a0w L2 Tryz.func51 (by kernel_rfl) rfl fun z w v h=>by
 obtain ⟨m,n,rfl,rfl,hm,hn,rfl⟩:=c9f h
 exact ⟨rfl, 2,by rw [a9L (q:=b7B) (N:=NN) (by kernel_rfl) 1]; exact a2T.pure (t51 _ _ m n hm hn (c7e 0))⟩
noncomputable def a9f (k v i:Int):Option Value:=bcase (decide (-9223372036854775808≤i) && decide (i≤9223372036854775807)) (some (.string ⟨⟨a5H k v i⟩⟩)) none
theorem b9d {k v i:Int} {x:Value} (h:a9f k v i=some x):-9223372036854775808≤i∧i≤9223372036854775807∧x=.string ⟨⟨a5H k v i⟩⟩:=by
 obtain ⟨h1,rfl⟩:=a2K h
 simp only [Bool.and_eq_true,decide_eq_true_eq] at h1
 exact ⟨h1.1,h1.2,rfl⟩
theorem c0h (k v i:Int) (h1:-9223372036854775808≤i) (h2:i≤9223372036854775807):a9f k v i=some (.string ⟨⟨a5H k v i⟩⟩):=by
 unfold a9f; rw [decide_eq_true h1,decide_eq_true h2]; rfl
theorem d5h:Y4 Tryz.prog R4 (V6 mL) 14 (XB a9f):=c2S L2 Tryz.func14 (by kernel_rfl) rfl fun k v i x h=>by
 obtain ⟨h1,h2,rfl⟩:=b9d h
 exact ⟨rfl, 2,by rw [a2H (q:=b7d) (N:=NN) (by kernel_rfl) 1]; exact t14 _ _ (d3M 0) k v i h1 h2 (d6I 0 i h1 h2)⟩
noncomputable def c6X (k:Nat):Bool:=!(a0o (fun r:a4V=>!(Nat.beq r.1 k)) a0j)
theorem unk {z:Int} (hu:a0z z a0j=none) (k:Nat) (hk:c6X k=true):decide (z=Int.ofNat k)=false:=by
 rw [decide_eq_false_iff_not]
 intro e
 have:a0o (fun r:a4V=>!(Nat.beq r.1 k)) a0j=true:=by
  rw [a0y]
  intro r hr
  have:=b7n z a0j hu r hr
  rw [e] at this
  have hne:r.1≠k:=fun q=>this (by rw [q])
  rw [a9o hne]; rfl
 unfold c6X at hk
 rw [this] at hk
 cases hk
theorem c4r {z:Int} (hu:a0z z a0j=none):a2q z=false:=by unfold a2q; rw [hu]
theorem d1U (N:Nat) (call:o8) (z:Int) (h85:call 85 [.int .i64 z]=M.pure (.ret (.bool false))):b3O H8 N call (.int .i64 z)=M.pure (.ret (.bool false)):=by
 simp only [b3O,c4o,h85,bn,U0,V5,U6,J4,a4w,a2M,a3P,a3O,X4,Y3,a5r,K6,V.e1g,a7R,a6x,Bool.and_false]
theorem e0k (N:Nat) (call:o8) (z:Int) (h:call 124 [.int .i64 z]=M.pure (.ret (.bool false))):b9e H8 N call (.int .i64 z)=M.pure (.ret (.int .i64 (.ofNat 0))):=by
 simp only [b9e,c6T,c7v,h,bn,un,U0,V5,U6,a1P,J4,J3,M6,V.e1g,R7,Bool.not_false]
theorem d4R (N:Nat) (call:o8) (z:Int) (hu:a0z z a0j=none):b8a H8 N call (.int .i64 z)=M.pure (.ret (.int .i64 (.ofNat 0))):=by
 simp only [b8a,c6R,c6A,c6B,c7t,c7I,c7y,c6L,c6O,c7p,c7u,c4x,unk hu 37 (by kernel_rfl),unk hu 38 (by kernel_rfl),unk hu 63 (by kernel_rfl),unk hu 64 (by kernel_rfl),unk hu 64520 (by kernel_rfl),unk hu 64521 (by kernel_rfl),unk hu 64522 (by kernel_rfl),unk hu 64523 (by kernel_rfl),unk hu 64524 (by kernel_rfl),unk hu 64525 (by kernel_rfl),unk hu 64526 (by kernel_rfl),unk hu 64527 (by kernel_rfl),unk hu 64528 (by kernel_rfl),unk hu 64529 (by kernel_rfl),bn,U0,V5,J2,X4,Y3,M6,K6,V.e1g,P8]
theorem d5A (N:Nat) (call:o8) (z:Int) (hu:a0z z a0j=none) (h91:call 91 [.int .i64 z]=M.pure (.ret (.int .i64 (.ofNat 0)))) (h92:call 92 [.int .i64 z]=M.pure (.ret (.int .i64 (.ofNat 0)))):b8p H8 N call (.int .i64 z)=M.pure (.ret (.int .i64 (.ofNat 0))):=by
 have e:decide (Int.ofNat 0<Int.ofNat 0)=false:=by decide
 simp only [b8p,c7E,c6w,c7J,c6z,c7H,c6x,c6I,c7C,c6K,c6D,c3Z,c4C,c3l,unk hu 2 (by kernel_rfl),unk hu 3 (by kernel_rfl),unk hu 4 (by kernel_rfl),unk hu 12 (by kernel_rfl),unk hu 13 (by kernel_rfl),unk hu 14 (by kernel_rfl),unk hu 16 (by kernel_rfl),unk hu 17 (by kernel_rfl),unk hu 28 (by kernel_rfl),unk hu 32 (by kernel_rfl),unk hu 33 (by kernel_rfl),unk hu 34 (by kernel_rfl),unk hu 35 (by kernel_rfl),unk hu 36 (by kernel_rfl),unk hu 65 (by kernel_rfl),unk hu 66 (by kernel_rfl),unk hu 208 (by kernel_rfl),unk hu 210 (by kernel_rfl),h91,h92,e,bn,U0,V5,U6,J4,J2,X4,Y3,M6,K6,V.e1g,P8,a3s]
theorem d2s (mL:Int):a0o (fun r:a4V=>b1R (K4 b0Z 400 39 [.int .i64 (.ofNat r.1)] (Go.V.a4P (V6 mL))) r.2.2) a0j=true:=by kernel_rfl
theorem d0r:Y4 Tryz.prog R4 (V6 mL) 39 (X1 .i64 fun z=>bcase (a2q z) (some (.int .i64 (.ofNat (a0n z)))) none):=b2l fun z v h=>by
 obtain ⟨h1,rfl⟩:=a2K h
 unfold a2q at h1
 unfold a0n
 cases hf:a0z z a0j with
 | none=>rw [hf] at h1; cases h1
 | some r=>
   obtain ⟨hm,rfl⟩:=a6o z a0j r hf
   obtain ⟨s,hr⟩:=b0J ((a0y _ _).1 (d2s mL) r hm)
   exact ⟨rfl,a9K a2m a0w a8U a5U b0i c2I Tryz.func39 (by kernel_rfl) rfl rfl rfl hr⟩
theorem d2b:Y4 Tryz.prog R4 (V6 mL) 39 (X1 .i64 fun z=>bcase (!(a2q z)) (some (.int .i64 (.ofNat (a0n z)))) none):=a6t a2m a0w L2 Tryz.func39 (by kernel_rfl) rfl fun z v h=>by
 obtain ⟨h1,rfl⟩:=a2K h
 refine ⟨rfl, 4, ?_⟩
 unfold a2q at h1
 cases hf:a0z z a0j with
 | some r=>rw [hf] at h1; cases h1
 | none=>
   rw [show a0n z=0 by unfold a0n; rw [hf],a2H (q:=b8p) (N:=NN) (by kernel_rfl) 3]
   refine a2T.pure (d5A _ _ z hf ?_ ?_)
   · rw [a2H (q:=b9e) (N:=NN) (by kernel_rfl) 2]
     refine e0k _ _ z ?_
     rw [a2H (q:=b3O) (N:=NN) (by kernel_rfl) 1]
     refine d1U _ _ z ?_
     rw [e0B 0,c4r hf]
   · rw [a2H (q:=b8a) (N:=NN) (by kernel_rfl) 2]
     exact d4R _ _ z hf
theorem d6d:Y4 Tryz.prog R4 (V6 mL) 39 (X1 .i64 fun z=>some (.int .i64 (.ofNat (a0n z)))):=c9C d0r d2b fun z v h=>by
 cases hk:a2q z with
 | true=>exact Or.inl h
 | false=>exact Or.inr h
noncomputable def a4i:List (Nat×Nat):=[(40, 2),(41, 3),(44, 0),(45, 0),(46, 1),(47, 1),(48, 0),(49, 0),(50, 1),(51, 1),(52, 2),(53, 2),(54, 2),(55, 3),(58, 0),(59, 1),(60, 0),(61, 1),(62, 2)]
noncomputable def a4a (l:List (Nat×Nat)) (z:Int):Option Nat:=List.rec (motive:=fun _=>Option Nat) none (fun x _ ih=>bcase (decide (z=Int.ofNat x.1)) (some x.2) ih) l
theorem b2z (z:Int):∀ (l:List (Nat×Nat)) (a:Nat),a4a l z=some a→∃ x∈l,z=Int.ofNat x.1∧a=x.2:=by
 intro l
 induction l with
 | nil=>intro a h; cases h
 | cons q l ih=>
   intro a h
   have h':bcase (decide (z=Int.ofNat q.1)) (some q.2) (a4a l z)=some a:=h
   by_cases hq:z=Int.ofNat q.1
   · rw [decide_eq_true hq] at h'
     cases h'
     exact ⟨q,List.mem_cons_self,hq,rfl⟩
   · rw [decide_eq_false hq] at h'
     obtain ⟨x,h1,h2⟩:=ih a h'
     exact ⟨x,List.mem_cons_of_mem _ h1,h2⟩
noncomputable def a6k (z:Int):Option Value:=match a4a a4i z with
 | some a=>some (.int .i64 (.ofNat a))
 | none=>none
theorem c4k (mL:Int):a0o (fun x:Nat×Nat=>b1R (K4 b0Z 400 94 [.int .i64 (.ofNat x.1)] (Go.V.a4P (V6 mL))) x.2) a4i=true:=by kernel_rfl
theorem d4J:Y4 Tryz.prog R4 (V6 mL) 94 (X1 .i64 a6k):=b2l fun z v h=>by
 unfold a6k at h
 split at h
 · rename_i a ha
   cases h
   obtain ⟨x,hm,rfl,rfl⟩:=b2z z a4i a ha
   obtain ⟨s,hr⟩:=b0J ((a0y _ _).1 (c4k mL) x hm)
   exact ⟨rfl,a9K a2m a0w a8U a5U b0i c2I Tryz.func94 (by kernel_rfl) rfl rfl rfl hr⟩
 · cases h
noncomputable def e3:Nat→Option (List Value→M Value):=(a0m (a0m (a0m (a0m (a0m (a0m (a0m (a0m (a0m e2 45 (X1 .i64 fun z=>some (.string ⟨⟨V4 z⟩⟩))) 46 (X1 .i64 fun z=>some (.int .i64 (.ofNat (a0n z))))) 57 (X1 .i64 fun z=>some (.bool (a2q z)))) 55 (X1 .i64 q55)) 49 (X1 .i64 q49)) 51 (X2 .i64 .i64 q51)) 14 (XB a9f)) 39 (X1 .i64 fun z=>some (.int .i64 (.ofNat (a0n z))))) 94 (X1 .i64 a6k))
noncomputable def s3:a1N:=(a1O (a1O (a1O (a1O (a1O (a1O (a1O (a1O (a1O s2 45 (X1 .i64 fun z=>some (.string ⟨⟨V4 z⟩⟩))) 46 (X1 .i64 fun z=>some (.int .i64 (.ofNat (a0n z))))) 57 (X1 .i64 fun z=>some (.bool (a2q z)))) 55 (X1 .i64 q55)) 49 (X1 .i64 q49)) 51 (X2 .i64 .i64 q51)) 14 (XB a9f)) 39 (X1 .i64 fun z=>some (.int .i64 (.ofNat (a0n z))))) 94 (X1 .i64 a6k))
theorem L3:Shelf' Tryz.prog R4 (V6 mL) NN e3 s3:=(((((((((L2.add d4C).add d9b).add e0x).add d6m).add d4B).add d9c).add d5h).add d6d).add d4J)
noncomputable def uA (k:Nat):Bool:=a4O k [2, 3, 4, 7, 8, 9, 12, 16, 20, 5, 10, 11, 14, 15, 17]
noncomputable def uB (k:Nat):Bool:=a4O k [5, 10, 11, 14, 15, 13, 17]
noncomputable def uN (k:Nat):Bool:=a4O k [17, 18, 19]
noncomputable def a3N (k:Nat):M CR:=M.pure (.ret (.tuple ⟨[.bool (uA k),.bool (uB k),.bool (uN k)]⟩))
theorem t84 (N:Nat) (call:o8) (k:Nat) (hk:k≤20):a4Y H8 N call (.int .i64 (.ofNat k))=a3N k:=by
 match k,hk with
 | 0,_=>exact (by kernel_rfl:a4Y H8 N call (.int .i64 (.ofNat 0))=a3N 0)
 | 1,_=>exact (by kernel_rfl:a4Y H8 N call (.int .i64 (.ofNat 1))=a3N 1)
 | 2,_=>exact (by kernel_rfl:a4Y H8 N call (.int .i64 (.ofNat 2))=a3N 2)
 | 3,_=>exact (by kernel_rfl:a4Y H8 N call (.int .i64 (.ofNat 3))=a3N 3)
 | 4,_=>exact (by kernel_rfl:a4Y H8 N call (.int .i64 (.ofNat 4))=a3N 4)
 | 5,_=>exact (by kernel_rfl:a4Y H8 N call (.int .i64 (.ofNat 5))=a3N 5)
 | 6,_=>exact (by kernel_rfl:a4Y H8 N call (.int .i64 (.ofNat 6))=a3N 6)
 | 7,_=>exact (by kernel_rfl:a4Y H8 N call (.int .i64 (.ofNat 7))=a3N 7)
 | 8,_=>exact (by kernel_rfl:a4Y H8 N call (.int .i64 (.ofNat 8))=a3N 8)
 | 9,_=>exact (by kernel_rfl:a4Y H8 N call (.int .i64 (.ofNat 9))=a3N 9)
 | 10,_=>exact (by kernel_rfl:a4Y H8 N call (.int .i64 (.ofNat 10))=a3N 10)
 | 11,_=>exact (by kernel_rfl:a4Y H8 N call (.int .i64 (.ofNat 11))=a3N 11)
 | 12,_=>exact (by kernel_rfl:a4Y H8 N call (.int .i64 (.ofNat 12))=a3N 12)
 | 13,_=>exact (by kernel_rfl:a4Y H8 N call (.int .i64 (.ofNat 13))=a3N 13)
 | 14,_=>exact (by kernel_rfl:a4Y H8 N call (.int .i64 (.ofNat 14))=a3N 14)
 | 15,_=>exact (by kernel_rfl:a4Y H8 N call (.int .i64 (.ofNat 15))=a3N 15)
 | 16,_=>exact (by kernel_rfl:a4Y H8 N call (.int .i64 (.ofNat 16))=a3N 16)
 | 17,_=>exact (by kernel_rfl:a4Y H8 N call (.int .i64 (.ofNat 17))=a3N 17)
 | 18,_=>exact (by kernel_rfl:a4Y H8 N call (.int .i64 (.ofNat 18))=a3N 18)
 | 19,_=>exact (by kernel_rfl:a4Y H8 N call (.int .i64 (.ofNat 19))=a3N 19)
 | 20,_=>exact (by kernel_rfl:a4Y H8 N call (.int .i64 (.ofNat 20))=a3N 20)
 | k+21,h=>omega
theorem c9W:a0o (fun r:a4V=>Nat.ble r.2.2 20) a0j=true:=by kernel_rfl
theorem a9U (z:Int):a0n z≤20:=by
 unfold a0n
 cases h:a0z z a0j with
 | none=>decide
 | some r=>exact Nat.le_of_ble_eq_true ((a0y _ _).1 c9W r (a6o z a0j r h).1)
noncomputable def idxAll (l:List Int):Bool:=a0o idxB l
theorem a8d (q:Int) (t:List Int):idxAll (q::t)=(idxB q && idxAll t):=l9 _ _ _
abbrev P6 (l:List Int):List Value:=l.map fun n=>Value.int .i64 n
theorem c5E (N:Nat) (call:o8) (h59:∀ n,call 59 [.int .i64 n]=M.pure (.ret (.bool (idxB n)))) (c:Nat) (h:Trie VObj) (v:Value) (l:List Int) (H:Q6 c h v (P6 l)) (hl:l.length<4294967296) :
 ∀ (t:List Int) (i k:Nat) (g0 g1 g2 g3 g4 g5 g6 g7 g8 g9 g11 g12:Value) (r w:List Nat),l.drop i=t→t.length<k →
 H6 (go (a2S (b3j H8 N call v) k [g0,g1,g2,g3,g4,g5,g6,g7,g8,g9,.bool false,g11,g12,.int .i64 (.ofNat i)]) ⟨c,h,r,w⟩)
  fun x s=>s.c=c∧s.h=h∧((idxAll t=true∧x.1=.exit 0)∨(idxAll t=false∧x.1=.ret∧j4 x.2 10=.bool false)):=by
 intro t
 have hlen:=H.len
 rw [List.length_map] at hlen
 induction t with
 | nil=>
   intro i k g0 g1 g2 g3 g4 g5 g6 g7 g8 g9 g11 g12 r w hd hk
   obtain ⟨k,rfl⟩:∃ m,k=m+1:=⟨k - 1,by simp at hk; omega⟩
   have hi:Nat.blt i l.length=false:=by
    have:l.length≤i:=by simpa [List.drop_eq_nil_iff] using hd
    cases q:Nat.blt i l.length with
    | false=>rfl
    | true=>have:i<l.length:=by simpa [Nat.blt_eq] using q
            omega
   simp (config:={ maxSteps:=10000000 }) (disch:=first | assumption | omega | (simp only [l9,w9,F3,j6,A8,E8,D8,I5,G9,I9,I8,H7,o9,D5,G8,Nat.reduceAdd,D7,E9,Nat.reduceBEq,G5,F9,d9,j5,l6,z8,D9,F7,F5,F4,G6,C8,q9,A9,q8,l8,l7,E5,C9,G7,IntKind.bits,D6,r9,o7] <;> omega) | assumption) only [a1d,b6h,b5Z,b6k,b3j,hlen,a2t,hi,bn,un,U0,U6,I4,K3,J2,X4,Y3,M6,a2N,V.e1g,a0t,a0G]
   exact H6.done ⟨rfl,rfl,Or.inl ⟨rfl,rfl⟩⟩
 | cons q t ih=>
   intro i k g0 g1 g2 g3 g4 g5 g6 g7 g8 g9 g11 g12 r w hd hk
   obtain ⟨k,rfl⟩:∃ m,k=m+1:=⟨k - 1,by simp at hk; omega⟩
   have hil:i<l.length:=by
    have:=congrArg List.length hd; simp at this; omega
   have hi:Nat.blt i l.length=true:=H9 hil
   have hq:l[i]?=some q:=by
    have:=congrArg (fun t=>t[0]?) hd; simpa using this
   have hd':l.drop (i+1)=t:=by
    have:=congrArg List.tail hd; simpa using this
   have hinc:=a4G i (by omega)
   obtain ⟨p,b,_,e1,e2⟩:=H.read (Nat.le_refl c) (fun _ _=>rfl) (i:=i) (x:=.int .i64 q) (by rw [List.getElem?_map,hq]; rfl)
   cases hb:idxB q with
   | true=>
     simp (config:={ maxSteps:=10000000 }) (disch:=first | assumption | omega | (simp only [l9,w9,F3,j6,A8,E8,D8,I5,G9,I9,I8,H7,o9,D5,G8,Nat.reduceAdd,D7,E9,Nat.reduceBEq,G5,F9,d9,j5,l6,z8,D9,F7,F5,F4,G6,C8,q9,A9,q8,l8,l7,E5,C9,G7,IntKind.bits,D6,r9,o7] <;> omega) | assumption) only [a1d,b6h,b5Z,b6k,b3j,hlen,a2t,hi,e1,e2,h59,hb,hinc,bn,un,U0,U6,J6,I4,K3,J4,J3,J2,X4,Y3,M6,K6,V.e1g,a0t,a0G,R7,G9]
     have e:idxAll (q::t)=idxAll t:=by rw [a8d,hb,I8]
     rw [e]
     exact ih (i+1) k _ _ _ _ _ _ _ _ _ _ _ _ _ _ hd' (by simp at hk; omega)
   | false=>
     simp (config:={ maxSteps:=10000000 }) (disch:=first | assumption | omega | (simp only [l9,w9,F3,j6,A8,E8,D8,I5,G9,I9,I8,H7,o9,D5,G8,Nat.reduceAdd,D7,E9,Nat.reduceBEq,G5,F9,d9,j5,l6,z8,D9,F7,F5,F4,G6,C8,q9,A9,q8,l8,l7,E5,C9,G7,IntKind.bits,D6,r9,o7] <;> omega) | assumption) only [a1d,b6h,b5Z,b6k,b3j,hlen,a2t,hi,e1,e2,h59,hb,hinc,bn,un,U0,U6,J6,I4,K3,J4,J3,X4,Y3,M6,a5Y,V.e1g,a0t,a0G,R7,I5]
     refine H6.done ⟨rfl,rfl,Or.inr ⟨?_,rfl,rfl⟩⟩
     rw [a8d,hb,Bool.false_and]
theorem t60 (N:Nat) (call:o8) (h59:∀ n,call 59 [.int .i64 n]=M.pure (.ret (.bool (idxB n)))) (c:Nat) (h:Trie VObj) (v:Value) (l:List Int) (H:Q6 c h v (P6 l)) (hl:l.length<4294967296) (hN:l.length<N) (r w:List Nat) :
 H6 (go (b8T H8 N call v) ⟨c,h,r,w⟩) fun x s=>x=.ret (.bool (idxAll l))∧s.c=c∧s.h=h:=by
 simp (config:={ maxSteps:=10000000 }) (disch:=first | assumption | omega | (simp only [l9,w9,F3,j6,A8,E8,D8,I5,G9,I9,I8,H7,o9,D5,G8,Nat.reduceAdd,D7,E9,Nat.reduceBEq,G5,F9,d9,j5,l6,z8,D9,F7,F5,F4,G6,C8,q9,A9,q8,l8,l7,E5,C9,G7,IntKind.bits,D6,r9,o7] <;> omega) | assumption) only [b8T,V5,a1P,J6]
 refine H6.bindS (c5E N call h59 c h v l H hl l 0 N _ _ _ _ _ _ _ _ _ _ _ _ r w rfl hN) fun x s hq=>?_
 obtain ⟨x1,x2⟩:=x
 obtain ⟨c',h',r',w'⟩:=s
 obtain ⟨rfl,rfl,⟨e1,rfl⟩ | ⟨e1,rfl,e2⟩⟩:=hq
 · simp (config:={ maxSteps:=10000000 }) (disch:=first | assumption | omega | (simp only [l9,w9,F3,j6,A8,E8,D8,I5,G9,I9,I8,H7,o9,D5,G8,Nat.reduceAdd,D7,E9,Nat.reduceBEq,G5,F9,d9,j5,l6,z8,D9,F7,F5,F4,G6,C8,q9,A9,q8,l8,l7,E5,C9,G7,IntKind.bits,D6,r9,o7] <;> omega) | assumption) only [K3,b0d,a2W,a2N]
   exact H6.done ⟨by rw [e1],rfl,rfl⟩
 · simp only at e2
   simp (config:={ maxSteps:=10000000 }) (disch:=first | assumption | omega | (simp only [l9,w9,F3,j6,A8,E8,D8,I5,G9,I9,I8,H7,o9,D5,G8,Nat.reduceAdd,D7,E9,Nat.reduceBEq,G5,F9,d9,j5,l6,z8,D9,F7,F5,F4,G6,C8,q9,A9,q8,l8,l7,E5,C9,G7,IntKind.bits,D6,r9,o7] <;> omega) | assumption) only [K3,a5Y,e2]
   exact H6.done ⟨by rw [e1],rfl,rfl⟩
theorem c6b (N:Nat) (call:o8) (h86:∀ n,call 86 [.int .i64 n]=M.pure (.ret (.bool (idxB n)))) (c:Nat) (h:Trie VObj) (v:Value) (l:List Int) (H:Q6 c h v (P6 l)) (hl:l.length<4294967296) :
 ∀ (t:List Int) (i k:Nat) (g0 g1 g2 g3 g4 g5 g6 g8:Value) (r w:List Nat),l.drop i=t→t.length<k →
 H6 (go (a2S (b3E H8 N call (.int .i64 (.ofNat l.length)) v) k [g0,g1,g2,g3,g4,g5,g6,.bool false,g8,.int .i64 (.ofNat i)]) ⟨c,h,r,w⟩)
  fun x s=>s.c=c∧s.h=h∧((idxAll t=true∧x.1=.exit 1)∨(idxAll t=false∧x.1=.ret∧j4 x.2 7=.bool false)):=by
 intro t
 induction t with
 | nil=>
   intro i k g0 g1 g2 g3 g4 g5 g6 g8 r w hd hk
   obtain ⟨k,rfl⟩:∃ m,k=m+1:=⟨k - 1,by simp at hk; omega⟩
   have hi:Nat.blt i l.length=false:=by
    have:l.length≤i:=by simpa [List.drop_eq_nil_iff] using hd
    cases q:Nat.blt i l.length with
    | false=>rfl
    | true=>have:i<l.length:=by simpa [Nat.blt_eq] using q
            omega
   simp (config:={ maxSteps:=10000000 }) (disch:=first | assumption | omega | (simp only [l9,w9,F3,j6,A8,E8,D8,I5,G9,I9,I8,H7,o9,D5,G8,Nat.reduceAdd,D7,E9,Nat.reduceBEq,G5,F9,d9,j5,l6,z8,D9,F7,F5,F4,G6,C8,q9,A9,q8,l8,l7,E5,C9,G7,IntKind.bits,D6,r9,o7] <;> omega) | assumption) only [a1d,b6z,b6v,b6q,b3E,a2t,hi,bn,un,U0,U6,I4,K3,J2,X4,Y3,M6,a2N,V.e1g,a0t,a0G]
   exact H6.done ⟨rfl,rfl,Or.inl ⟨rfl,rfl⟩⟩
 | cons q t ih=>
   intro i k g0 g1 g2 g3 g4 g5 g6 g8 r w hd hk
   obtain ⟨k,rfl⟩:∃ m,k=m+1:=⟨k - 1,by simp at hk; omega⟩
   have hil:i<l.length:=by
    have:=congrArg List.length hd; simp at this; omega
   have hi:Nat.blt i l.length=true:=H9 hil
   have hq:l[i]?=some q:=by
    have:=congrArg (fun t=>t[0]?) hd; simpa using this
   have hd':l.drop (i+1)=t:=by
    have:=congrArg List.tail hd; simpa using this
   have hinc:=a4G i (by omega)
   obtain ⟨p,b,_,e1,e2⟩:=H.read (Nat.le_refl c) (fun _ _=>rfl) (i:=i) (x:=.int .i64 q) (by rw [List.getElem?_map,hq]; rfl)
   cases hb:idxB q with
   | true=>
     simp (config:={ maxSteps:=10000000 }) (disch:=first | assumption | omega | (simp only [l9,w9,F3,j6,A8,E8,D8,I5,G9,I9,I8,H7,o9,D5,G8,Nat.reduceAdd,D7,E9,Nat.reduceBEq,G5,F9,d9,j5,l6,z8,D9,F7,F5,F4,G6,C8,q9,A9,q8,l8,l7,E5,C9,G7,IntKind.bits,D6,r9,o7] <;> omega) | assumption) only [a1d,b6z,b6v,b6q,b3E,a2t,hi,e1,e2,h86,hb,hinc,bn,un,U0,U6,J6,I4,K3,J4,J3,J2,X4,Y3,M6,K6,V.e1g,a0t,a0G,R7,G9]
     have e:idxAll (q::t)=idxAll t:=by rw [a8d,hb,I8]
     rw [e]
     exact ih (i+1) k _ _ _ _ _ _ _ _ _ _ hd' (by simp at hk; omega)
   | false=>
     simp (config:={ maxSteps:=10000000 }) (disch:=first | assumption | omega | (simp only [l9,w9,F3,j6,A8,E8,D8,I5,G9,I9,I8,H7,o9,D5,G8,Nat.reduceAdd,D7,E9,Nat.reduceBEq,G5,F9,d9,j5,l6,z8,D9,F7,F5,F4,G6,C8,q9,A9,q8,l8,l7,E5,C9,G7,IntKind.bits,D6,r9,o7] <;> omega) | assumption) only [a1d,b6z,b6v,b6q,b3E,a2t,hi,e1,e2,h86,hb,hinc,bn,un,U0,U6,J6,I4,K3,J4,J3,X4,Y3,M6,a5Y,V.e1g,a0t,a0G,R7,I5]
     refine H6.done ⟨rfl,rfl,Or.inr ⟨?_,rfl,rfl⟩⟩
     rw [a8d,hb,Bool.false_and]
end Go.Proofs.YtmomonnlmbljoaaGreatDoor
end
