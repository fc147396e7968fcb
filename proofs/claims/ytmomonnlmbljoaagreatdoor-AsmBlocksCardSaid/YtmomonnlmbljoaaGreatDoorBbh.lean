import Derived.Test.YtmomonnlmbljoaaGreatDoorBax
import Derived.Test.YtmomonnlmbljoaaGreatDoorBbg
set_option maxRecDepth 1000000
set_option maxHeartbeats 4000000
set_option linter.unusedVariables false
set_option linter.unusedSimpArgs false
section
namespace Go.Proofs.YtmomonnlmbljoaaGreatDoor
open Go.V Go.RowKit Go.Shelf Go.Proofs
variable {mL:Int}
attribute [local congr] y7 x9 A8 A7 D5 z8 E5
noncomputable def pe5:Nat->Option (List Value->M Value):=(M5 (M5 (M5 (M5 (M5 (M5 (M5 (M5 (M5 pe4 207 XF) 32 b5o) 113 XBg) 187 (X1 .u64 b7Q)) 188 (X1 .u64 c7j)) 11 (λbs=>M.lift (S.alX bs))) 12 (S.XI S.c5z)) 14 (S.XB S.b5b)) 19 (S.XI λX=>some (.bool (S.a3m X))))
noncomputable def D8:a2t:=(U5 (U5 (U5 (U5 (U5 (U5 (U5 (U5 (U5 ps4 207 XF) 32 b5o) 113 XBg) 187 (X1 .u64 b7Q)) 188 (X1 .u64 c7j)) 11 (λbs=>M.lift (S.alX bs))) 12 (S.XI S.c5z)) 14 (S.XB S.b5b)) 19 (S.XI λX=>some (.bool (S.a3m X))))
theorem pL5:Shelf' Tryz.prog tab (I6 mL) NN pe5 D8:=((((((((pL4.add e1M).add e6d).add d9E).add e1R).add e2H).add S.f1F).add S.f1G).add S.e6M).add S.e3j
theorem U9 {α}(x y:α):bcase true x y=x:=rfl
theorem V7 {α}(x y:α):bcase false x y=y:=rfl
def AgU (U:Nat->Prop)(h h0:Trie VObj):Prop:=∀i,U i->h.get i=h0.get i
theorem AgU.upd {U h h0 j o}(H:AgU U h h0)(hj:¬U j):AgU U (V.upd h j o) h0:=λi hi=>by have hne:i≠j:=λe=>hj (by rw[<-e];exact hi);rw[d9 hne];exact H i hi
theorem d0C {U h0 v vs}(H:SlU U h0 v vs):∃z:List Nat->List Nat,∀c h,(∀i,U i->i<c)->AgU U h h0->∀r w,go (b7r (.slice v.a v.n v.e)) ⟨c,h,r,w⟩=some (vs,⟨c,h,z r,w⟩):=by obtain⟨a,n,e⟩:=v;obtain⟨h0',h1⟩:=H;simp only at h0' h1;subst h0';rcases h1 with rfl|⟨b,o,g,cs,cur,ro,rfl,rfl,h2,h3,h4⟩;refine⟨λr=>r,λc h _ _ r w=>?_⟩;cases a<;>rfl;cases vs with|nil=>exact⟨λr=>r,λc h _ _ r w=>rfl⟩|cons v vs=>refine⟨λr=>b::r,λc h hc hh r w=>?_⟩;show go (loadN ⟨b,o,some g⟩ ((vs.length+1)*1)) ⟨c,h,r,w⟩=_;rw[a1u,I7 (hc b h2),(hh b h2).trans h3,a0h,uu,show vs.length+1=(v::vs).length from rfl,h4];rfl
theorem c5w {U h0 v L}(H:LabAt U h0 v L):∃z:List Nat->List Nat,∀c h,(∀i,U i->i<c)->AgU U h h0->∀r w,go (b2o v) ⟨c,h,r,w⟩=some (L,⟨c,h,z r,w⟩):=by obtain⟨⟨sb,so,g,cs,cur,ro,m,lv,rfl,h1,h2,h3,h4⟩,h5⟩:=H;obtain⟨z,hz⟩:=d0C h4;refine⟨λr=>z (sb::r),λc h hc hh r w=>?_⟩;unfold b2o;rw[a4k,J8,a1u,I7 (hc sb h1),(hh sb h1).trans h2,a0h,h3];simp only[a1B,J3,J8,hz c h hc hh,c8B,E8,F9,I7 h5,P8];rfl
theorem c3S {U h0 v k fs}(H:KindAt U h0 v k fs):∃z:List Nat->List Nat,∀c h,(∀i,U i->i<c)->AgU U h h0->∀r w,go (b0g v k) ⟨c,h,r,w⟩=some (fs,⟨c,h,z r,w⟩):=by obtain⟨sb,so,g,cs,cur,ro,m,lv,es,kb,ko,kg,ds,cur2,ro2,n,nm,m2,rfl,h1,h2,h3,h4,h5,h6,h7,h8,h9,h10,h11⟩:=H.ex;refine⟨λr=>m2::kb::m::sb::r,λc h hc hh r w=>?_⟩;unfold b0g;rw[a4k,J8,a1u,I7 (hc sb h1),(hh sb h1).trans h2,a0h,h3];simp only[a1B,J3,J8,b0m _ _ _ _ _ _ (hc m h4) ((hh m h4).trans h5),h6,E8,a4k,a1u,I7 (hc kb h7),(hh kb h7).trans h8,a0h,h9,b0m _ _ _ _ _ _ (hc m2 h10) ((hh m2 h10).trans h11)]
theorem c8M {U h0 a n e o}(H:b3z U h0 a n e o):∃z:List Nat->List Nat,∀c h,(∀i,U i->i<c)->AgU U h h0->∀r w,go (b4N a n e) ⟨c,h,r,w⟩=some (o,⟨c,h,z r,w⟩):=by rcases H with⟨rfl,rfl⟩|⟨m,b,off,g,cs,cur,ro,k,x,s,y,rfl,rfl,rfl,h4,h5,h6,rfl⟩;exact⟨λr=>r,λc h _ _ r w=>rfl⟩;refine⟨λr=>b::r,λc h hc hh r w=>?_⟩;unfold b4N;simp only[R5,P8,E8,J8,a1u,I7 (hc b h4),(hh b h4).trans h5,a0h,h6,a1B,J3];rfl
noncomputable def X6 (fs:List (Value×Value))(T:List UInt8):Nat×Nat:=bcase (a0y T [36]) (match a1i (.string ⟨⟨T⟩⟩) fs with|some (some (.int .i64 (.ofNat n)))=>(n,0)|_=>(0,24)) (a4z T)
noncomputable def a0q (L:List (List UInt8))(T:List UInt8):Nat×Nat:=bcase (a0y T [36]) (match a6v T L.reverse 0 with|some n=>(n,0)|none=>(0,24)) (a4z T)
structure Env (U:Nat→Prop) (h0:Trie VObj) (sv:Value) (F:Nat→List (Value×Value)) (L:List (List UInt8)):Prop where
 kind:∀ k,k<9→KindAt U h0 sv k (F k)
 good:∀ k,k<9→∀ T:List UInt8,(∃ n,a1i (.string ⟨⟨T⟩⟩) (F k)=some (some (.int .i64 (.ofNat n))))∨a1i (.string ⟨⟨T⟩⟩) (F k)=some none
 lab:LabAt U h0 sv L
theorem d6e {U h0 sv F L}(E:Env U h0 sv F L){k}(hk:k<9){T}(hT:T.length<900000):b4M (F k) T=some (.tuple ⟨[.int .i64 (.ofNat (X6 (F k) T).1),.int .i64 (.ofNat (X6 (F k) T).2)]⟩):=by unfold b4M X6;cases a0y T [36]with|true=>rcases E.good k hk T with⟨n,e⟩|e;simp only[U9,e];simp only[U9,e]|false=>rw[V7,V7,F9,I7 hT];rfl
theorem d5D {L T}(hT:T.length<900000):b5t L T=some (.tuple ⟨[.int .i64 (.ofNat (a0q L T).1),.int .i64 (.ofNat (a0q L T).2)]⟩):=by unfold b5t a0q b7K;cases a0y T [36]with|true=>rw[U9,U9];cases a6v T L.reverse 0<;>rfl|false=>rw[V7,V7,F9,I7 hT];rfl
theorem e1N {U h0 sv F L}(E:Env U h0 sv F L)(n){k}(hk:k<9){T}(hT:T.length<900000):∃z:List Nat->List Nat,∀c h r w,(∀i,U i->i<c)->AgU U h h0->go (o8 D8 (n+1) 207 [sv,.int .i64 (.ofNat k),.string ⟨⟨T⟩⟩]) ⟨c,h,r,w⟩=some (.ret (.tuple ⟨[.int .i64 (.ofNat (X6 (F k) T).1),.int .i64 (.ofNat (X6 (F k) T).2)]⟩),⟨c,h,z r,w⟩):=by obtain⟨z,hz⟩:=c3S (E.kind k hk);refine⟨z,λc h r w hc hh=>?_⟩;rw[a4V D8 n 207 _ (g:=XF) zw,J8];show R8 (go (M.bind (b0g sv k) λfs=>M.lift (b4M fs T)) ⟨c,h,r,w⟩) _=_;rw[J8,hz c h hc hh,J3,d6e E hk hT];rfl
theorem e7f {U h0 sv F L}(E:Env U h0 sv F L)(n){T}(hT:T.length<900000):∃z:List Nat->List Nat,∀c h r w,(∀i,U i->i<c)->AgU U h h0->go (o8 D8 (n+1) 32 [sv,.string ⟨⟨T⟩⟩]) ⟨c,h,r,w⟩=some (.ret (.tuple ⟨[.int .i64 (.ofNat (a0q L T).1),.int .i64 (.ofNat (a0q L T).2)]⟩),⟨c,h,z r,w⟩):=by obtain⟨z,hz⟩:=c5w E.lab;refine⟨z,λc h r w hc hh=>?_⟩;rw[a4V D8 n 32 _ (g:=b5o) zw,J8];show R8 (go (M.bind (b2o sv) λL=>M.lift (b5t L T)) ⟨c,h,r,w⟩) _=_;rw[J8,hz c h hc hh,J3,d5D hT];rfl
theorem b1z {U h0 a m e o}(H:b3z U h0 a m e o)(n):∃z:List Nat->List Nat,∀c h r w k p T W,(∀i,U i->i<c)->AgU U h h0->go (o8 D8 (n+1) 113 [.agg ⟨[.int .i64 (.ofNat k),.int .i64 (.ofNat p),.string ⟨⟨T⟩⟩,.slice a m e]⟩,.string ⟨⟨W⟩⟩]) ⟨c,h,r,w⟩=some (.ret (.bool (a0A k o W)),⟨c,h,z r,w⟩):=by obtain⟨z,hz⟩:=c8M H;refine⟨z,λc h r w k p T W hc hh=>?_⟩;rw[a4V D8 n 113 _ (g:=XBg) zw,J8];show R8 (go (M.bind (b4N a m e) λo=>M.pure (Value.bool (a0A k o W))) ⟨c,h,r,w⟩) _=_;rw[J8,hz c h hc hh,J3];rfl
theorem a1S (n k p T a m e):o8 D8 (n+1) 184 [.agg ⟨[.int .i64 (.ofNat k),.int .i64 (.ofNat p),.string ⟨⟨T⟩⟩,.slice a m e]⟩]=M.pure (.ret (.bool (Y3 k T))):=V8 D8 n 184 _ (g:=XN c6L) zw rfl
theorem b2r (n T P):o8 D8 (n+1) 80 [.string ⟨⟨T⟩⟩,.string ⟨⟨P⟩⟩]=M.pure (.ret (.bool (a0y T P))):=V8 D8 n 80 _ (g:=b0y b2g) zw rfl
theorem e5x (n T)(h:T.length<900000):o8 D8 (n+1) 81 [.string ⟨⟨T⟩⟩,.int .i64 (.ofNat 4294967295)]=M.pure (.ret (.tuple ⟨[.int .i64 (.ofNat (a4z T).1),.int .i64 (.ofNat (a4z T).2)]⟩)):=V8 D8 n 81 _ (g:=b2n 4294967295 a6K) zw (b4b _ _ T h)
theorem c9x (n T)(h:T.length<900000):o8 D8 (n+1) 186 [.string ⟨⟨T⟩⟩,.int .i64 (.ofNat 32)]=M.pure (.ret (.tuple ⟨[.int .u64 (.ofNat (a1t T 4294967295).1),.int .i64 (.ofNat (a1t T 4294967295).2)]⟩)):=V8 D8 n 186 _ (g:=b0u) zw (d7a T h)
theorem b8k (n T)(h:T.length<900000):o8 D8 (n+1) 186 [.string ⟨⟨T⟩⟩,.int .i64 (.ofNat 64)]=M.pure (.ret (.tuple ⟨[.int .u64 (.ofNat (a1t T 18446744073709551615).1),.int .i64 (.ofNat (a1t T 18446744073709551615).2)]⟩)):=V8 D8 n 186 _ (g:=b0u) zw (d6C T h)
theorem d8A (n T)(h:T.length<900000):o8 D8 (n+1) 107 [.string ⟨⟨T⟩⟩]=M.pure (.ret (.bool (a0O T))):=V8 D8 n 107 _ (g:=onS λT=>.bool (a0O T)) zw (b6O _ T h)
theorem c2c (n T):o8 D8 (n+1) 182 [.string ⟨⟨T⟩⟩]=M.pure (.ret (a2K T)):=V8 D8 n 182 _ (g:=XT a2K) zw rfl
theorem e0z (n T):o8 D8 (n+1) 109 [.string ⟨⟨T⟩⟩]=M.pure (.ret (a9b a0Q T)):=V8 D8 n 109 _ (g:=b6S) zw rfl
theorem a1K (n z)(h:I1 (.ofNat z)=true):o8 D8 (n+1) 39 [.int .i64 (.ofNat z)]=M.pure (.ret (.int .i64 (.ofNat (E9 (.ofNat z))))):=a1j (q:=λz=>bcase (I1 z) (some (.int .i64 (.ofNat (E9 z)))) none) zw n (by rw[h];rfl)
theorem e6p (n z a)(h:Z8 a0K (.ofNat z)=some a):o8 D8 (n+1) 94 [.int .i64 (.ofNat z)]=M.pure (.ret (.int .i64 (.ofNat a))):=a1j (q:=a6Q) zw n (by unfold a6Q;rw[h])
theorem e1L (n m)(h:m<18446744073709551616):o8 D8 (n+1) 187 [.int .u64 (.ofNat m)]=M.pure (.ret (.int .i64 (.ofNat (pop m)))):=a1j (q:=b7Q) zw n (d6Y m h)
theorem d8B (n m i)(h:a6k m=some i):o8 D8 (n+1) 188 [.int .u64 (.ofNat m)]=M.pure (.ret (.int .i64 (.ofNat i))):=a1j (q:=c7j) zw n (by show(match a6k m with|some i=>some (Value.int .i64 (.ofNat i))|none=>none)=_;rw[h])
theorem V3 (n a b c):o8 D8 (n+1) 72 [a,b,c]=c6Z o9 NN (o8 D8 n) a b c:=b2s (q:=c6Z) (N:=NN) zw n a b c
theorem c8g (n a):o8 D8 (n+1) 138 [a]=b9A o9 NN (o8 D8 n) a:=Z5 (q:=b9A) (N:=NN) zw n a
theorem a1g (n a b c):o8 D8 (n+1) 181 [a,b,c]=b9T o9 NN (o8 D8 n) a b c:=b2s (q:=b9T) (N:=NN) zw n a b c
theorem e2r (n a b c):o8 D8 (n+1) 185 [a,b,c]=b9N o9 NN (o8 D8 n) a b c:=b2s (q:=b9N) (N:=NN) zw n a b c
theorem c2Z (n a b c):o8 D8 (n+1) 183 [a,b,c]=b9D o9 NN (o8 D8 n) a b c:=b2s (q:=b9D) (N:=NN) zw n a b c
theorem c8d (n a b c):o8 D8 (n+1) 143 [a,b,c]=b9V o9 NN (o8 D8 n) a b c:=b2s (q:=b9V) (N:=NN) zw n a b c
theorem e2e (n a):o8 D8 (n+1) 139 [a]=b9w o9 NN (o8 D8 n) a:=Z5 (q:=b9w) (N:=NN) zw n a
theorem d8s (n a):o8 D8 (n+1) 140 [a]=b9o o9 NN (o8 D8 n) a:=Z5 (q:=b9o) (N:=NN) zw n a
theorem b1F (n a):o8 D8 (n+1) 141 [a]=b9Z o9 NN (o8 D8 n) a:=Z5 (q:=b9Z) (N:=NN) zw n a
theorem e0K (n a):o8 D8 (n+1) 142 [a]=b9R o9 NN (o8 D8 n) a:=Z5 (q:=b9R) (N:=NN) zw n a
theorem d0i (n a b):o8 D8 (n+1) 144 [a,b]=b9H o9 NN (o8 D8 n) a b:=a2h (q:=b9H) (N:=NN) zw n a b
theorem e2M (n a b):o8 D8 (n+1) 145 [a,b]=b9h o9 NN (o8 D8 n) a b:=a2h (q:=b9h) (N:=NN) zw n a b
theorem e1s (n a b c):o8 D8 (n+1) 146 [a,b,c]=b9C o9 NN (o8 D8 n) a b c:=b2s (q:=b9C) (N:=NN) zw n a b c
theorem e1k (n a):o8 D8 (n+1) 147 [a]=c0c o9 NN (o8 D8 n) a:=Z5 (q:=c0c) (N:=NN) zw n a
theorem c9a (n a b):o8 D8 (n+1) 148 [a,b]=c0g o9 NN (o8 D8 n) a b:=a2h (q:=c0g) (N:=NN) zw n a b
theorem e2s (n a):o8 D8 (n+1) 149 [a]=b9u o9 NN (o8 D8 n) a:=Z5 (q:=b9u) (N:=NN) zw n a
theorem a1M (n a):o8 D8 (n+1) 110 [a]=b9O o9 NN (o8 D8 n) a:=Z5 (q:=b9O) (N:=NN) zw n a
end Go.Proofs.YtmomonnlmbljoaaGreatDoor
end
section
namespace Go.Proofs.YtmomonnlmbljoaaGreatDoor
open Go.V Go.RowKit Go.Shelf Go.Proofs
variable {mL:Int}
theorem goE {α}{m m':M α}(h:m=m')(s):go m s=go m' s:=by rw[h]
def a5Q {β:Type}(x:Option ((Xc×List Value)×V.S))(k:Xc->List Value->M β):Option (β×V.S):=match x with|none=>none|some y=>go (k y.1.1 y.1.2) y.2
def a1L {β:Type}(x:Option (CR×V.S))(kn kp:Value->M β):Option (β×V.S):=match x with|none=>none|some y=>go (a1s y.1 kn kp) y.2
theorem c7V {β}(a l s)(k:Xc->List Value->M β):a5Q (some ((a,l),s)) k=go (k a l) s:=rfl
theorem d0Q {β}(v s)(kn kp:Value->M β):a1L (some (.ret v,s)) kn kp=go (kn v) s:=rfl
theorem G8 {β x y}(k:Xc->List Value->M β)(h:x=y):a5Q x k=a5Q y k:=by rw[h]
theorem G7 {β x y}(kn kp:Value->M β)(h:x=y):a1L x kn kp=a1L y kn kp:=by rw[h]
theorem e7L {β}(m k s):go (o9.bv β m k) s=R8 (go m s) k:=rfl
theorem c5Q {β}(m kn kp s):go (o9.bc β m kn kp) s=a1L (go m s) kn kp:=by rw[U6,J8];cases go m s<;>rfl
theorem c6C {β}(m k s):go (o9.bj β m k) s=a5Q (go m s) k:=by rw[R6,J8];cases go m s<;>rfl
theorem e9R (b n x s):go (o9.lp b n x) s=go (U4 b n x) s:=rfl
theorem d2b {β}(a:M β)(b c d s):go (U8 .normal a b c d) s=go a s:=rfl
theorem e1E {β}(i)(a:M β)(b c d s):go (U8 (.exit i) a b c d) s=go (b i) s:=rfl
theorem e5S {β}(a:M β)(b c d s):go (U8 .ret a b c d) s=go c s:=rfl
theorem d9W {β}(b)(x y:M β)(s):go (a5R (.bool b) x y) s=bcase b (go x s) (go y s):=zi
theorem e6G {α}(a)(k:Addr->M α)(s):go (a0G (.pointer (some a)) k) s=go (k a) s:=rfl
theorem f0e (call f vs s):go (a1P call f vs) s=a1L (go (call f vs) s) M.pure λ_=>M.fail:=by rw[b0W,J8];cases go (call f vs) s<;>rfl
theorem Y5 (body n x s):go (U4 body (n+1) x) s=a5Q (go (body x) s) λr l=>U8 r (U4 body n l) (λid=>M.pure (.exit id,l)) (M.pure (.ret,l)) (λv=>M.pure (.pan v,l)):=by rw[Y8];cases go (body x) s<;>rfl
theorem e8K {β}(x kn kp k):a5Q (a1L x kn kp) k=a1L x (λv=>o9.bj β (kn v) k) (λv=>o9.bj β (kp v) k):=by cases x with|none=>rfl|some y=>obtain⟨y,s⟩:=y;cases y<;>exact(c6C _ _ _).symm
theorem e8Y {β}(x f k):a5Q (a5Q x f) k=a5Q x λa l=>o9.bj β (f a l) k:=by cases x with|none=>rfl|some y=>exact(c6C _ _ _).symm
theorem e9i {α β}(x:Option (α×V.S))(f k):a5Q (R8 x f) k=R8 x λa=>o9.bj β (f a) k:=by cases x with|none=>rfl|some y=>exact(c6C _ _ _).symm
theorem e7S {β}(x kn kp k k'):a1L (a1L x kn kp) k k'=a1L x (λv=>o9.bc β (kn v) k k') (λv=>o9.bc β (kp v) k k'):=by cases x with|none=>rfl|some y=>obtain⟨y,s⟩:=y;cases y<;>exact(c5Q _ _ _ _).symm
theorem e7Z {β}(x f k k'):a1L (a5Q x f) k k'=a5Q x λa l=>o9.bc β (f a l) k k':=by cases x with|none=>rfl|some y=>exact(c5Q _ _ _ _).symm
theorem e8F {β γ}(x kn kp)(f:β->M γ):R8 (a1L x kn kp) f=a1L x (λv=>M.bind (kn v) f) (λv=>M.bind (kp v) f):=by cases x with|none=>rfl|some y=>obtain⟨y,s⟩:=y;cases y<;>rfl
theorem e8f {β γ}(x g)(f:β->M γ):R8 (a5Q x g) f=a5Q x λa l=>M.bind (g a l) f:=by cases x with|none=>rfl|some y=>rfl
theorem l9.bindC {β:Type}{x:Option (CR×V.S)}{kn kp:Value->M β}{P:CR->V.S->Prop}{Q:β->V.S->Prop}(h:l9 x P)(k:∀y s',P y s'->l9 (a1L (some (y,s')) kn kp) Q):l9 (Proofs.YtmomonnlmbljoaaGreatDoor.a1L x kn kp) Q:=by obtain⟨a,s',e,p⟩:=h;rw[e];exact k a s' p
theorem l9.bindJ {β x}{f:Xc->List Value->M β}{P Q}(h:l9 x P)(k:∀y l s',P (y,l) s'->l9 (go (f y l) s') Q):l9 (Proofs.YtmomonnlmbljoaaGreatDoor.a5Q x f) Q:=by obtain⟨⟨y,l⟩,s',e,p⟩:=h;rw[e];exact k y l s' p
def bvK {β:Type}{a:M β}{m:M Value}{k:Value->M β}(_:a=o9.bv β m k):Value->M β:=k
theorem bvE {β a c m k v}(h:a=o9.bv β m k)(e:c=bvK h v):c=k v:=e
theorem d1D {K}{Q:(Value->M CR)->Prop}{G:Prop}(main:Q K->G)(key:Q K):G:=main key
abbrev gP:=And.intro @J8<|And.intro @e7L<|And.intro @c5Q<|And.intro @c6C<|And.intro @e9R<|And.intro @d2b<|And.intro @e1E<|And.intro @e5S<|And.intro @d9W<|And.intro @e6G<|And.intro @f0e<|And.intro @b7M @a2p
abbrev G69:=(λp0 p1 p2 p3 p4 s=>goE (e9y p0 p1 p2 p3 p4) s)
abbrev G71:=And.intro (λp0 p1 p2 p3 p4 s=>goE (e7P p0 p1 p2 p3 p4) s)<| @J4
abbrev d1B:=(λp0 p1 p2 p3 p4 p5 p6 s=>goE (d0r p0 p1 p2 p3 p4 p5 p6) s)
abbrev G79:=(λp0 p1 p2 p3 s=>goE (d8S p0 p1 p2 p3) s)
abbrev b2T:=(λp0 p1 p2 p3 p4 s=>goE (e4v p0 p1 p2 p3 p4) s)
abbrev e9q:=(λp0 p1 p2 p3 p4 s=>goE (e3p p0 p1 p2 p3 p4) s)
abbrev a9a:=(λp0 p1 p2 p3 p4 s=>goE (c0G p0 p1 p2 p3 p4) s)
abbrev b1e:=And.intro (λp0 p1 p2 p3 p4 s=>goE (e4S p0 p1 p2 p3 p4) s)<| @J4
abbrev G29:=And.intro (λp0 p1 p2 p3 p4 s=>goE (e9D p0 p1 p2 p3 p4) s)<| @J4
abbrev d9d:=(λp0 p1 p2 p3 p4 p5 s=>goE (c9s p0 p1 p2 p3 p4 p5) s)
abbrev G64:=(λp0 p1 p2 p3 s=>goE (e8O p0 p1 p2 p3) s)
abbrev e2R:=(λp0 p1 p2 p3 p4 s=>goE (c9F p0 p1 p2 p3 p4) s)
abbrev G74:=And.intro (λp0 p1 p2 p3 p4 p5 p6 s=>goE (e8V p0 p1 p2 p3 p4 p5 p6) s)<| @J4
abbrev G76:=And.intro (λp0 p1 p2 p3 p4 s=>goE (f0i p0 p1 p2 p3 p4) s)<| @J4
abbrev b1c:=(λp0 p1 p2 p3 p4 p5 s=>goE (c4B p0 p1 p2 p3 p4 p5) s)
abbrev a3g:=And.intro (λp0 p1 p2 p3 p4 p5 s=>goE (e3M p0 p1 p2 p3 p4 p5) s)<| @J4
abbrev e9u:=(λp0 p1 p2 p3 p4 s=>goE (e4M p0 p1 p2 p3 p4) s)
abbrev e9G:=(λp0 p1 p2 p3 s=>goE (e3Q p0 p1 p2 p3) s)
abbrev e8H:=(λp0 p1 p2 p3 p4 s=>goE (e3s p0 p1 p2 p3 p4) s)
abbrev b1J:=(λp0 p1 p2 p3 p4 s=>goE (c5f p0 p1 p2 p3 p4) s)
abbrev c2q:=And.intro (λp0 p1 p2 p3 s=>goE (e5e p0 p1 p2 p3) s)<| @J4
abbrev b7m:=And.intro (λp0 p1 p2 p3 s=>goE (e4K p0 p1 p2 p3) s)<| @J4
abbrev b2i:=And.intro (λp0 p1 p2 p3 p4 p5 s=>goE (e3G p0 p1 p2 p3 p4 p5) s)<| @J4
abbrev G22:=And.intro (λp0 p1 p2 p3 p4 s=>goE (e8W p0 p1 p2 p3 p4) s)<| @J4
abbrev d9M:=(λp0 p1 p2 p3 p4 p5 s=>goE (c8Q p0 p1 p2 p3 p4 p5) s)
abbrev G65:=(λp0 p1 p2 p3 p4 p5 p6 s=>goE (e9S p0 p1 p2 p3 p4 p5 p6) s)
abbrev b4R:=(λp0 p1 p2 p3 p4 p5 p6 s=>goE (c3W p0 p1 p2 p3 p4 p5 p6) s)
abbrev c6o:=(λp0 p1 p2 p3 p4 s=>goE (e3e p0 p1 p2 p3 p4) s)
abbrev c6d:=(λp0 p1 p2 p3 p4 s=>goE (c4K p0 p1 p2 p3 p4) s)
abbrev e8A:=(λp0 p1 p2 p3 p4 s=>goE (e5D p0 p1 p2 p3 p4) s)
abbrev c7N:=(λp0 p1 p2 p3 p4 s=>goE (c4H p0 p1 p2 p3 p4) s)
abbrev e2n:=And.intro (λp0 p1 p2 p3 s=>goE (e5X p0 p1 p2 p3) s)<| @J4
abbrev e0V:=And.intro (λp0 p1 p2 p3 s=>goE (e4F p0 p1 p2 p3) s)<| @J4
abbrev d4D:=(λp0 p1 p2 p3 p4 s=>goE (c4d p0 p1 p2 p3 p4) s)
abbrev c1r:=And.intro (λp0 p1 p2 p3 s=>goE (e6H p0 p1 p2 p3) s)<| @J4
abbrev G72:=(λp0 p1 p2 p3 p4 p5 s=>goE (e9w p0 p1 p2 p3 p4 p5) s)
abbrev G73:=And.intro (λp0 p1 p2 p3 p4 p5 s=>goE (e9r p0 p1 p2 p3 p4 p5) s)<| @J4
abbrev G75:=And.intro (λp0 p1 p2 p3 p4 p5 p6 p7 s=>goE (d2L p0 p1 p2 p3 p4 p5 p6 p7) s)<| @J4
abbrev c7c:=(λp0 p1 p2 p3 p4 s=>goE (c8b p0 p1 p2 p3 p4) s)
abbrev b7c:=(λp0 p1 p2 p3 s=>goE (e6N p0 p1 p2 p3) s)
abbrev b7W:=(λp0 p1 p2 p3 p4 p5 s=>goE (e4V p0 p1 p2 p3 p4 p5) s)
abbrev d1H:=(λp0 p1 p2 p3 p4 s=>goE (e6h p0 p1 p2 p3 p4) s)
abbrev b3h:=And.intro (λp0 p1 p2 p3 p4 s=>goE (e4d p0 p1 p2 p3 p4) s)<| @J4
abbrev c7F:=And.intro (λp0 p1 p2 p3 p4 p5 s=>goE (e6P p0 p1 p2 p3 p4 p5) s)<| @J4
abbrev G20:=(λp0 p1 p2 p3 p4 s=>goE (f0m p0 p1 p2 p3 p4) s)
abbrev G21:=(λp0 p1 p2 s=>goE (e8B p0 p1 p2) s)
abbrev e2V:=(λp0 p1 p2 p3 p4 s=>goE (c9v p0 p1 p2 p3 p4) s)
abbrev G27:=And.intro (λp0 p1 p2 p3 s=>goE (e8u p0 p1 p2 p3) s)<| @J4
abbrev G30:=And.intro (λp0 p1 p2 p3 s=>goE (e9v p0 p1 p2 p3) s)<| @J4
abbrev d3c:=(λp0 p1 p2 p3 p4 s=>goE (c8J p0 p1 p2 p3 p4) s)
abbrev G62:=And.intro (λp0 p1 p2 p3 p4 s=>goE (e8r p0 p1 p2 p3 p4) s)<| @J4
abbrev c6g:=And.intro (λp0 p1 p2 p3 p4 p5 s=>goE (d0S p0 p1 p2 p3 p4 p5) s)<|(λp0 p1 p2 p3 p4 p5 s=>goE (d0j p0 p1 p2 p3 p4 p5) s)
abbrev G77:=And.intro (λp0 p1 p2 p3 s=>goE (e9c p0 p1 p2 p3) s)<| @J4
abbrev a3F:=(λp0 p1 p2 p3 s=>goE (e7h p0 p1 p2 p3) s)
abbrev c6E:=(λp0 p1 p2 p3 s=>goE (e5M p0 p1 p2 p3) s)
abbrev c6T:=And.intro (λp0 p1 p2 p3 p4 p5 s=>goE (e5G p0 p1 p2 p3 p4 p5) s)<| @J4
abbrev gY:=And.intro @J3<|And.intro @b2e<|And.intro @Z9<|And.intro @b7k<|And.intro @a9U<|And.intro @a5E<|And.intro @a0g<|And.intro @a1u<|And.intro @a4C<|And.intro @a4U<|And.intro @K7<|And.intro @H7<|And.intro @A9<|And.intro @y9<|And.intro @K4<|And.intro @K5<|And.intro @K6<|And.intro @a4I<|And.intro @V6<|And.intro @X5<|And.intro @a0P<|And.intro @P5<|And.intro @a2g<|And.intro @c7J<|And.intro @c5W<|And.intro @c5X<|And.intro @b4Q<|And.intro @b4U<|And.intro @b5A<|And.intro @b0e<|And.intro @P6<|And.intro @O3<|And.intro @b2W<|And.intro @a8l<|And.intro @a2o<|And.intro @a9Z<|And.intro @E8<|And.intro @P8<|And.intro @b3O<|And.intro @a7Q<|And.intro @b1r<|And.intro @c1K<|And.intro @a8P<|And.intro @Q5<|And.intro @a4y<|And.intro @F7<|And.intro @a5t<|And.intro @K3<|And.intro @a1H<|And.intro @I8<|And.intro @Q4<|And.intro @b4L<|And.intro @b5d<|And.intro @b1K<|And.intro @a7n<|And.intro @Q3<|And.intro @O9<|And.intro @a7A<|And.intro @M6<|And.intro @a2e<|And.intro @a5M<|And.intro @b4X<|And.intro @S9<|And.intro @c2P<|And.intro @c1w<|And.intro @O8<|And.intro @P7<|And.intro @P9<|And.intro @b1W<|And.intro @a0S<|And.intro @a1C<|And.intro @a3Q<|And.intro @a1I<|And.intro @a5m<|And.intro @a7O<|And.intro @a7r<|And.intro @a3N<|And.intro @a6E<|And.intro @a4B<|And.intro @a3Y<|And.intro @a5l<|And.intro @a2v<|And.intro @a4i<|And.intro @a9n<|And.intro @a9L<|And.intro @b2A<|And.intro @b4O<|And.intro @a7W<|And.intro @a6Z<|And.intro @U1<|And.intro @a7l<|And.intro @a9V<|And.intro @a8G<|And.intro @a5d<|And.intro @a7t<|And.intro @a5F<|And.intro @a8t<|And.intro @uf<|And.intro @a4p<|And.intro @a3f<|And.intro @a7D<|And.intro @a6l<|And.intro @b0D<|And.intro @a1T<|And.intro @a9Q<|And.intro @a0h<|And.intro @a1B<|And.intro @a4W<|And.intro @I7<|And.intro @o7<|And.intro @d9<|And.intro @a3B<|And.intro @a4x<|And.intro @a0i<|And.intro @a7y<|And.intro @a1z<|And.intro @V9<|And.intro @a7m<|And.intro @vV<|And.intro @vB<|And.intro @a4n<|And.intro @b1T<|And.intro @a2f<|And.intro @a2x<|And.intro @b2u<|And.intro @c7V<|And.intro @d0Q<|And.intro @b5D<|And.intro @e8K<|And.intro @e8Y<|And.intro @e9i<|And.intro @e7S<|And.intro @e7Z<|And.intro @e8F<| @e8f
end Go.Proofs.YtmomonnlmbljoaaGreatDoor
end
section
namespace Go.Proofs.YtmomonnlmbljoaaGreatDoor
open Go.V Go.RowKit Go.Shelf Go.Proofs
variable {mL:Int}
attribute [local congr] y7 x9 A8 A7 D5 z8 E5 G8 G7
theorem At.to {U h0 sv fo ar ap lv q c c' h h' R P}(H:At U h0 sv fo ar ap lv q c h R P)(hc:c<=c')(hs:∀i,i<c->h'.get i=h.get i):At U h0 sv fo ar ap lv q c' h' R P:=⟨λi hi=>⟨wD (H.u i hi).1 hc,(H.u i hi).2.1,(H.u i hi).2.2.1,(hs i (H.u i hi).1).trans (H.u i hi).2.2.2⟩,wD H.r hc,wD H.p hc,H.ne,(hs ar H.r).trans H.hr,(hs ap H.p).trans H.hp⟩
theorem At.setP {U h0 sv fo ar ap lv q c c' h h' R P P'}(H:At U h0 sv fo ar ap lv q c h R P)(hc:c<=c')(hs:∀i,i<c->i≠ap->h'.get i=h.get i)(hp:h'.get ap=some (.cells (F8 sv fo P') 0 false)):At U h0 sv fo ar ap lv q c' h' R P':=⟨λi hi=>⟨wD (H.u i hi).1 hc,(H.u i hi).2.1,(H.u i hi).2.2.1,(hs i (H.u i hi).1 (H.u i hi).2.2.1).trans (H.u i hi).2.2.2⟩,wD H.r hc,wD H.p hc,H.ne,(hs ar H.r H.ne).trans H.hr,hp⟩
def a8g (F:Nat->List (Value×Value))(L:List (List UInt8))(kv:Value)(fd:List UInt8->Nat×Nat):Prop:=(kv=.int .i64 (.negSucc 0)/\fd=a0q L)\/∃k,k<9/\kv=.int .i64 (.ofNat k)/\fd=X6 (F k)
theorem dm1 (k):decide (Int.ofNat k=Int.negSucc 0)=false:=by rw[vX];intro h;cases h
section
variable {U:Nat->Prop}{h0:Trie VObj}{sv fo:Value}{F:Nat->List (Value×Value)}{L:List (List UInt8)}{ar ap:Nat}{lv:Sl}{q c:Nat}{h:Trie VObj}{R:RV}{P:PV}
theorem c1A (E:Env U h0 sv F L)(m){kv fd}(hk:a8g F L kv fd)(H:At U h0 sv fo ar ap lv q c h R P)(n nl)(hT:n.t.length<900000)(r w):l9 (go (o8 D8 (m+3) 185 [.pointer (some ⟨ar,0,some 0⟩),ndV n nl,kv]) ⟨c,h,r,w⟩) λx s=>c<=s.c/\(∀i,i<c->i≠ap->s.h.get i=h.get i)/\(((fd n.t).2=0/\x=.ret (.tuple ⟨[.int .i64 (.ofNat (fd n.t).1),.bool true]⟩)/\At U h0 sv fo ar ap lv q s.c s.h R P)\/((fd n.t).2≠0/\x=.ret (.tuple ⟨[.int .i64 (.ofNat 0),.bool false]⟩)/\At U h0 sv fo ar ap lv q s.c s.h R {P with p:=n.p,e:=(fd n.t).2})):=by
 have hr:=H.hr;have hp:=H.hp;have a1:=H.r;have a2:=H.p;have a3:=H.ne;have a4:ap≠ar:=λe=>H.ne e.symm;have a5:ar≠c:=zy;have a6:ap≠c:=zy;have hU:∀i,U i->i<c+1:=λi hi=>qN (H.u i hi).1;have hA:∀o,AgU U (V.upd h c o) h0:=λo=>AgU.upd (λi hi=>(H.u i hi).2.2.2) (λhc=>uZ _ (H.u c hc).1);rw[e2r];rcases hk with⟨rfl,rfl⟩|⟨k,hk9,rfl,rfl⟩;obtain⟨z,hz⟩:=e7f E (m+1) hT;have hz':=λo r w=>hz (c+1) (V.upd h c o) r w hU (hA o);cases q1:decide ((a0q L n.t).2=0)with|true=>simp(disch:=try exact dz)only[c7F,ndV,hr,I5,hp,F8,hz',Y1,q1,↓gP,gY,gT];refine l9.done ⟨vv c,λi hi _=>?_,Or.inl ⟨vS q1,rfl,H.to (vv c) λi hi=>?_⟩⟩;simp(disch:=omega)only[d9];simp(disch:=omega)only[d9]|false=>simp(disch:=try exact dz)only[c7F,G72,V3,ndV,hr,I5,hp,F8,hz',Y1,q1,↓gP,gY,gT];refine l9.done ⟨vv c,λi hi hp=>?_,Or.inr ⟨uQ q1,rfl,H.setP (vv c) (λi hi hp=>?_) ?_⟩⟩;simp(disch:=first|assumption|omega)only[d9];simp(disch:=first|assumption|omega)only[d9];simp(disch:=first|assumption|omega)only[o7,F8]
 obtain⟨z,hz⟩:=e1N E (m+1) hk9 hT;have hz':=λo r w=>hz (c+1) (V.upd h c o) r w hU (hA o);cases q1:decide ((X6 (F k) n.t).2=0)with|true=>simp(disch:=try exact dz)only[c7F,ndV,dm1,hr,I5,hp,F8,hz',Y1,q1,↓gP,gY,gT];refine l9.done ⟨vv c,λi hi _=>?_,Or.inl ⟨vS q1,rfl,H.to (vv c) λi hi=>?_⟩⟩;simp(disch:=omega)only[d9];simp(disch:=omega)only[d9]|false=>simp(disch:=try exact dz)only[c7F,G72,V3,ndV,dm1,hr,I5,hp,F8,hz',Y1,q1,↓gP,gY,gT];refine l9.done ⟨vv c,λi hi hp=>?_,Or.inr ⟨uQ q1,rfl,H.setP (vv c) (λi hi hp=>?_) ?_⟩⟩;simp(disch:=first|assumption|omega)only[d9];simp(disch:=first|assumption|omega)only[d9];simp(disch:=first|assumption|omega)only[o7,F8]
end
end Go.Proofs.YtmomonnlmbljoaaGreatDoor
end
section
namespace Go.Proofs.YtmomonnlmbljoaaGreatDoor
open Go.V Go.RowKit Go.Shelf Go.Proofs
variable {mL:Int}
attribute [local congr] y7 x9 A8 A7 D5 z8 E5 G8 G7
theorem At.setR {U h0 sv fo ar ap lv q c c' h h' R R' P}(H:At U h0 sv fo ar ap lv q c h R P)(hc:c<=c')(hs:∀i,i<c->i≠ar->h'.get i=h.get i)(hr:h'.get ar=some (.cells (I5 ap lv q R') 0 false)):At U h0 sv fo ar ap lv q c' h' R' P:=⟨λi hi=>⟨wD (H.u i hi).1 hc,(H.u i hi).2.1,(H.u i hi).2.2.1,(hs i (H.u i hi).1 (H.u i hi).2.1).trans (H.u i hi).2.2.2⟩,wD H.r hc,wD H.p hc,H.ne,hr,(hs ap H.p (λe=>H.ne e.symm)).trans H.hp⟩
inductive Ix where
 | ok (k:Nat)
 | er (p e:Nat)
noncomputable def N9 (fd:List UInt8->Nat×Nat)(l:List Nd)(q i:Nat):Ix:=match l[i]? with|none=>.er q 4|some n=>bcase (Y3 n.k n.t) (bcase (decide ((fd n.t).2=0)) (.ok (fd n.t).1) (.er n.p (fd n.t).2)) (.er n.p 4)
section
variable {U:Nat->Prop}{h0:Trie VObj}{sv fo:Value}{F:Nat->List (Value×Value)}{L:List (List UInt8)}{ar ap:Nat}{lv:Sl}{q c:Nat}{h:Trie VObj}{R:RV}{P:PV}{l:List Nd}
theorem a1a (m)(H:At U h0 sv fo ar ap lv q c h R P)(hl:NdL U h0 lv l){n}(hi:l[R.i]?=some n):∃(z y:List Nat->List Nat) (o1 o2:VObj) (nl:Sl),NdL U h0 nl n.l/\n.t.length<900000/\∀r w,go (o8 D8 (m+1) 138 [.pointer (some ⟨ar,0,some 0⟩)]) ⟨c,h,r,w⟩=some (.ret (.tuple ⟨[.agg ⟨[.int .i64 (.ofNat n.k),.int .i64 (.ofNat n.p),.string ⟨⟨n.t⟩⟩,.slice (Sl.a nl) nl.n nl.e]⟩,.bool true]⟩),⟨c+1,V.upd (V.upd h c o1) c o2,z r,y w⟩):=by have hr:=H.hr;have a1:=H.r;have a5:ar≠c:=zy;obtain⟨b,p,g,cs,cur,ro,nl,hb,hg,hn,hT,e1,e2,e3,e4,e5,e6⟩:=hl.get hi;obtain⟨u1,u2,u3,u4⟩:=H.u b hb;have hg':=u4.trans hg;have a6:b≠c:=zy;have hlen:=hl.len.1;have hlt:R.i<l.length:=(wM.1 hi).1;rw[hlen]at e1;have d1:decide (l.length<=R.i)=false:=zS;have e0:=S9 lv.a l.length lv.e;apply Exists.intro;apply Exists.intro;apply Exists.intro;apply Exists.intro;refine⟨nl,hn,hT,λr w=>?_⟩;rw[c8g];simp(disch:=try exact dz)only[e2n,hr,I5,hlen,e0,dle,d1,e1,e2,hg',↓gP,gY];rfl
theorem a0Z (m)(H:At U h0 sv fo ar ap lv q c h R P)(hl:NdL U h0 lv l)(hi:l[R.i]?=none):∃(z y:List Nat->List Nat) (o1 o2:VObj),∀r w,go (o8 D8 (m+1) 138 [.pointer (some ⟨ar,0,some 0⟩)]) ⟨c,h,r,w⟩=some (.ret (.tuple ⟨[.agg ⟨[.int .i64 (.ofNat 0),.int .i64 (.ofNat 0),.string ⟨⟨[]⟩⟩,.slice none 0 0]⟩,.bool false]⟩),⟨c+1,V.upd (V.upd h c o1) c o2,z r,y w⟩):=by
 have hr:=H.hr;have a1:=H.r;have a5:ar≠c:=zy;have hlen:=hl.len.1;have hlt:l.length<=R.i:=za;have d1:decide (l.length<=R.i)=true:=by rw[vZ];exact hlt
 have e0:=S9 lv.a l.length lv.e;apply Exists.intro;apply Exists.intro;apply Exists.intro;apply Exists.intro;intro r w;rw[c8g];simp(disch:=try exact dz)only[e2n,hr,I5,hlen,e0,dle,d1,↓gP,gY];rfl
theorem e0f (E:Env U h0 sv F L)(m){kv fd}(hk:a8g F L kv fd)(H:At U h0 sv fo ar ap lv q c h R P)(hl:NdL U h0 lv l)(r w):l9 (go (o8 D8 (m+5) 183 [.pointer (some ⟨ar,0,some 0⟩),kv,.pointer (some ⟨ar,5,some 0⟩)]) ⟨c,h,r,w⟩) λx s=>(∃k,N9 fd l q R.i=.ok k/\x=.ret (.bool true)/\Fin U h0 sv fo ar ap lv q c h P (.ok {R with i:=R.i+1,A:=k}) s)\/(∃p e,N9 fd l q R.i=.er p e/\x=.ret (.bool false)/\Fin U h0 sv fo ar ap lv q c h P (.er p e) s):=by
 have hr:=H.hr;have hp:=H.hp;have a1:=H.r;have a2:=H.p;have a3:=H.ne;have a4:ap≠ar:=λe=>H.ne e.symm;have a5:ar≠c:=zy;have a6:ap≠c:=zy;have a7:ar≠c+1:=zy;have a8:ap≠c+1:=zy;have hlen:=hl.len.1;have e0:=S9 lv.a l.length lv.e;rw[c2Z];cases hi:l[R.i]? with
  |none=>
   obtain⟨z,y,o1,o2,hm⟩:=a0Z (m+3) H hl hi;have hlt:l.length<=R.i:=za;have d1:decide (R.i<l.length)=false:=zS;have eS:N9 fd l q R.i=.er q 4:=by unfold N9;rw[hi]
   simp(disch:=try exact dz)only[b2i,hm,hr,hp,I5,F8,a1g,a3g,V3,G72,hlen,e0,dlt,d1,↓gP,gY,gT];refine l9.done ?_;refine Or.inr ⟨_,_,eS,rfl,zV,λi hi h1 h2=>?_,R,H.setP zV (λi hi hp=>?_) ?_,λR1 e=>zk⟩;simp(disch:=first|assumption|omega)only[d9];simp(disch:=first|assumption|omega)only[d9];simp(disch:=first|assumption|omega)only[o7,F8,Rs.P]|some n=>obtain⟨z,y,o1,o2,nl,hn,hT,hm⟩:=a1a (m+3) H hl hi;have hlt:R.i<l.length:=(wM.1 hi).1;have d1:decide (R.i<l.length)=true:=zR;have hinc:=J6 R.i xK;cases q1:Y3 n.k n.t with|false=>have eS:N9 fd l q R.i=.er n.p 4:=xu;obtain⟨b,p,g,cs,cur,ro,nl',hb,hg,_,_,e1,e2,e3,e4,e5,e6⟩:=hl.get hi;obtain⟨u1,u2,u3,u4⟩:=H.u b hb;have hg':=u4.trans hg;rw[hlen]at e1;have b1:b≠c:=zy;have b2:b≠c+1:=zy;simp(disch:=try exact dz)only[b2i,hm,a1S,q1,hr,hp,I5,F8,a1g,a3g,V3,G72,hlen,e0,dlt,d1,e1,e4,hg',↓gP,gY,gT];refine l9.done ?_;refine Or.inr ⟨_,_,eS,rfl,zV,λi hi h1 h2=>?_,R,H.setP zV (λi hi hp=>?_) ?_,λR1 e=>zk⟩;simp(disch:=first|assumption|omega)only[d9];simp(disch:=first|assumption|omega)only[d9];simp(disch:=first|assumption|omega)only[o7,F8,Rs.P]|true=>simp(disch:=try exact dz)only[b2i,hm,a1S,q1,↓gP,gY,gT];refine l9.bindC (c1A E (m+1) hk (H.to ?_ λi hi=>?_) n nl hT _ _) λx s hq=>?_;omega;simp(disch:=first|assumption|omega)only[d9];obtain⟨c',h',r',w'⟩:=s;obtain⟨hc,hs,⟨q2,rfl,H'⟩|⟨q2,rfl,H'⟩⟩:=hq;have eS:N9 fd l q R.i=.ok (fd n.t).1:=yR;have hr':=H'.hr;simp only at hc hs hr';have c1:=H'.r;simp only at c1;simp(disch:=try exact dz)only[hr',I5,hinc,↓gP,gY];refine l9.done ?_;refine Or.inl ⟨_,eS,rfl,zV,λi hi h1 h2=>?_,_,H'.setR (wQ _) (λi hi hp=>?_) ?_,λR1 e=>zb⟩;have:=hs i zy h2;simp(disch:=first|assumption|omega)only[d9]at this⊢;exact this;simp(disch:=first|assumption|omega)only[d9];simp(disch:=first|assumption|omega)only[o7,I5];have eS:N9 fd l q R.i=.er n.p (fd n.t).2:=yS;have hr':=H'.hr;simp only at hc hs hr';have c1:=H'.r;simp only at c1;simp(disch:=try exact dz)only[hr',I5,hinc,↓gP,gY];refine l9.done ?_;refine Or.inr ⟨_,_,eS,rfl,zV,λi hi h1 h2=>?_,{R with i:=R.i+1,A:=0},H'.setR (wQ _) (λi hi hp=>?_) ?_,λR1 e=>zk⟩;have:=hs i zy h2;simp(disch:=first|assumption|omega)only[d9]at this⊢;exact this;simp(disch:=first|assumption|omega)only[d9];simp(disch:=first|assumption|omega)only[o7,I5]
theorem d9O (E:Env U h0 sv F L)(m){kv fd}(hk:a8g F L kv fd)(H:At U h0 sv fo ar ap lv q c h R P)(hl:NdL U h0 lv l)(r w):l9 (go (o8 D8 (m+5) 183 [.pointer (some ⟨ar,0,some 0⟩),kv,.pointer (some ⟨ar,6,some 0⟩)]) ⟨c,h,r,w⟩) λx s=>(∃k,N9 fd l q R.i=.ok k/\x=.ret (.bool true)/\Fin U h0 sv fo ar ap lv q c h P (.ok {R with i:=R.i+1,B:=k}) s)\/(∃p e,N9 fd l q R.i=.er p e/\x=.ret (.bool false)/\Fin U h0 sv fo ar ap lv q c h P (.er p e) s):=by
 have hr:=H.hr;have hp:=H.hp;have a1:=H.r;have a2:=H.p;have a3:=H.ne;have a4:ap≠ar:=λe=>H.ne e.symm;have a5:ar≠c:=zy;have a6:ap≠c:=zy;have a7:ar≠c+1:=zy;have a8:ap≠c+1:=zy;have hlen:=hl.len.1;have e0:=S9 lv.a l.length lv.e;rw[c2Z];cases hi:l[R.i]? with
  |none=>
   obtain⟨z,y,o1,o2,hm⟩:=a0Z (m+3) H hl hi;have hlt:l.length<=R.i:=za;have d1:decide (R.i<l.length)=false:=zS;have eS:N9 fd l q R.i=.er q 4:=by unfold N9;rw[hi]
   simp(disch:=try exact dz)only[b2i,hm,hr,hp,I5,F8,a1g,a3g,V3,G72,hlen,e0,dlt,d1,↓gP,gY,gT];refine l9.done ?_;refine Or.inr ⟨_,_,eS,rfl,zV,λi hi h1 h2=>?_,R,H.setP zV (λi hi hp=>?_) ?_,λR1 e=>zk⟩;simp(disch:=first|assumption|omega)only[d9];simp(disch:=first|assumption|omega)only[d9];simp(disch:=first|assumption|omega)only[o7,F8,Rs.P]|some n=>obtain⟨z,y,o1,o2,nl,hn,hT,hm⟩:=a1a (m+3) H hl hi;have hlt:R.i<l.length:=(wM.1 hi).1;have d1:decide (R.i<l.length)=true:=zR;have hinc:=J6 R.i xK;cases q1:Y3 n.k n.t with|false=>have eS:N9 fd l q R.i=.er n.p 4:=xu;obtain⟨b,p,g,cs,cur,ro,nl',hb,hg,_,_,e1,e2,e3,e4,e5,e6⟩:=hl.get hi;obtain⟨u1,u2,u3,u4⟩:=H.u b hb;have hg':=u4.trans hg;rw[hlen]at e1;have b1:b≠c:=zy;have b2:b≠c+1:=zy;simp(disch:=try exact dz)only[b2i,hm,a1S,q1,hr,hp,I5,F8,a1g,a3g,V3,G72,hlen,e0,dlt,d1,e1,e4,hg',↓gP,gY,gT];refine l9.done ?_;refine Or.inr ⟨_,_,eS,rfl,zV,λi hi h1 h2=>?_,R,H.setP zV (λi hi hp=>?_) ?_,λR1 e=>zk⟩;simp(disch:=first|assumption|omega)only[d9];simp(disch:=first|assumption|omega)only[d9];simp(disch:=first|assumption|omega)only[o7,F8,Rs.P]|true=>simp(disch:=try exact dz)only[b2i,hm,a1S,q1,↓gP,gY,gT];refine l9.bindC (c1A E (m+1) hk (H.to ?_ λi hi=>?_) n nl hT _ _) λx s hq=>?_;omega;simp(disch:=first|assumption|omega)only[d9];obtain⟨c',h',r',w'⟩:=s;obtain⟨hc,hs,⟨q2,rfl,H'⟩|⟨q2,rfl,H'⟩⟩:=hq;have eS:N9 fd l q R.i=.ok (fd n.t).1:=yR;have hr':=H'.hr;simp only at hc hs hr';have c1:=H'.r;simp only at c1;simp(disch:=try exact dz)only[hr',I5,hinc,↓gP,gY];refine l9.done ?_;refine Or.inl ⟨_,eS,rfl,zV,λi hi h1 h2=>?_,_,H'.setR (wQ _) (λi hi hp=>?_) ?_,λR1 e=>zb⟩;have:=hs i zy h2;simp(disch:=first|assumption|omega)only[d9]at this⊢;exact this;simp(disch:=first|assumption|omega)only[d9];simp(disch:=first|assumption|omega)only[o7,I5];have eS:N9 fd l q R.i=.er n.p (fd n.t).2:=yS;have hr':=H'.hr;simp only at hc hs hr';have c1:=H'.r;simp only at c1;simp(disch:=try exact dz)only[hr',I5,hinc,↓gP,gY];refine l9.done ?_;refine Or.inr ⟨_,_,eS,rfl,zV,λi hi h1 h2=>?_,{R with i:=R.i+1,B:=0},H'.setR (wQ _) (λi hi hp=>?_) ?_,λR1 e=>zk⟩;have:=hs i zy h2;simp(disch:=first|assumption|omega)only[d9]at this⊢;exact this;simp(disch:=first|assumption|omega)only[d9];simp(disch:=first|assumption|omega)only[o7,I5]
end
end Go.Proofs.YtmomonnlmbljoaaGreatDoor
end
section
namespace Go.Proofs.YtmomonnlmbljoaaGreatDoor
open Go.V Go.RowKit Go.Shelf Go.Proofs
variable {mL:Int}
attribute [local congr] y7 x9 A8 A7 D5 z8 E5 G8 G7
def a3T (R:RV):Ix->Rs|.ok k=>.ok {R with i:=R.i+1,A:=k}|.er p e=>.er p e
def b3S (R:RV):Ix->Rs|.ok k=>.ok {R with i:=R.i+1,B:=k}|.er p e=>.er p e
def Rs.then (x:Rs)(f:RV->Rs):Rs:=match x with|.ok R=>f R|.er p e=>.er p e
noncomputable def isI (l:List Nd)(i:Nat):Bool:=match l[i]? with|some n=>Y3 n.k n.t|none=>false
structure EndR (U:Nat→Prop) (h0:Trie VObj) (sv fo:Value) (ar ap:Nat) (lv:Sl) (q c:Nat) (h:Trie VObj) (P:PV) (rs:Rs) (x:CR) (s:V.S):Prop where
 x:x=.ret (.bool rs.b)
 f:Fin U h0 sv fo ar ap lv q c h P rs s
theorem Fin.of_to {U h0 sv fo ar ap lv q c c1 h h1 P rs s}(H:Fin U h0 sv fo ar ap lv q c1 h1 P rs s)(hc:c<=c1)(hs:∀i,i<c->i≠ar->i≠ap->h1.get i=h.get i):Fin U h0 sv fo ar ap lv q c h P rs s:=⟨vQ hc H.le,λi h1 h2 h3=>(H.same i (wD h1 hc) h2 h3).trans (hs i h1 h2 h3),H.at'⟩
section
variable {U:Nat->Prop}{h0:Trie VObj}{sv fo:Value}{F:Nat->List (Value×Value)}{L:List (List UInt8)}{ar ap:Nat}{lv:Sl}{q c:Nat}{h:Trie VObj}{R:RV}{P:PV}{l:List Nd}
theorem a5x (E:Env U h0 sv F L)(m){kv fd}(hk:a8g F L kv fd)(H:At U h0 sv fo ar ap lv q c h R P)(hl:NdL U h0 lv l)(r w):l9 (go (o8 D8 (m+5) 183 [.pointer (some ⟨ar,0,some 0⟩),kv,.pointer (some ⟨ar,5,some 0⟩)]) ⟨c,h,r,w⟩) (EndR U h0 sv fo ar ap lv q c h P (a3T R (N9 fd l q R.i))):=(e0f E m hk H hl r w).mono λx s hq=>xW
theorem c1R (E:Env U h0 sv F L)(m){kv fd}(hk:a8g F L kv fd)(H:At U h0 sv fo ar ap lv q c h R P)(hl:NdL U h0 lv l)(r w):l9 (go (o8 D8 (m+5) 183 [.pointer (some ⟨ar,0,some 0⟩),kv,.pointer (some ⟨ar,6,some 0⟩)]) ⟨c,h,r,w⟩) (EndR U h0 sv fo ar ap lv q c h P (b3S R (N9 fd l q R.i))):=(d9O E m hk H hl r w).mono λx s hq=>xW
noncomputable def b2U (fd:List UInt8->Nat×Nat)(l:List Nd)(q:Nat)(R:RV):Rs:=bcase (isI l R.i) (a3T R (N9 fd l q R.i)) (.ok R)
theorem e2J (E:Env U h0 sv F L)(m){kv fd}(hk:a8g F L kv fd)(H:At U h0 sv fo ar ap lv q c h R P)(hl:NdL U h0 lv l)(r w):l9 (go (o8 D8 (m+6) 143 [.pointer (some ⟨ar,0,some 0⟩),kv,.pointer (some ⟨ar,5,some 0⟩)]) ⟨c,h,r,w⟩) (EndR U h0 sv fo ar ap lv q c h P (b2U fd l q R)):=by have hr:=H.hr;have hp:=H.hp;have a1:=H.r;have a2:=H.p;have a3:=H.ne;have a4:ap≠ar:=λe=>H.ne e.symm;have a5:ar≠c:=zy;have a6:ap≠c:=zy;have a7:ar≠c+1:=zy;have a8:ap≠c+1:=zy;rw[c8d];unfold b2U isI;cases hi:l[R.i]? with|none=>obtain⟨z,y,o1,o2,hm⟩:=a0Z (m+4) H hl hi;simp(disch:=try exact dz)only[b7W,hm,↓gP,gY,gT];refine l9.done ⟨rfl,zV,λi hi h1 h2=>?_,R,H.to zV (λi hi=>?_),λR1 e=>zb⟩;simp(disch:=first|assumption|omega)only[d9];simp(disch:=first|assumption|omega)only[d9]|some n=>obtain⟨z,y,o1,o2,nl,hn,hT,hm⟩:=a1a (m+4) H hl hi;simp only;cases q1:Y3 n.k n.t with|false=>simp(disch:=try exact dz)only[b7W,hm,a1S,q1,↓gP,gY,gT];refine l9.done ⟨rfl,zV,λi hi h1 h2=>?_,R,H.to zV (λi hi=>?_),λR1 e=>zb⟩;simp(disch:=first|assumption|omega)only[d9];simp(disch:=first|assumption|omega)only[d9]|true=>simp(disch:=try exact dz)only[b7W,hm,a1S,q1,↓gP,gY,gT];refine l9.bindC (a5x E m hk (H.to ?_ λi hi=>?_) hl _ _) λx s hq=>?_;omega;simp(disch:=first|assumption|omega)only[d9];obtain⟨rfl,hF⟩:=hq;simp(disch:=try exact dz)only[gY];refine l9.done ⟨rfl,hF.of_to zy λi hi h1 h2=>?_⟩;simp(disch:=first|assumption|omega)only[d9]
noncomputable def a6s (fd:List UInt8->Nat×Nat)(l:List Nd)(q:Nat)(R:RV):Rs:=bcase (isI l R.i) (b3S R (N9 fd l q R.i)) (.ok R)
theorem c3a (E:Env U h0 sv F L)(m){kv fd}(hk:a8g F L kv fd)(H:At U h0 sv fo ar ap lv q c h R P)(hl:NdL U h0 lv l)(r w):l9 (go (o8 D8 (m+6) 143 [.pointer (some ⟨ar,0,some 0⟩),kv,.pointer (some ⟨ar,6,some 0⟩)]) ⟨c,h,r,w⟩) (EndR U h0 sv fo ar ap lv q c h P (a6s fd l q R)):=by have hr:=H.hr;have hp:=H.hp;have a1:=H.r;have a2:=H.p;have a3:=H.ne;have a4:ap≠ar:=λe=>H.ne e.symm;have a5:ar≠c:=zy;have a6:ap≠c:=zy;have a7:ar≠c+1:=zy;have a8:ap≠c+1:=zy;rw[c8d];unfold a6s isI;cases hi:l[R.i]? with|none=>obtain⟨z,y,o1,o2,hm⟩:=a0Z (m+4) H hl hi;simp(disch:=try exact dz)only[b7W,hm,↓gP,gY,gT];refine l9.done ⟨rfl,zV,λi hi h1 h2=>?_,R,H.to zV (λi hi=>?_),λR1 e=>zb⟩;simp(disch:=first|assumption|omega)only[d9];simp(disch:=first|assumption|omega)only[d9]|some n=>obtain⟨z,y,o1,o2,nl,hn,hT,hm⟩:=a1a (m+4) H hl hi;simp only;cases q1:Y3 n.k n.t with|false=>simp(disch:=try exact dz)only[b7W,hm,a1S,q1,↓gP,gY,gT];refine l9.done ⟨rfl,zV,λi hi h1 h2=>?_,R,H.to zV (λi hi=>?_),λR1 e=>zb⟩;simp(disch:=first|assumption|omega)only[d9];simp(disch:=first|assumption|omega)only[d9]|true=>simp(disch:=try exact dz)only[b7W,hm,a1S,q1,↓gP,gY,gT];refine l9.bindC (c1R E m hk (H.to ?_ λi hi=>?_) hl _ _) λx s hq=>?_;omega;simp(disch:=first|assumption|omega)only[d9];obtain⟨rfl,hF⟩:=hq;simp(disch:=try exact dz)only[gY];refine l9.done ⟨rfl,hF.of_to zy λi hi h1 h2=>?_⟩;simp(disch:=first|assumption|omega)only[d9]
end
end Go.Proofs.YtmomonnlmbljoaaGreatDoor
end
section
namespace Go.Proofs.YtmomonnlmbljoaaGreatDoor
open Go.V Go.RowKit Go.Shelf Go.Proofs
attribute [local congr] y7 x9 A8 A7 D5 z8 E5 G8 G7
variable {mL:Int}
section
variable {U:Nat->Prop}{h0:Trie VObj}{sv fo:Value}{F:Nat->List (Value×Value)}{L:List (List UInt8)}{ar ap:Nat}{lv:Sl}{q c:Nat}{h:Trie VObj}{R:RV}{P:PV}{l:List Nd}
noncomputable def b2Y (fd:List UInt8→Nat×Nat) (l:List Nd) (q:Nat) (R:RV):Rs:=bcase (isI l R.i) ((a3T R (N9 fd l q R.i)).then fun R1=>b3S R1 (N9 fd l q R1.i)) (.ok R)
theorem d8g (E:Env U h0 sv F L)(m){kv fd}(hk:a8g F L kv fd)(H:At U h0 sv fo ar ap lv q c h R P)(hl:NdL U h0 lv l)(r w):l9 (go (o8 D8 (m+6) 145 [.pointer (some ⟨ar,0,some 0⟩),kv]) ⟨c,h,r,w⟩) (EndR U h0 sv fo ar ap lv q c h P (b2Y fd l q R)):=by
 have hr:=H.hr;have hp:=H.hp;have a1:=H.r;have a2:=H.p;have a3:=H.ne;have a4:ap≠ar:=λe=>H.ne e.symm;have a5:ar≠c:=zy;have a6:ap≠c:=zy;have a7:ar≠c+1:=zy;have a8:ap≠c+1:=zy;rw[e2M];unfold b2Y isI;cases hi:l[R.i]? with
  |none=>obtain⟨z,y,o1,o2,hm⟩:=a0Z (m+4) H hl hi;simp(disch:=try exact dz)only[d1H,hm,↓gP,gY,gT,Nat.reduceAdd];refine l9.done ⟨rfl,zV,λi hi h1 h2=>?_,R,H.to zV (λi hi=>?_),λR1 e=>zb⟩;simp(disch:=first|assumption|omega)only[d9];simp(disch:=first|assumption|omega)only[d9]|some n=>
   obtain⟨z,y,o1,o2,nl,hn,hT,hm⟩:=a1a (m+4) H hl hi;simp only;cases q1:Y3 n.k n.t with
    |false=>simp(disch:=try exact dz)only[d1H,hm,a1S,q1,↓gP,gY,gT,Nat.reduceAdd];refine l9.done ⟨rfl,zV,λi hi h1 h2=>?_,R,H.to zV (λi hi=>?_),λR1 e=>zb⟩;simp(disch:=first|assumption|omega)only[d9];simp(disch:=first|assumption|omega)only[d9]|true=>
     simp(disch:=try exact dz)only[d1H,hm,a1S,q1,↓gP,gY,gT,Nat.reduceAdd];refine l9.bindC (a5x E m hk (H.to ?_ λi hi=>?_) hl _ _) λx s hq=>?_;omega;simp(disch:=first|assumption|omega)only[d9];obtain⟨rfl,hF⟩:=hq;obtain⟨c',h',r',w'⟩:=s;have hc:=hF.le;have hs:=hF.same;simp only at hc hs;have hs':∀i,i<c->i≠ar->i≠ap->h'.get i=h.get i:=λi h1 h2 h3=>by have:=hs i zy h2 h3;simp(disch:=first|assumption|omega)only[d9]at this;exact this
     cases e1:a3T R (N9 fd l q R.i)with|er p e=>rw[e1]at hF;simp(disch:=try exact dz)only[Rs.b,↓gP,gY];exact l9.done ⟨rfl,⟨zV,λi h1 h2 h3=>hs' i h1 h2 h3,hF.at'⟩⟩|ok R1=>rw[e1]at hF;obtain⟨R',H',hR⟩:=hF.at';obtain rfl:=hR R1 rfl;simp(disch:=try exact dz)only[Rs.b,↓gP,gY,Nat.reduceAdd];refine l9.bindC (c1R E m hk (H':At U h0 sv fo ar ap lv q _ _ _ P) hl _ _) λx s hq=>?_;obtain⟨rfl,hF2⟩:=hq;simp(disch:=try exact dz)only[↓gP,gY];exact l9.done ⟨rfl,hF2.of_to zV hs'⟩
noncomputable def a7E (fd1 fd2:List UInt8→Nat×Nat) (l:List Nd) (q:Nat) (R:RV):Rs:=bcase (isI l R.i && isI l (R.i+1)) ((b3S R (N9 fd1 l q R.i)).then fun R1=>a3T R1 (N9 fd2 l q R1.i)) (a3T R (N9 fd2 l q R.i))
theorem t146 (hRi:R.i<4294967296)(E:Env U h0 sv F L)(m){kv1 kv2 fd1 fd2}(hk1:a8g F L kv1 fd1)(hk2:a8g F L kv2 fd2)(H:At U h0 sv fo ar ap lv q c h R P)(hl:NdL U h0 lv l)(r w):l9 (go (o8 D8 (m+6) 146 [.pointer (some ⟨ar,0,some 0⟩),kv1,kv2]) ⟨c,h,r,w⟩) (EndR U h0 sv fo ar ap lv q c h P (a7E fd1 fd2 l q R)):=by
 have hr:=H.hr;have hp:=H.hp;have a1:=H.r;have a2:=H.p;have a3:=H.ne;have a4:ap≠ar:=λe=>H.ne e.symm;have a5:ar≠c:=zy;have a6:ap≠c:=zy;have a7:ar≠c+1:=zy;have a8:ap≠c+1:=zy;rw[e1s];have hlen:=hl.len.1;have e0:=S9 lv.a l.length lv.e;unfold a7E;cases hi2:l[R.i+1]? with
  |none=>
   have hlt:l.length<=R.i+1:=by simpa using hi2
   have d1:decide (R.i+1<l.length)=false:=zS;have eI:isI l (R.i+1)=false:=by unfold isI;rw[hi2]
   have hinc:Q0 .i64 (Int.ofNat R.i+Int.ofNat 1)=Int.ofNat (R.i+1):=J6 R.i hRi;rw[eI,uD,V7];simp(disch:=try exact dz)only[c6T,hr,I5,hlen,e0,hinc,dlt,d1,↓gP,gY,Nat.reduceAdd];refine l9.bindC (a5x E m hk2 H hl _ _) λx s hq=>?_;obtain⟨rfl,hF⟩:=hq;simp(disch:=try exact dz)only[gY];exact l9.done ⟨rfl,hF⟩|some n2=>
   have hlt:R.i+1<l.length:=(wM.1 hi2).1;have d1:decide (R.i+1<l.length)=true:=zR;have hinc:=J6 R.i xK;obtain⟨n1,hi1⟩:∃n1,l[R.i]?=some n1:=⟨_,wO zy⟩;obtain⟨b,p,g,cs,cur,ro,nl1,hb,hg,hn1,hT1,e1,e2,_⟩:=hl.get hi1;obtain⟨u1,u2,u3,u4⟩:=H.u b hb;have hg':=u4.trans hg;rw[hlen]at e1;obtain⟨b',p',g',cs',cur',ro',nl2,hb',hgb,hn2,hT2,f1,f2,_⟩:=hl.get hi2;obtain⟨v1,v2,v3,v4⟩:=H.u b' hb';have hgb':=v4.trans hgb;rw[hlen]at f1;unfold isI;rw[hi1,hi2];simp only;cases q1:Y3 n1.k n1.t with
    |false=>simp(disch:=try exact dz)only[c6T,hr,I5,hlen,e0,hinc,dlt,d1,e1,e2,hg',a1S,q1,↓gP,gY,gT,Nat.reduceAdd];refine l9.bindC (a5x E m hk2 H hl _ _) λx s hq=>?_;obtain⟨rfl,hF⟩:=hq;simp(disch:=try exact dz)only[gY];exact l9.done ⟨rfl,hF⟩|true=>
     cases q2:Y3 n2.k n2.t with
      |false=>simp(disch:=try exact dz)only[c6T,hr,I5,hlen,e0,hinc,dlt,d1,e1,e2,hg',f1,f2,hgb',a1S,q1,q2,↓gP,gY,gT,Nat.reduceAdd];refine l9.bindC (a5x E m hk2 H hl _ _) λx s hq=>?_;obtain⟨rfl,hF⟩:=hq;simp(disch:=try exact dz)only[gY];exact l9.done ⟨rfl,hF⟩|true=>
       simp(disch:=try exact dz)only[c6T,hr,I5,hlen,e0,hinc,dlt,d1,e1,e2,hg',f1,f2,hgb',a1S,q1,q2,↓gP,gY,Nat.reduceAdd];refine l9.bindC (c1R E m hk1 H hl _ _) λx s hq=>?_;obtain⟨rfl,hF⟩:=hq;obtain⟨c',h',r',w'⟩:=s;have hc:=hF.le;have hs:=hF.same;simp only at hc hs;have hs':∀i,i<c->i≠ar->i≠ap->h'.get i=h.get i:=λi h1 h2 h3=>by exact hs i h1 h2 h3
       cases e1:b3S R (N9 fd1 l q R.i)with|er p e=>rw[e1]at hF;simp(disch:=try exact dz)only[Rs.b,↓gP,gY];exact l9.done ⟨rfl,⟨zV,λi h1 h2 h3=>hs' i h1 h2 h3,hF.at'⟩⟩|ok R1=>rw[e1]at hF;obtain⟨R',H',hR⟩:=hF.at';obtain rfl:=hR R1 rfl;simp(disch:=try exact dz)only[Rs.b,↓gP,gY,Nat.reduceAdd];refine l9.bindC (a5x E m hk2 (H':At U h0 sv fo ar ap lv q _ _ _ P) hl _ _) λx s hq=>?_;obtain⟨rfl,hF2⟩:=hq;simp(disch:=try exact dz)only[↓gP,gY];exact l9.done ⟨rfl,hF2.of_to zV hs'⟩
theorem e2t (E:Env U h0 sv F L)(m)(hop:I1 (.ofNat R.op)=true)(hj:E9 (.ofNat R.op)=2)(H:At U h0 sv fo ar ap lv q c h R P)(hl:NdL U h0 lv l)(r w):l9 (go (o8 D8 (m+6) 141 [.pointer (some ⟨ar,0,some 0⟩)]) ⟨c,h,r,w⟩) (EndR U h0 sv fo ar ap lv q c h P (a3T R (N9 (a0q L) l q R.i))):=by have hr:=H.hr;have hp:=H.hp;have a1:=H.r;have a2:=H.p;have a3:=H.ne;have a4:ap≠ar:=λe=>H.ne e.symm;have a5:ar≠c:=zy;have a6:ap≠c:=zy;have a7:ar≠c+1:=zy;have a8:ap≠c+1:=zy;rw[b1F];have e39:=a1K (m+4) R.op hop;rw[hj]at e39;simp(disch:=try exact dz)only[b7c,hr,I5,e39,Y1,↓gP,gY,gT,Nat.reduceEqDiff,Nat.reduceAdd];refine l9.bindC (a5x E m (Or.inl ⟨rfl,rfl⟩) H hl _ _) λx s hq=>?_;obtain⟨rfl,hF⟩:=hq;simp(disch:=try exact dz)only[gY];exact l9.done ⟨rfl,hF⟩
theorem d9X (E:Env U h0 sv F L)(m)(hop:I1 (.ofNat R.op)=true)(hj:E9 (.ofNat R.op)=4)(H:At U h0 sv fo ar ap lv q c h R P)(hl:NdL U h0 lv l)(r w):l9 (go (o8 D8 (m+6) 141 [.pointer (some ⟨ar,0,some 0⟩)]) ⟨c,h,r,w⟩) (EndR U h0 sv fo ar ap lv q c h P (a3T R (N9 (X6 (F 1)) l q R.i))):=by have hr:=H.hr;have hp:=H.hp;have a1:=H.r;have a2:=H.p;have a3:=H.ne;have a4:ap≠ar:=λe=>H.ne e.symm;have a5:ar≠c:=zy;have a6:ap≠c:=zy;have a7:ar≠c+1:=zy;have a8:ap≠c+1:=zy;rw[b1F];have e39:=a1K (m+4) R.op hop;rw[hj]at e39;simp(disch:=try exact dz)only[b7c,hr,I5,e39,Y1,↓gP,gY,gT,Nat.reduceEqDiff,Nat.reduceAdd];refine l9.bindC (a5x E m (Or.inr ⟨1,zu,rfl,rfl⟩) H hl _ _) λx s hq=>?_;obtain⟨rfl,hF⟩:=hq;simp(disch:=try exact dz)only[gY];exact l9.done ⟨rfl,hF⟩
theorem e2q (E:Env U h0 sv F L)(m)(hop:I1 (.ofNat R.op)=true)(hj:E9 (.ofNat R.op)=7)(H:At U h0 sv fo ar ap lv q c h R P)(hl:NdL U h0 lv l)(r w):l9 (go (o8 D8 (m+6) 141 [.pointer (some ⟨ar,0,some 0⟩)]) ⟨c,h,r,w⟩) (EndR U h0 sv fo ar ap lv q c h P (a3T R (N9 (X6 (F 7)) l q R.i))):=by have hr:=H.hr;have hp:=H.hp;have a1:=H.r;have a2:=H.p;have a3:=H.ne;have a4:ap≠ar:=λe=>H.ne e.symm;have a5:ar≠c:=zy;have a6:ap≠c:=zy;have a7:ar≠c+1:=zy;have a8:ap≠c+1:=zy;rw[b1F];have e39:=a1K (m+4) R.op hop;rw[hj]at e39;simp(disch:=try exact dz)only[b7c,hr,I5,e39,Y1,↓gP,gY,gT,Nat.reduceEqDiff,Nat.reduceAdd];refine l9.bindC (a5x E m (Or.inr ⟨7,zu,rfl,rfl⟩) H hl _ _) λx s hq=>?_;obtain⟨rfl,hF⟩:=hq;simp(disch:=try exact dz)only[gY];exact l9.done ⟨rfl,hF⟩
theorem e1U (E:Env U h0 sv F L)(m)(hop:I1 (.ofNat R.op)=true)(hj:E9 (.ofNat R.op)=8)(H:At U h0 sv fo ar ap lv q c h R P)(hl:NdL U h0 lv l)(r w):l9 (go (o8 D8 (m+6) 141 [.pointer (some ⟨ar,0,some 0⟩)]) ⟨c,h,r,w⟩) (EndR U h0 sv fo ar ap lv q c h P (a3T R (N9 (X6 (F 4)) l q R.i))):=by have hr:=H.hr;have hp:=H.hp;have a1:=H.r;have a2:=H.p;have a3:=H.ne;have a4:ap≠ar:=λe=>H.ne e.symm;have a5:ar≠c:=zy;have a6:ap≠c:=zy;have a7:ar≠c+1:=zy;have a8:ap≠c+1:=zy;rw[b1F];have e39:=a1K (m+4) R.op hop;rw[hj]at e39;simp(disch:=try exact dz)only[b7c,hr,I5,e39,Y1,↓gP,gY,gT,Nat.reduceEqDiff,Nat.reduceAdd];refine l9.bindC (a5x E m (Or.inr ⟨4,zu,rfl,rfl⟩) H hl _ _) λx s hq=>?_;obtain⟨rfl,hF⟩:=hq;simp(disch:=try exact dz)only[gY];exact l9.done ⟨rfl,hF⟩
theorem d6U (E:Env U h0 sv F L)(m)(hop:I1 (.ofNat R.op)=true)(hj:E9 (.ofNat R.op)=12)(H:At U h0 sv fo ar ap lv q c h R P)(hl:NdL U h0 lv l)(r w):l9 (go (o8 D8 (m+6) 141 [.pointer (some ⟨ar,0,some 0⟩)]) ⟨c,h,r,w⟩) (EndR U h0 sv fo ar ap lv q c h P (a3T R (N9 (X6 (F 5)) l q R.i))):=by have hr:=H.hr;have hp:=H.hp;have a1:=H.r;have a2:=H.p;have a3:=H.ne;have a4:ap≠ar:=λe=>H.ne e.symm;have a5:ar≠c:=zy;have a6:ap≠c:=zy;have a7:ar≠c+1:=zy;have a8:ap≠c+1:=zy;rw[b1F];have e39:=a1K (m+4) R.op hop;rw[hj]at e39;simp(disch:=try exact dz)only[b7c,hr,I5,e39,Y1,↓gP,gY,gT,Nat.reduceEqDiff,Nat.reduceAdd];refine l9.bindC (a5x E m (Or.inr ⟨5,zu,rfl,rfl⟩) H hl _ _) λx s hq=>?_;obtain⟨rfl,hF⟩:=hq;simp(disch:=try exact dz)only[gY];exact l9.done ⟨rfl,hF⟩
theorem d6N (E:Env U h0 sv F L)(m)(hop:I1 (.ofNat R.op)=true)(hj:E9 (.ofNat R.op)=16)(H:At U h0 sv fo ar ap lv q c h R P)(hl:NdL U h0 lv l)(r w):l9 (go (o8 D8 (m+6) 141 [.pointer (some ⟨ar,0,some 0⟩)]) ⟨c,h,r,w⟩) (EndR U h0 sv fo ar ap lv q c h P (a3T R (N9 (X6 (F 6)) l q R.i))):=by have hr:=H.hr;have hp:=H.hp;have a1:=H.r;have a2:=H.p;have a3:=H.ne;have a4:ap≠ar:=λe=>H.ne e.symm;have a5:ar≠c:=zy;have a6:ap≠c:=zy;have a7:ar≠c+1:=zy;have a8:ap≠c+1:=zy;rw[b1F];have e39:=a1K (m+4) R.op hop;rw[hj]at e39;simp(disch:=try exact dz)only[b7c,hr,I5,e39,Y1,↓gP,gY,gT,Nat.reduceEqDiff,Nat.reduceAdd];refine l9.bindC (a5x E m (Or.inr ⟨6,zu,rfl,rfl⟩) H hl _ _) λx s hq=>?_;obtain⟨rfl,hF⟩:=hq;simp(disch:=try exact dz)only[gY];exact l9.done ⟨rfl,hF⟩
end
end Go.Proofs.YtmomonnlmbljoaaGreatDoor
end
