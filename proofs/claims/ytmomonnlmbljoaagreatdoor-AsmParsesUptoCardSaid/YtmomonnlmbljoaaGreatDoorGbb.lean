import Derived.Test.YtmomonnlmbljoaaGreatDoorGba
set_option maxRecDepth 1000000
set_option maxHeartbeats 4000000
set_option linter.unusedVariables false
set_option linter.unusedSimpArgs false
noncomputable section
namespace Go.Proofs.YtmomonnlmbljoaaGreatDoor
open Go.V Go.RowKit Go.Shelf Go.Proofs
variable {mL:Int}
section
attribute [local congr] q9 x8 A8 z8 D5 x9 D6
def pe5:Nat->Option (List Value->M Value):=J8 (J8 (J8 (J8 (J8 (J8 (J8 (J8 (J8 (J8 (J8 pe4 207 XF) 32 b5B) 113 XBg) 187 (X1 .u64 b7R)) 188 (X1 .u64 c5Y)) 11 (λbs=>M.lift (alX bs))) 46 (X1 .i64 λz=>some (.int .i64 (.ofNat (P9 z))))) 98 (X1 .i64 a4p)) 152 (λbs=>M.lift (XT opV bs))) 194 (λbs=>M.lift (XT a0E bs))) 164 (X1 .u8 (a3n qDg))
def A9:a1r:=R4 (R4 (R4 (R4 (R4 (R4 (R4 (R4 (R4 (R4 (R4 ps4 207 XF) 32 b5B) 113 XBg) 187 (X1 .u64 b7R)) 188 (X1 .u64 c5Y)) 11 (λbs=>M.lift (alX bs))) 46 (X1 .i64 λz=>some (.int .i64 (.ofNat (P9 z))))) 98 (X1 .i64 a4p)) 152 (λbs=>M.lift (XT opV bs))) 194 (λbs=>M.lift (XT a0E bs))) 164 (X1 .u8 (a3n qDg))
theorem pL5:Shelf' Tryz.prog tab (L6 mL) NN pe5 A9:=((((((((((pL4.add c9m).add d4n).add c8I).add d1p).add c9Y).add d4W).add c5L).add d4l).add c8U).add d0N).add d0X
theorem C9 {α}(x y:α):bcase true x y=x:=rfl
theorem F7 {α}(x y:α):bcase false x y=y:=rfl
def AgU (U:Nat->Prop)(h h0:Trie VObj):Prop:=∀i,U i->h.get i=h0.get i
theorem AgU.upd {U h h0 j o}(H:AgU U h h0)(hj:¬U j):AgU U (V.upd h j o) h0:=λi hi=>by have hne:i≠j:=λe=>hj (by rw[<-e];exact hi);rw[d9 hne];exact H i hi
theorem d1d {U h0 v vs}(H:SlU U h0 v vs):∃z:List Nat->List Nat,∀c h,(∀i,U i->i<c)->AgU U h h0->∀r w,go (c6m (.slice v.a v.n v.e)) ⟨c,h,r,w⟩=some (vs,⟨c,h,z r,w⟩):=by obtain⟨a,n,e⟩:=v;obtain⟨h0',h1⟩:=H;simp only at h0' h1;subst h0';rcases h1 with rfl|⟨b,o,g,cs,cur,ro,rfl,rfl,h2,h3,h4⟩;refine⟨λr=>r,λc h _ _ r w=>?_⟩;cases a<;>rfl;cases vs with|nil=>exact⟨λr=>r,λc h _ _ r w=>rfl⟩|cons v vs=>refine⟨λr=>b::r,λc h hc hh r w=>?_⟩;show go (loadN ⟨b,o,some g⟩ ((vs.length+1)*1)) ⟨c,h,r,w⟩=_;rw[a2q,L8 (hc b h2),(hh b h2).trans h3,Z5,vQ,show vs.length+1=(v::vs).length from rfl,h4];rfl
theorem c7q {U h0 v L}(H:LabAt U h0 v L):∃z:List Nat->List Nat,∀c h,(∀i,U i->i<c)->AgU U h h0->∀r w,go (b2e v) ⟨c,h,r,w⟩=some (L,⟨c,h,z r,w⟩):=by obtain⟨⟨sb,so,g,cs,cur,ro,m,lv,rfl,h1,h2,h3,h4⟩,h5⟩:=H;obtain⟨z,hz⟩:=d1d h4;refine⟨λr=>z (sb::r),λc h hc hh r w=>?_⟩;unfold b2e;rw[a2T,M5,a2q,L8 (hc sb h1),(hh sb h1).trans h2,Z5,h3];simp only[a1L,M9,M5,hz c h hc hh,d2I,G7,J2,L8 h5,V4];rfl
theorem c4o {U h0 v k fs}(H:KindAt U h0 v k fs):∃z:List Nat->List Nat,∀c h,(∀i,U i->i<c)->AgU U h h0->∀r w,go (a9S v k) ⟨c,h,r,w⟩=some (fs,⟨c,h,z r,w⟩):=by obtain⟨sb,so,g,cs,cur,ro,m,lv,es,kb,ko,kg,ds,cur2,ro2,n,nm,m2,rfl,h1,h2,h3,h4,h5,h6,h7,h8,h9,h10,h11⟩:=H.ex;refine⟨λr=>m2::kb::m::sb::r,λc h hc hh r w=>?_⟩;unfold a9S;rw[a2T,M5,a2q,L8 (hc sb h1),(hh sb h1).trans h2,Z5,h3];simp only[a1L,M9,M5,a6h _ _ _ _ _ _ (hc m h4) ((hh m h4).trans h5),h6,G7,a2T,a2q,L8 (hc kb h7),(hh kb h7).trans h8,Z5,h9,a6h _ _ _ _ _ _ (hc m2 h10) ((hh m2 h10).trans h11)]
theorem c9Z {U h0 a n e o}(H:b3x U h0 a n e o):∃z:List Nat->List Nat,∀c h,(∀i,U i->i<c)->AgU U h h0->∀r w,go (b5C a n e) ⟨c,h,r,w⟩=some (o,⟨c,h,z r,w⟩):=by rcases H with⟨rfl,rfl⟩|⟨m,b,off,g,cs,cur,ro,k,x,s,y,rfl,rfl,rfl,h4,h5,h6,rfl⟩;exact⟨λr=>r,λc h _ _ r w=>rfl⟩;refine⟨λr=>b::r,λc h hc hh r w=>?_⟩;unfold b5C;simp only[J4,V4,G7,M5,a2q,L8 (hc b h4),(hh b h4).trans h5,Z5,h6,a1L,M9];rfl
def a0k (fs:List (Value×Value))(T:List UInt8):Nat×Nat:=bcase (a0X T [36]) (match Y9 (.string ⟨⟨T⟩⟩) fs with|some (some (.int .i64 (.ofNat n)))=>(n,0)|_=>(0,24)) (a0T T)
def L9 (L:List (List UInt8))(T:List UInt8):Nat×Nat:=bcase (a0X T [36]) (match a4e T L.reverse 0 with|some n=>(n,0)|none=>(0,24)) (a0T T)
structure Env (U:Nat→Prop) (h0:Trie VObj) (sv:Value) (F:Nat→List (Value×Value)) (L:List (List UInt8)):Prop where
 kind:∀ k,k<9→KindAt U h0 sv k (F k)
 good:∀ k,k<9→∀ T:List UInt8,(∃ n,Y9 (.string ⟨⟨T⟩⟩) (F k)=some (some (.int .i64 (.ofNat n))))∨Y9 (.string ⟨⟨T⟩⟩) (F k)=some none
 lab:LabAt U h0 sv L
theorem d6R {U h0 sv F L}(E:Env U h0 sv F L){k}(hk:k<9){T}(hT:T.length<1800000):b5t (F k) T=some (.tuple ⟨[.int .i64 (.ofNat (a0k (F k) T).1),.int .i64 (.ofNat (a0k (F k) T).2)]⟩):=by unfold b5t a0k;cases a0X T [36]with|true=>rcases E.good k hk T with⟨n,e⟩|e;simp only[C9,e];simp only[C9,e]|false=>rw[F7,F7,J2,L8 hT];rfl
theorem d6d {L T}(hT:T.length<1800000):b5a L T=some (.tuple ⟨[.int .i64 (.ofNat (L9 L T).1),.int .i64 (.ofNat (L9 L T).2)]⟩):=by unfold b5a L9 b8d;cases a0X T [36]with|true=>rw[C9,C9];cases a4e T L.reverse 0<;>rfl|false=>rw[F7,F7,J2,L8 hT];rfl
theorem e2F {U h0 sv F L}(E:Env U h0 sv F L)(n){k}(hk:k<9){T}(hT:T.length<1800000):∃z:List Nat->List Nat,∀c h r w,(∀i,U i->i<c)->AgU U h h0->go (o8 A9 (n+1) 207 [sv,.int .i64 (.ofNat k),.string ⟨⟨T⟩⟩]) ⟨c,h,r,w⟩=some (.ret (.tuple ⟨[.int .i64 (.ofNat (a0k (F k) T).1),.int .i64 (.ofNat (a0k (F k) T).2)]⟩),⟨c,h,z r,w⟩):=by obtain⟨z,hz⟩:=c4o (E.kind k hk);refine⟨z,λc h r w hc hh=>?_⟩;rw[a9k A9 n 207 _ (g:=XF) zw,M5];show U3 (go (M.bind (a9S sv k) λfs=>M.lift (b5t fs T)) ⟨c,h,r,w⟩) _=_;rw[M5,hz c h hc hh,M9,d6R E hk hT];rfl
theorem d5f {U h0 sv F L}(E:Env U h0 sv F L)(n){T}(hT:T.length<1800000):∃z:List Nat->List Nat,∀c h r w,(∀i,U i->i<c)->AgU U h h0->go (o8 A9 (n+1) 32 [sv,.string ⟨⟨T⟩⟩]) ⟨c,h,r,w⟩=some (.ret (.tuple ⟨[.int .i64 (.ofNat (L9 L T).1),.int .i64 (.ofNat (L9 L T).2)]⟩),⟨c,h,z r,w⟩):=by obtain⟨z,hz⟩:=c7q E.lab;refine⟨z,λc h r w hc hh=>?_⟩;rw[a9k A9 n 32 _ (g:=b5B) zw,M5];show U3 (go (M.bind (b2e sv) λL=>M.lift (b5a L T)) ⟨c,h,r,w⟩) _=_;rw[M5,hz c h hc hh,M9,d6d hT];rfl
theorem b1q {U h0 a m e o}(H:b3x U h0 a m e o)(n):∃z:List Nat->List Nat,∀c h r w k p T W,(∀i,U i->i<c)->AgU U h h0->go (o8 A9 (n+1) 113 [.agg ⟨[.int .i64 (.ofNat k),.int .i64 (.ofNat p),.string ⟨⟨T⟩⟩,.slice a m e]⟩,.string ⟨⟨W⟩⟩]) ⟨c,h,r,w⟩=some (.ret (.bool (Z4 k o W)),⟨c,h,z r,w⟩):=by obtain⟨z,hz⟩:=c9Z H;refine⟨z,λc h r w k p T W hc hh=>?_⟩;rw[a9k A9 n 113 _ (g:=XBg) zw,M5];show U3 (go (M.bind (b5C a m e) λo=>M.pure (Value.bool (Z4 k o W))) ⟨c,h,r,w⟩) _=_;rw[M5,hz c h hc hh,M9];rfl
theorem a1S (n k p T a m e):o8 A9 (n+1) 184 [.agg ⟨[.int .i64 (.ofNat k),.int .i64 (.ofNat p),.string ⟨⟨T⟩⟩,.slice a m e]⟩]=M.pure (.ret (.bool (Z0 k T))):=a0o A9 n 184 _ (g:=XN c7E) zw rfl
theorem b2y (n T P):o8 A9 (n+1) 80 [.string ⟨⟨T⟩⟩,.string ⟨⟨P⟩⟩]=M.pure (.ret (.bool (a0X T P))):=a0o A9 n 80 _ (g:=b0m b2r) zw rfl
theorem e6a (n T)(h:T.length<1800000):o8 A9 (n+1) 81 [.string ⟨⟨T⟩⟩,.int .i64 (.ofNat 4294967295)]=M.pure (.ret (.tuple ⟨[.int .i64 (.ofNat (a0T T).1),.int .i64 (.ofNat (a0T T).2)]⟩)):=a0o A9 n 81 _ (g:=b2u 4294967295 a3Y) zw (b3Q _ _ T h)
theorem c8F (n T)(h:T.length<1800000):o8 A9 (n+1) 186 [.string ⟨⟨T⟩⟩,.int .i64 (.ofNat 32)]=M.pure (.ret (.tuple ⟨[.int .u64 (.ofNat (a0h T 4294967295).1),.int .i64 (.ofNat (a0h T 4294967295).2)]⟩)):=a0o A9 n 186 _ (g:=b0h) zw (d7v T h)
theorem b8x (n T)(h:T.length<1800000):o8 A9 (n+1) 186 [.string ⟨⟨T⟩⟩,.int .i64 (.ofNat 64)]=M.pure (.ret (.tuple ⟨[.int .u64 (.ofNat (a0h T 18446744073709551615).1),.int .i64 (.ofNat (a0h T 18446744073709551615).2)]⟩)):=a0o A9 n 186 _ (g:=b0h) zw (d5W T h)
theorem c8G (n T)(h:T.length<1800000):o8 A9 (n+1) 107 [.string ⟨⟨T⟩⟩]=M.pure (.ret (.bool (a1l T))):=a0o A9 n 107 _ (g:=onS λT=>.bool (a1l T)) zw (b6y _ T h)
theorem c1R (n T):o8 A9 (n+1) 182 [.string ⟨⟨T⟩⟩]=M.pure (.ret (a0E T)):=a0o A9 n 182 _ (g:=XT a0E) zw rfl
theorem e0k (n T):o8 A9 (n+1) 109 [.string ⟨⟨T⟩⟩]=M.pure (.ret (a9B a1y T)):=a0o A9 n 109 _ (g:=b6s) zw rfl
theorem c8b (n z)(h:a3M (.ofNat z)=true):o8 A9 (n+1) 39 [.int .i64 (.ofNat z)]=M.pure (.ret (.int .i64 (.ofNat (P9 (.ofNat z))))):=a6G (q:=λz=>bcase (a3M z) (some (.int .i64 (.ofNat (P9 z)))) none) zw n (by rw[h];rfl)
theorem e3U (n z a)(h:a1D a1V (.ofNat z)=some a):o8 A9 (n+1) 94 [.int .i64 (.ofNat z)]=M.pure (.ret (.int .i64 (.ofNat a))):=a6G (q:=a4p) zw n (by unfold a4p;rw[h])
theorem e1A (n m)(h:m<18446744073709551616):o8 A9 (n+1) 187 [.int .u64 (.ofNat m)]=M.pure (.ret (.int .i64 (.ofNat (pop m)))):=a6G (q:=b7R) zw n (d6x m h)
theorem e1H (n m i)(h:a6k m=some i):o8 A9 (n+1) 188 [.int .u64 (.ofNat m)]=M.pure (.ret (.int .i64 (.ofNat i))):=a6G (q:=c5Y) zw n (by show(match a6k m with|some i=>some (Value.int .i64 (.ofNat i))|none=>none)=_;rw[h])
theorem X5 (n a b c):o8 A9 (n+1) 72 [a,b,c]=c7N o9 NN (o8 A9 n) a b c:=a5I (q:=c7N) (N:=NN) zw n a b c
theorem c9j (n a):o8 A9 (n+1) 138 [a]=c0E o9 NN (o8 A9 n) a:=a1j (q:=c0E) (N:=NN) zw n a
theorem a1a (n a b c):o8 A9 (n+1) 181 [a,b,c]=b9v o9 NN (o8 A9 n) a b c:=a5I (q:=b9v) (N:=NN) zw n a b c
theorem e0H (n a b c):o8 A9 (n+1) 185 [a,b,c]=b9G o9 NN (o8 A9 n) a b c:=a5I (q:=b9G) (N:=NN) zw n a b c
theorem c3x (n a b c):o8 A9 (n+1) 183 [a,b,c]=c0M o9 NN (o8 A9 n) a b c:=a5I (q:=c0M) (N:=NN) zw n a b c
theorem c9N (n a b c):o8 A9 (n+1) 143 [a,b,c]=c0U o9 NN (o8 A9 n) a b c:=a5I (q:=c0U) (N:=NN) zw n a b c
theorem d8f (n a):o8 A9 (n+1) 139 [a]=c0z o9 NN (o8 A9 n) a:=a1j (q:=c0z) (N:=NN) zw n a
theorem e2d (n a):o8 A9 (n+1) 140 [a]=b9L o9 NN (o8 A9 n) a:=a1j (q:=b9L) (N:=NN) zw n a
theorem d9r (n a):o8 A9 (n+1) 141 [a]=b9A o9 NN (o8 A9 n) a:=a1j (q:=b9A) (N:=NN) zw n a
theorem e0W (n a):o8 A9 (n+1) 142 [a]=c0n o9 NN (o8 A9 n) a:=a1j (q:=c0n) (N:=NN) zw n a
theorem d0g (n a b):o8 A9 (n+1) 144 [a,b]=b9Y o9 NN (o8 A9 n) a b:=a0Z (q:=b9Y) (N:=NN) zw n a b
theorem d9q (n a b):o8 A9 (n+1) 145 [a,b]=b9z o9 NN (o8 A9 n) a b:=a0Z (q:=b9z) (N:=NN) zw n a b
theorem e2k (n a b c):o8 A9 (n+1) 146 [a,b,c]=c0I o9 NN (o8 A9 n) a b c:=a5I (q:=c0I) (N:=NN) zw n a b c
theorem d9O (n a):o8 A9 (n+1) 147 [a]=b9E o9 NN (o8 A9 n) a:=a1j (q:=b9E) (N:=NN) zw n a
theorem c9Q (n a b):o8 A9 (n+1) 148 [a,b]=c0R o9 NN (o8 A9 n) a b:=a0Z (q:=c0R) (N:=NN) zw n a b
theorem e0b (n a):o8 A9 (n+1) 149 [a]=c0m o9 NN (o8 A9 n) a:=a1j (q:=c0m) (N:=NN) zw n a
theorem c1f (n a):o8 A9 (n+1) 110 [a]=c0X o9 NN (o8 A9 n) a:=a1j (q:=c0X) (N:=NN) zw n a
end
theorem P6 {α}{m m':M α}(h:m=m')(s):go m s=go m' s:=by rw[h]
def a4Y {β:Type}(x:Option ((Xc×List Value)×V.S))(k:Xc->List Value->M β):Option (β×V.S):=match x with|none=>none|some y=>go (k y.1.1 y.1.2) y.2
def R9 {β:Type}(x:Option (CR×V.S))(kn kp:Value->M β):Option (β×V.S):=match x with|none=>none|some y=>go (a1w y.1 kn kp) y.2
theorem c7e {β}(a l s)(k:Xc->List Value->M β):a4Y (some ((a,l),s)) k=go (k a l) s:=rfl
theorem c9X {β}(v s)(kn kp:Value->M β):R9 (some (.ret v,s)) kn kp=go (kn v) s:=rfl
theorem D8 {β x y}(k:Xc->List Value->M β)(h:x=y):a4Y x k=a4Y y k:=by rw[h]
theorem D7 {β x y}(kn kp:Value->M β)(h:x=y):R9 x kn kp=R9 y kn kp:=by rw[h]
theorem d8H {β}(m k s):go (o9.bv β m k) s=U3 (go m s) k:=rfl
theorem c3M {β}(m kn kp s):go (o9.bc β m kn kp) s=R9 (go m s) kn kp:=by rw[Y8,M5];cases go m s<;>rfl
theorem b8f {β}(m k s):go (o9.bj β m k) s=a4Y (go m s) k:=by rw[Y6,M5];cases go m s<;>rfl
theorem e0j (b n x s):go (o9.lp b n x) s=go (Q5 b n x) s:=rfl
theorem c1Q {β}(a:M β)(b c d s):go (X3 .normal a b c d) s=go a s:=rfl
theorem c9U {β}(i)(a:M β)(b c d s):go (X3 (.exit i) a b c d) s=go (b i) s:=rfl
theorem d5g {β}(a:M β)(b c d s):go (X3 .ret a b c d) s=go c s:=rfl
theorem c8V {β}(b)(x y:M β)(s):go (a5P (.bool b) x y) s=bcase b (go x s) (go y s):=ze
theorem d5u {α}(a)(k:Addr->M α)(s):go (a0G (.pointer (some a)) k) s=go (k a) s:=rfl
theorem d8t (call f vs s):go (a1M call f vs) s=R9 (go (call f vs) s) M.pure λ_=>M.fail:=by rw[b3M,M5];cases go (call f vs) s<;>rfl
theorem O8 (body n x s):go (Q5 body (n+1) x) s=a4Y (go (body x) s) λr l=>X3 r (Q5 body n l) (λid=>M.pure (.exit id,l)) (M.pure (.ret,l)) (λv=>M.pure (.pan v,l)):=by rw[a0C];cases go (body x) s<;>rfl
theorem e9c {β}(x kn kp k):a4Y (R9 x kn kp) k=R9 x (λv=>o9.bj β (kn v) k) (λv=>o9.bj β (kp v) k):=by cases x with|none=>rfl|some y=>obtain⟨y,s⟩:=y;cases y<;>exact(b8f _ _ _).symm
theorem e9g {β}(x f k):a4Y (a4Y x f) k=a4Y x λa l=>o9.bj β (f a l) k:=by cases x with|none=>rfl|some y=>exact(b8f _ _ _).symm
theorem f0L {α β}(x:Option (α×V.S))(f k):a4Y (U3 x f) k=U3 x λa=>o9.bj β (f a) k:=by cases x with|none=>rfl|some y=>exact(b8f _ _ _).symm
theorem e9T {β}(x kn kp k k'):R9 (R9 x kn kp) k k'=R9 x (λv=>o9.bc β (kn v) k k') (λv=>o9.bc β (kp v) k k'):=by cases x with|none=>rfl|some y=>obtain⟨y,s⟩:=y;cases y<;>exact(c3M _ _ _ _).symm
theorem f0B {β}(x f k k'):R9 (a4Y x f) k k'=a4Y x λa l=>o9.bc β (f a l) k k':=by cases x with|none=>rfl|some y=>exact(c3M _ _ _ _).symm
theorem f0i {β γ}(x kn kp)(f:β->M γ):U3 (R9 x kn kp) f=R9 x (λv=>M.bind (kn v) f) (λv=>M.bind (kp v) f):=by cases x with|none=>rfl|some y=>obtain⟨y,s⟩:=y;cases y<;>rfl
theorem e9M {β γ}(x g)(f:β->M γ):U3 (a4Y x g) f=a4Y x λa l=>M.bind (g a l) f:=by cases x with|none=>rfl|some y=>rfl
theorem l9.bindC {β:Type}{x:Option (CR×V.S)}{kn kp:Value->M β}{P:CR->V.S->Prop}{Q:β->V.S->Prop}(h:l9 x P)(k:∀y s',P y s'->l9 (R9 (some (y,s')) kn kp) Q):l9 (Proofs.YtmomonnlmbljoaaGreatDoor.R9 x kn kp) Q:=by obtain⟨a,s',e,p⟩:=h;rw[e];exact k a s' p
theorem l9.bindJ {β x}{f:Xc->List Value->M β}{P Q}(h:l9 x P)(k:∀y l s',P (y,l) s'->l9 (go (f y l) s') Q):l9 (Proofs.YtmomonnlmbljoaaGreatDoor.a4Y x f) Q:=by obtain⟨⟨y,l⟩,s',e,p⟩:=h;rw[e];exact k y l s' p
def bvK {β:Type}{a:M β}{m:M Value}{k:Value->M β}(_:a=o9.bv β m k):Value->M β:=k
theorem bvE {β a c m k v}(h:a=o9.bv β m k)(e:c=bvK h v):c=k v:=e
theorem d1z {K}{Q:(Value->M CR)->Prop}{G:Prop}(main:Q K->G)(key:Q K):G:=main key
abbrev gP:=om @M5<|om @d8H<|om @c3M<|om @b8f<|om @e0j<|om @c1Q<|om @c9U<|om @d5g<|om @c8V<|om @d5u<|om @d8t<|om @b7G @a6f
abbrev G69:=(λp0 p1 p2 p3 p4 s=>P6 (f0c p0 p1 p2 p3 p4) s)
abbrev G71:=om (λp0 p1 p2 p3 p4 s=>P6 (e7z p0 p1 p2 p3 p4) s)<| @D9
abbrev d3a:=(λp0 p1 p2 p3 p4 p5 p6 s=>P6 (d0T p0 p1 p2 p3 p4 p5 p6) s)
abbrev G79:=(λp0 p1 p2 p3 s=>P6 (e0F p0 p1 p2 p3) s)
abbrev b3n:=(λp0 p1 p2 p3 p4 s=>P6 (e6G p0 p1 p2 p3 p4) s)
abbrev e8B:=(λp0 p1 p2 p3 p4 s=>P6 (e6N p0 p1 p2 p3 p4) s)
abbrev a8O:=(λp0 p1 p2 p3 p4 s=>P6 (c0Y p0 p1 p2 p3 p4) s)
abbrev b0P:=om (λp0 p1 p2 p3 p4 s=>P6 (e6o p0 p1 p2 p3 p4) s)<| @D9
abbrev G29:=om (λp0 p1 p2 p3 p4 s=>P6 (e7F p0 p1 p2 p3 p4) s)<| @D9
abbrev e1P:=(λp0 p1 p2 p3 p4 p5 s=>P6 (c9S p0 p1 p2 p3 p4 p5) s)
abbrev G64:=(λp0 p1 p2 p3 s=>P6 (e8I p0 p1 p2 p3) s)
abbrev e1M:=(λp0 p1 p2 p3 p4 s=>P6 (c8x p0 p1 p2 p3 p4) s)
abbrev G74:=om (λp0 p1 p2 p3 p4 p5 p6 s=>P6 (e7Z p0 p1 p2 p3 p4 p5 p6) s)<| @D9
abbrev G76:=om (λp0 p1 p2 p3 p4 s=>P6 (e9W p0 p1 p2 p3 p4) s)<| @D9
abbrev b0W:=(λp0 p1 p2 p3 p4 p5 s=>P6 (c5F p0 p1 p2 p3 p4 p5) s)
abbrev a3b:=om (λp0 p1 p2 p3 p4 p5 s=>P6 (e6D p0 p1 p2 p3 p4 p5) s)<| @D9
abbrev e9s:=(λp0 p1 p2 p3 p4 s=>P6 (e3g p0 p1 p2 p3 p4) s)
abbrev e9v:=(λp0 p1 p2 p3 s=>P6 (e5c p0 p1 p2 p3) s)
abbrev e7C:=(λp0 p1 p2 p3 p4 s=>P6 (e5Z p0 p1 p2 p3 p4) s)
abbrev b2E:=(λp0 p1 p2 p3 p4 s=>P6 (c5p p0 p1 p2 p3 p4) s)
abbrev c2R:=om (λp0 p1 p2 p3 s=>P6 (e6F p0 p1 p2 p3) s)<| @D9
abbrev b7S:=om (λp0 p1 p2 p3 s=>P6 (e6b p0 p1 p2 p3) s)<| @D9
abbrev b2q:=om (λp0 p1 p2 p3 p4 p5 s=>P6 (e3J p0 p1 p2 p3 p4 p5) s)<| @D9
abbrev G22:=om (λp0 p1 p2 p3 p4 s=>P6 (e8W p0 p1 p2 p3 p4) s)<| @D9
abbrev d8h:=(λp0 p1 p2 p3 p4 p5 s=>P6 (d1i p0 p1 p2 p3 p4 p5) s)
abbrev G65:=(λp0 p1 p2 p3 p4 p5 p6 s=>P6 (e9A p0 p1 p2 p3 p4 p5 p6) s)
abbrev b5D:=(λp0 p1 p2 p3 p4 p5 p6 s=>P6 (c4D p0 p1 p2 p3 p4 p5 p6) s)
abbrev c6J:=(λp0 p1 p2 p3 p4 s=>P6 (e4H p0 p1 p2 p3 p4) s)
abbrev c5V:=(λp0 p1 p2 p3 p4 s=>P6 (c4L p0 p1 p2 p3 p4) s)
abbrev e7N:=(λp0 p1 p2 p3 p4 s=>P6 (e4k p0 p1 p2 p3 p4) s)
abbrev c7F:=(λp0 p1 p2 p3 p4 s=>P6 (c5m p0 p1 p2 p3 p4) s)
abbrev e2I:=om (λp0 p1 p2 p3 s=>P6 (e3H p0 p1 p2 p3) s)<| @D9
abbrev e1x:=om (λp0 p1 p2 p3 s=>P6 (e4K p0 p1 p2 p3) s)<| @D9
abbrev d5E:=(λp0 p1 p2 p3 p4 s=>P6 (c5z p0 p1 p2 p3 p4) s)
abbrev c2q:=om (λp0 p1 p2 p3 s=>P6 (e4A p0 p1 p2 p3) s)<| @D9
abbrev G72:=(λp0 p1 p2 p3 p4 p5 s=>P6 (e8K p0 p1 p2 p3 p4 p5) s)
abbrev G73:=om (λp0 p1 p2 p3 p4 p5 s=>P6 (f0f p0 p1 p2 p3 p4 p5) s)<| @D9
abbrev G75:=om (λp0 p1 p2 p3 p4 p5 p6 p7 s=>P6 (d1N p0 p1 p2 p3 p4 p5 p6 p7) s)<| @D9
abbrev c7g:=(λp0 p1 p2 p3 p4 s=>P6 (c9x p0 p1 p2 p3 p4) s)
abbrev e8T:=(λp0 p1 p2 p3 s=>P6 (e4N p0 p1 p2 p3) s)
abbrev b7L:=(λp0 p1 p2 p3 p4 p5 s=>P6 (e4o p0 p1 p2 p3 p4 p5) s)
abbrev d1U:=(λp0 p1 p2 p3 p4 s=>P6 (e3C p0 p1 p2 p3 p4) s)
abbrev b3q:=om (λp0 p1 p2 p3 p4 s=>P6 (e4e p0 p1 p2 p3 p4) s)<| @D9
abbrev c7y:=om (λp0 p1 p2 p3 p4 p5 s=>P6 (e3v p0 p1 p2 p3 p4 p5) s)<| @D9
abbrev G21:=(λp0 p1 p2 s=>P6 (f0n p0 p1 p2) s)
abbrev e0z:=(λp0 p1 p2 p3 p4 s=>P6 (c8J p0 p1 p2 p3 p4) s)
abbrev G27:=om (λp0 p1 p2 p3 s=>P6 (f0A p0 p1 p2 p3) s)<| @D9
abbrev G30:=om (λp0 p1 p2 p3 s=>P6 (e8D p0 p1 p2 p3) s)<| @D9
abbrev d3k:=(λp0 p1 p2 p3 p4 s=>P6 (c9u p0 p1 p2 p3 p4) s)
abbrev G62:=om (λp0 p1 p2 p3 p4 s=>P6 (e9y p0 p1 p2 p3 p4) s)<| @D9
abbrev c7X:=om (λp0 p1 p2 p3 p4 p5 s=>P6 (c8M p0 p1 p2 p3 p4 p5) s)<|(λp0 p1 p2 p3 p4 p5 s=>P6 (c8R p0 p1 p2 p3 p4 p5) s)
abbrev G77:=om (λp0 p1 p2 p3 s=>P6 (f0g p0 p1 p2 p3) s)<| @D9
abbrev c2c:=(λp0 p1 p2 p3 s=>P6 (e4w p0 p1 p2 p3) s)
abbrev c6K:=(λp0 p1 p2 p3 s=>P6 (e4x p0 p1 p2 p3) s)
abbrev c7H:=om (λp0 p1 p2 p3 p4 p5 s=>P6 (e6v p0 p1 p2 p3 p4 p5) s)<| @D9
abbrev gY:=om @M9<|om @b2H<|om @a1K<|om @b7x<|om @b8e<|om @b7z<|om @a0U<|om @a2q<|om @a5g<|om @a6g<|om @Q4<|om @N9<|om @G6<|om @G5<|om @Q3<|om @Q6<|om @Q7<|om @a6A<|om @l_0<|om @l_s<|om @a1J<|om @V8<|om @a4i<|om @c7f<|om @c6X<|om @c5R<|om @b5g<|om @b5z<|om @b5c<|om @b5w<|om @X8<|om @X0<|om @b3I<|om @b1V<|om @a7o<|om @b4v<|om @G7<|om @V4<|om @b3s<|om @b6W<|om @b7g<|om @c1b<|om @b7B<|om @W9<|om @a5d<|om @I7<|om @a9T<|om @R6<|om @a3N<|om @M4<|om @V9<|om @b1N<|om @b5F<|om @b2k<|om @a8A<|om @U9<|om @T9<|om @a4S<|om @R8<|om @b3j<|om @a3B<|om @b5i<|om @U7<|om @c3e<|om @c1S<|om @U0<|om @O5<|om @O4<|om @b5y<|om @a1t<|om @a1d<|om @a1k<|om @a0l<|om @a5c<|om @a5U<|om @a7s<|om @a3I<|om @a6E<|om @a5E<|om @a4h<|om @a6r<|om @a1I<|om @b0M<|om @a9h<|om @a9E<|om @b2D<|om @b1Q<|om @a7T<|om @a6Z<|om @X7<|om @a7g<|om @a9P<|om @a8E<|om @a5n<|om @a7x<|om @a5F<|om @a8v<|om @uk<|om @a1n<|om @a1s<|om @a4R<|om @a2g<|om @a5p<|om @a2I<|om @a6J<|om @Z5<|om @a1L<|om @a3w<|om @L8<|om @o7<|om @d9<|om @a2w<|om @a3g<|om @Y7<|om @a4L<|om @a0D<|om @Y5<|om @a6c<|om @wM<|om @vZ<|om @a3p<|om @b2f<|om @a1A<|om @a1X<|om @b7d<|om @c7e<|om @c9X<|om @c2a<|om @e9c<|om @e9g<|om @f0L<|om @e9T<|om @f0B<|om @f0i<| @e9M
section
attribute [local congr] q9 x8 A8 z8 D5 x9 D6 D8 D7
theorem At.to {U h0 sv fo ar ap lv q c c' h h' R P}(H:At U h0 sv fo ar ap lv q c h R P)(hc:c<=c')(hs:∀i,i<c->h'.get i=h.get i):At U h0 sv fo ar ap lv q c' h' R P:=⟨λi hi=>⟨wY (H.u i hi).1 hc,(H.u i hi).2.1,(H.u i hi).2.2.1,(hs i (H.u i hi).1).trans (H.u i hi).2.2.2⟩,wY H.r hc,wY H.p hc,H.ne,(hs ar H.r).trans H.hr,(hs ap H.p).trans H.hp⟩
theorem At.setP {U h0 sv fo ar ap lv q c c' h h' R P P'}(H:At U h0 sv fo ar ap lv q c h R P)(hc:c<=c')(hs:∀i,i<c->i≠ap->h'.get i=h.get i)(hp:h'.get ap=some (.cells (H7 sv fo P') 0 false)):At U h0 sv fo ar ap lv q c' h' R P':=⟨λi hi=>⟨wY (H.u i hi).1 hc,(H.u i hi).2.1,(H.u i hi).2.2.1,(hs i (H.u i hi).1 (H.u i hi).2.2.1).trans (H.u i hi).2.2.2⟩,wY H.r hc,wY H.p hc,H.ne,(hs ar H.r H.ne).trans H.hr,hp⟩
def a8c (F:Nat->List (Value×Value))(L:List (List UInt8))(kv:Value)(fd:List UInt8->Nat×Nat):Prop:=(kv=.int .i64 (.negSucc 0)/\fd=L9 L)\/∃k,k<9/\kv=.int .i64 (.ofNat k)/\fd=a0k (F k)
theorem dm1 (k):decide (Int.ofNat k=Int.negSucc 0)=false:=by rw[uq];simp_all
section
variable {U:Nat->Prop}{h0:Trie VObj}{sv fo:Value}{F:Nat->List (Value×Value)}{L:List (List UInt8)}{ar ap:Nat}{lv:Sl}{q c:Nat}{h:Trie VObj}{R:RV}{P:PV}
theorem c2r (E:Env U h0 sv F L)(m){kv fd}(hk:a8c F L kv fd)(H:At U h0 sv fo ar ap lv q c h R P)(n nl)(hT:n.t.length<1800000)(r w):l9 (go (o8 A9 (m+3) 185 [.pointer (some ⟨ar,0,some 0⟩),ndV n nl,kv]) ⟨c,h,r,w⟩) λx s=>c<=s.c/\(∀i,i<c->i≠ap->s.h.get i=h.get i)/\(((fd n.t).2=0/\x=.ret (.tuple ⟨[.int .i64 (.ofNat (fd n.t).1),.bool true]⟩)/\At U h0 sv fo ar ap lv q s.c s.h R P)\/((fd n.t).2≠0/\x=.ret (.tuple ⟨[.int .i64 (.ofNat 0),.bool false]⟩)/\At U h0 sv fo ar ap lv q s.c s.h R {P with p:=n.p,e:=(fd n.t).2})):=by
 have hr:=H.hr;have hp:=H.hp;have a1:=H.r;have a2:=H.p;have a3:=H.ne;have a4:ap≠ar:=λe=>H.ne e.symm;have a5:ar≠c:=zy;have a6:ap≠c:=zy;have hU:∀i,U i->i<c+1:=λi hi=>sZ (H.u i hi).1;have hA:∀o,AgU U (V.upd h c o) h0:=λo=>AgU.upd (λi hi=>(H.u i hi).2.2.2) (λhc=>vJ _ (H.u c hc).1);rw[e0H];rcases hk with⟨rfl,rfl⟩|⟨k,hk9,rfl,rfl⟩;obtain⟨z,hz⟩:=d5f E (m+1) hT;have hz':=λo r w=>hz (c+1) (V.upd h c o) r w hU (hA o);cases q1:decide ((L9 L n.t).2=0)with|true=>simp(disch:=try exact dz)only[c7y,ndV,hr,J9,hp,H7,hz',J5,q1,↓gP,gY,gT];refine l9.done ⟨wZ c,λi hi _=>?_,Or.inl ⟨wP q1,rfl,H.to (wZ c) λi hi=>?_⟩⟩;grind[d9];grind[d9]|false=>simp(disch:=try exact dz)only[c7y,G72,X5,ndV,hr,J9,hp,H7,hz',J5,q1,↓gP,gY,gT];refine l9.done ⟨wZ c,λi hi hp=>?_,Or.inr ⟨vR q1,rfl,H.setP (wZ c) (λi hi hp=>?_) ?_⟩⟩;grind[d9];grind[d9];grind[o7,H7]
 obtain⟨z,hz⟩:=e2F E (m+1) hk9 hT;have hz':=λo r w=>hz (c+1) (V.upd h c o) r w hU (hA o);cases q1:decide ((a0k (F k) n.t).2=0)with|true=>simp(disch:=try exact dz)only[c7y,ndV,dm1,hr,J9,hp,H7,hz',J5,q1,↓gP,gY,gT];refine l9.done ⟨wZ c,λi hi _=>?_,Or.inl ⟨wP q1,rfl,H.to (wZ c) λi hi=>?_⟩⟩;grind[d9];grind[d9]|false=>simp(disch:=try exact dz)only[c7y,G72,X5,ndV,dm1,hr,J9,hp,H7,hz',J5,q1,↓gP,gY,gT];refine l9.done ⟨wZ c,λi hi hp=>?_,Or.inr ⟨vR q1,rfl,H.setP (wZ c) (λi hi hp=>?_) ?_⟩⟩;grind[d9];grind[d9];grind[o7,H7]
end
theorem At.setR {U h0 sv fo ar ap lv q c c' h h' R R' P}(H:At U h0 sv fo ar ap lv q c h R P)(hc:c<=c')(hs:∀i,i<c->i≠ar->h'.get i=h.get i)(hr:h'.get ar=some (.cells (J9 ap lv q R') 0 false)):At U h0 sv fo ar ap lv q c' h' R' P:=⟨λi hi=>⟨wY (H.u i hi).1 hc,(H.u i hi).2.1,(H.u i hi).2.2.1,(hs i (H.u i hi).1 (H.u i hi).2.1).trans (H.u i hi).2.2.2⟩,wY H.r hc,wY H.p hc,H.ne,hr,(hs ap H.p (λe=>H.ne e.symm)).trans H.hp⟩
inductive Ix where
 | ok (k:Nat)
 | er (p e:Nat)
def M8 (fd:List UInt8->Nat×Nat)(l:List Nd)(q i:Nat):Ix:=match l[i]? with|none=>.er q 4|some n=>bcase (Z0 n.k n.t) (bcase (decide ((fd n.t).2=0)) (.ok (fd n.t).1) (.er n.p (fd n.t).2)) (.er n.p 4)
section
variable {U:Nat->Prop}{h0:Trie VObj}{sv fo:Value}{F:Nat->List (Value×Value)}{L:List (List UInt8)}{ar ap:Nat}{lv:Sl}{q c:Nat}{h:Trie VObj}{R:RV}{P:PV}{l:List Nd}
theorem a0Q (m)(H:At U h0 sv fo ar ap lv q c h R P)(hl:NdL U h0 lv l){n}(hi:l[R.i]?=some n):∃(z y:List Nat->List Nat) (o1 o2:VObj) (nl:Sl),NdL U h0 nl n.l/\n.t.length<1800000/\∀r w,go (o8 A9 (m+1) 138 [.pointer (some ⟨ar,0,some 0⟩)]) ⟨c,h,r,w⟩=some (.ret (.tuple ⟨[.agg ⟨[.int .i64 (.ofNat n.k),.int .i64 (.ofNat n.p),.string ⟨⟨n.t⟩⟩,.slice (Sl.a nl) nl.n nl.e]⟩,.bool true]⟩),⟨c+1,V.upd (V.upd h c o1) c o2,z r,y w⟩):=by have hr:=H.hr;have a1:=H.r;have a5:ar≠c:=zy;obtain⟨b,p,g,cs,cur,ro,nl,hb,hg,hn,hT,e1,e2,e3,e4,e5,e6⟩:=hl.get hi;obtain⟨u1,u2,u3,u4⟩:=H.u b hb;have hg':=u4.trans hg;have a6:b≠c:=zy;have hlen:=hl.len.1;have hlt:R.i<l.length:=(xC.1 hi).1;rw[hlen]at e1;have d1:decide (l.length<=R.i)=false:=zT;have e0:=U7 lv.a l.length lv.e;apply Exists.intro;apply Exists.intro;apply Exists.intro;apply Exists.intro;refine⟨nl,hn,hT,λr w=>?_⟩;rw[c9j];simp(disch:=try exact dz)only[e2I,hr,J9,hlen,e0,dle,d1,e1,e2,hg',↓gP,gY];rfl
theorem a0R (m)(H:At U h0 sv fo ar ap lv q c h R P)(hl:NdL U h0 lv l)(hi:l[R.i]?=none):∃(z y:List Nat->List Nat) (o1 o2:VObj),∀r w,go (o8 A9 (m+1) 138 [.pointer (some ⟨ar,0,some 0⟩)]) ⟨c,h,r,w⟩=some (.ret (.tuple ⟨[.agg ⟨[.int .i64 (.ofNat 0),.int .i64 (.ofNat 0),.string ⟨⟨[]⟩⟩,.slice none 0 0]⟩,.bool false]⟩),⟨c+1,V.upd (V.upd h c o1) c o2,z r,y w⟩):=by
 have hr:=H.hr;have a1:=H.r;have a5:ar≠c:=zy;have hlen:=hl.len.1;have hlt:l.length<=R.i:=by simpa using hi
 have d1:decide (l.length<=R.i)=true:=by rw[uz];exact hlt
 have e0:=U7 lv.a l.length lv.e;apply Exists.intro;apply Exists.intro;apply Exists.intro;apply Exists.intro;intro r w;rw[c9j];simp(disch:=try exact dz)only[e2I,hr,J9,hlen,e0,dle,d1,↓gP,gY];rfl
theorem e0g (E:Env U h0 sv F L)(m){kv fd}(hk:a8c F L kv fd)(H:At U h0 sv fo ar ap lv q c h R P)(hl:NdL U h0 lv l)(r w):l9 (go (o8 A9 (m+5) 183 [.pointer (some ⟨ar,0,some 0⟩),kv,.pointer (some ⟨ar,5,some 0⟩)]) ⟨c,h,r,w⟩) λx s=>(∃k,M8 fd l q R.i=.ok k/\x=.ret (.bool true)/\Fin U h0 sv fo ar ap lv q c h P (.ok {R with i:=R.i+1,A:=k}) s)\/(∃p e,M8 fd l q R.i=.er p e/\x=.ret (.bool false)/\Fin U h0 sv fo ar ap lv q c h P (.er p e) s):=by
 have hr:=H.hr;have hp:=H.hp;have a1:=H.r;have a2:=H.p;have a3:=H.ne;have a4:ap≠ar:=λe=>H.ne e.symm;have a5:ar≠c:=zy;have a6:ap≠c:=zy;have a7:ar≠c+1:=zy;have a8:ap≠c+1:=zy;have hlen:=hl.len.1;have e0:=U7 lv.a l.length lv.e;rw[c3x];cases hi:l[R.i]? with
  |none=>
   obtain⟨z,y,o1,o2,hm⟩:=a0R (m+3) H hl hi;have hlt:l.length<=R.i:=by simpa using hi
   have d1:decide (R.i<l.length)=false:=zT;have eS:M8 fd l q R.i=.er q 4:=by unfold M8;rw[hi]
   simp(disch:=try exact dz)only[b2q,hm,hr,hp,J9,H7,a1a,a3b,X5,G72,hlen,e0,X6,d1,↓gP,gY,gT];refine l9.done ?_;refine Or.inr ⟨_,_,eS,rfl,zV,λi hi h1 h2=>?_,R,H.setP zV (λi hi hp=>?_) ?_,λR1 e=>zi⟩;simp(disch:=try exact xE)only[d9];simp(disch:=try exact xE)only[d9];simp(disch:=try exact xE)only[o7,H7,Rs.P]|some n=>obtain⟨z,y,o1,o2,nl,hn,hT,hm⟩:=a0Q (m+3) H hl hi;have hlt:R.i<l.length:=(xC.1 hi).1;have d1:decide (R.i<l.length)=true:=zQ;have hinc:=G9 R.i xx;cases q1:Z0 n.k n.t with|false=>have eS:M8 fd l q R.i=.er n.p 4:=yO;obtain⟨b,p,g,cs,cur,ro,nl',hb,hg,_,_,e1,e2,e3,e4,e5,e6⟩:=hl.get hi;obtain⟨u1,u2,u3,u4⟩:=H.u b hb;have hg':=u4.trans hg;rw[hlen]at e1;have b1:b≠c:=zy;have b2:b≠c+1:=zy;simp(disch:=try exact dz)only[b2q,hm,a1S,q1,hr,hp,J9,H7,a1a,a3b,X5,G72,hlen,e0,X6,d1,e1,e4,hg',↓gP,gY,gT];refine l9.done ?_;refine Or.inr ⟨_,_,eS,rfl,zV,λi hi h1 h2=>?_,R,H.setP zV (λi hi hp=>?_) ?_,λR1 e=>zi⟩;simp(disch:=try exact xE)only[d9];simp(disch:=try exact xE)only[d9];simp(disch:=try exact xE)only[o7,H7,Rs.P]|true=>simp(disch:=try exact dz)only[b2q,hm,a1S,q1,↓gP,gY,gT];refine l9.bindC (c2r E (m+1) hk (H.to ?_ λi hi=>?_) n nl hT _ _) λx s hq=>?_;omega;simp(disch:=try exact xE)only[d9];obtain⟨c',h',r',w'⟩:=s;obtain⟨hc,hs,⟨q2,rfl,H'⟩|⟨q2,rfl,H'⟩⟩:=hq;have eS:M8 fd l q R.i=.ok (fd n.t).1:=xW;have hr':=H'.hr;simp only at hc hs hr';have c1:=H'.r;simp only at c1;simp(disch:=try exact dz)only[hr',J9,hinc,↓gP,gY];refine l9.done ?_;refine Or.inl ⟨_,eS,rfl,zV,λi hi h1 h2=>?_,_,H'.setR (xD _) (λi hi hp=>?_) ?_,λR1 e=>zY⟩;have:=hs i zy h2;simp(disch:=try exact xE)only[d9]at this⊢;exact this;simp(disch:=try exact xE)only[d9];simp(disch:=try exact xE)only[o7,J9];have eS:M8 fd l q R.i=.er n.p (fd n.t).2:=xX;have hr':=H'.hr;simp only at hc hs hr';have c1:=H'.r;simp only at c1;simp(disch:=try exact dz)only[hr',J9,hinc,↓gP,gY];refine l9.done ?_;refine Or.inr ⟨_,_,eS,rfl,zV,λi hi h1 h2=>?_,{R with i:=R.i+1,A:=0},H'.setR (xD _) (λi hi hp=>?_) ?_,λR1 e=>zi⟩;have:=hs i zy h2;simp(disch:=try exact xE)only[d9]at this⊢;exact this;simp(disch:=try exact xE)only[d9];simp(disch:=try exact xE)only[o7,J9]
theorem e2K (E:Env U h0 sv F L)(m){kv fd}(hk:a8c F L kv fd)(H:At U h0 sv fo ar ap lv q c h R P)(hl:NdL U h0 lv l)(r w):l9 (go (o8 A9 (m+5) 183 [.pointer (some ⟨ar,0,some 0⟩),kv,.pointer (some ⟨ar,6,some 0⟩)]) ⟨c,h,r,w⟩) λx s=>(∃k,M8 fd l q R.i=.ok k/\x=.ret (.bool true)/\Fin U h0 sv fo ar ap lv q c h P (.ok {R with i:=R.i+1,B:=k}) s)\/(∃p e,M8 fd l q R.i=.er p e/\x=.ret (.bool false)/\Fin U h0 sv fo ar ap lv q c h P (.er p e) s):=by
 have hr:=H.hr;have hp:=H.hp;have a1:=H.r;have a2:=H.p;have a3:=H.ne;have a4:ap≠ar:=λe=>H.ne e.symm;have a5:ar≠c:=zy;have a6:ap≠c:=zy;have a7:ar≠c+1:=zy;have a8:ap≠c+1:=zy;have hlen:=hl.len.1;have e0:=U7 lv.a l.length lv.e;rw[c3x];cases hi:l[R.i]? with
  |none=>
   obtain⟨z,y,o1,o2,hm⟩:=a0R (m+3) H hl hi;have hlt:l.length<=R.i:=by simpa using hi
   have d1:decide (R.i<l.length)=false:=zT;have eS:M8 fd l q R.i=.er q 4:=by unfold M8;rw[hi]
   simp(disch:=try exact dz)only[b2q,hm,hr,hp,J9,H7,a1a,a3b,X5,G72,hlen,e0,X6,d1,↓gP,gY,gT];refine l9.done ?_;refine Or.inr ⟨_,_,eS,rfl,zV,λi hi h1 h2=>?_,R,H.setP zV (λi hi hp=>?_) ?_,λR1 e=>zi⟩;simp(disch:=try exact xE)only[d9];simp(disch:=try exact xE)only[d9];simp(disch:=try exact xE)only[o7,H7,Rs.P]|some n=>obtain⟨z,y,o1,o2,nl,hn,hT,hm⟩:=a0Q (m+3) H hl hi;have hlt:R.i<l.length:=(xC.1 hi).1;have d1:decide (R.i<l.length)=true:=zQ;have hinc:=G9 R.i xx;cases q1:Z0 n.k n.t with|false=>have eS:M8 fd l q R.i=.er n.p 4:=yO;obtain⟨b,p,g,cs,cur,ro,nl',hb,hg,_,_,e1,e2,e3,e4,e5,e6⟩:=hl.get hi;obtain⟨u1,u2,u3,u4⟩:=H.u b hb;have hg':=u4.trans hg;rw[hlen]at e1;have b1:b≠c:=zy;have b2:b≠c+1:=zy;simp(disch:=try exact dz)only[b2q,hm,a1S,q1,hr,hp,J9,H7,a1a,a3b,X5,G72,hlen,e0,X6,d1,e1,e4,hg',↓gP,gY,gT];refine l9.done ?_;refine Or.inr ⟨_,_,eS,rfl,zV,λi hi h1 h2=>?_,R,H.setP zV (λi hi hp=>?_) ?_,λR1 e=>zi⟩;simp(disch:=try exact xE)only[d9];simp(disch:=try exact xE)only[d9];simp(disch:=try exact xE)only[o7,H7,Rs.P]|true=>simp(disch:=try exact dz)only[b2q,hm,a1S,q1,↓gP,gY,gT];refine l9.bindC (c2r E (m+1) hk (H.to ?_ λi hi=>?_) n nl hT _ _) λx s hq=>?_;omega;simp(disch:=try exact xE)only[d9];obtain⟨c',h',r',w'⟩:=s;obtain⟨hc,hs,⟨q2,rfl,H'⟩|⟨q2,rfl,H'⟩⟩:=hq;have eS:M8 fd l q R.i=.ok (fd n.t).1:=xW;have hr':=H'.hr;simp only at hc hs hr';have c1:=H'.r;simp only at c1;simp(disch:=try exact dz)only[hr',J9,hinc,↓gP,gY];refine l9.done ?_;refine Or.inl ⟨_,eS,rfl,zV,λi hi h1 h2=>?_,_,H'.setR (xD _) (λi hi hp=>?_) ?_,λR1 e=>zY⟩;have:=hs i zy h2;simp(disch:=try exact xE)only[d9]at this⊢;exact this;simp(disch:=try exact xE)only[d9];simp(disch:=try exact xE)only[o7,J9];have eS:M8 fd l q R.i=.er n.p (fd n.t).2:=xX;have hr':=H'.hr;simp only at hc hs hr';have c1:=H'.r;simp only at c1;simp(disch:=try exact dz)only[hr',J9,hinc,↓gP,gY];refine l9.done ?_;refine Or.inr ⟨_,_,eS,rfl,zV,λi hi h1 h2=>?_,{R with i:=R.i+1,B:=0},H'.setR (xD _) (λi hi hp=>?_) ?_,λR1 e=>zi⟩;have:=hs i zy h2;simp(disch:=try exact xE)only[d9]at this⊢;exact this;simp(disch:=try exact xE)only[d9];simp(disch:=try exact xE)only[o7,J9]
end
def a6P (R:RV):Ix->Rs|.ok k=>.ok {R with i:=R.i+1,A:=k}|.er p e=>.er p e
def b1D (R:RV):Ix->Rs|.ok k=>.ok {R with i:=R.i+1,B:=k}|.er p e=>.er p e
def Rs.then (x:Rs)(f:RV->Rs):Rs:=match x with|.ok R=>f R|.er p e=>.er p e
def isI (l:List Nd)(i:Nat):Bool:=match l[i]? with|some n=>Z0 n.k n.t|none=>false
structure EndR (U:Nat→Prop) (h0:Trie VObj) (sv fo:Value) (ar ap:Nat) (lv:Sl) (q c:Nat) (h:Trie VObj) (P:PV) (rs:Rs) (x:CR) (s:V.S):Prop where
 x:x=.ret (.bool rs.b)
 f:Fin U h0 sv fo ar ap lv q c h P rs s
theorem Fin.of_to {U h0 sv fo ar ap lv q c c1 h h1 P rs s}(H:Fin U h0 sv fo ar ap lv q c1 h1 P rs s)(hc:c<=c1)(hs:∀i,i<c->i≠ar->i≠ap->h1.get i=h.get i):Fin U h0 sv fo ar ap lv q c h P rs s:=⟨wL hc H.le,λi h1 h2 h3=>(H.same i (wY h1 hc) h2 h3).trans (hs i h1 h2 h3),H.at'⟩
section
variable {U:Nat->Prop}{h0:Trie VObj}{sv fo:Value}{F:Nat->List (Value×Value)}{L:List (List UInt8)}{ar ap:Nat}{lv:Sl}{q c:Nat}{h:Trie VObj}{R:RV}{P:PV}{l:List Nd}
theorem a5r (E:Env U h0 sv F L)(m){kv fd}(hk:a8c F L kv fd)(H:At U h0 sv fo ar ap lv q c h R P)(hl:NdL U h0 lv l)(r w):l9 (go (o8 A9 (m+5) 183 [.pointer (some ⟨ar,0,some 0⟩),kv,.pointer (some ⟨ar,5,some 0⟩)]) ⟨c,h,r,w⟩) (EndR U h0 sv fo ar ap lv q c h P (a6P R (M8 fd l q R.i))):=(e0g E m hk H hl r w).mono λx s hq=>xZ
theorem c2K (E:Env U h0 sv F L)(m){kv fd}(hk:a8c F L kv fd)(H:At U h0 sv fo ar ap lv q c h R P)(hl:NdL U h0 lv l)(r w):l9 (go (o8 A9 (m+5) 183 [.pointer (some ⟨ar,0,some 0⟩),kv,.pointer (some ⟨ar,6,some 0⟩)]) ⟨c,h,r,w⟩) (EndR U h0 sv fo ar ap lv q c h P (b1D R (M8 fd l q R.i))):=(e2K E m hk H hl r w).mono λx s hq=>xZ
def b5n (fd:List UInt8->Nat×Nat)(l:List Nd)(q:Nat)(R:RV):Rs:=bcase (isI l R.i) (a6P R (M8 fd l q R.i)) (.ok R)
theorem d7I (E:Env U h0 sv F L)(m){kv fd}(hk:a8c F L kv fd)(H:At U h0 sv fo ar ap lv q c h R P)(hl:NdL U h0 lv l)(r w):l9 (go (o8 A9 (m+6) 143 [.pointer (some ⟨ar,0,some 0⟩),kv,.pointer (some ⟨ar,5,some 0⟩)]) ⟨c,h,r,w⟩) (EndR U h0 sv fo ar ap lv q c h P (b5n fd l q R)):=by have hr:=H.hr;have hp:=H.hp;have a1:=H.r;have a2:=H.p;have a3:=H.ne;have a4:ap≠ar:=λe=>H.ne e.symm;have a5:ar≠c:=zy;have a6:ap≠c:=zy;have a7:ar≠c+1:=zy;have a8:ap≠c+1:=zy;rw[c9N];unfold b5n isI;cases hi:l[R.i]? with|none=>obtain⟨z,y,o1,o2,hm⟩:=a0R (m+4) H hl hi;simp(disch:=try exact dz)only[b7L,hm,↓gP,gY,gT];refine l9.done ⟨rfl,zu,λi hi h1 h2=>?_,R,H.to zu (λi hi=>?_),λR1 e=>zY⟩;grind[d9];grind[d9]|some n=>obtain⟨z,y,o1,o2,nl,hn,hT,hm⟩:=a0Q (m+4) H hl hi;simp only;cases q1:Z0 n.k n.t with|false=>simp(disch:=try exact dz)only[b7L,hm,a1S,q1,↓gP,gY,gT];refine l9.done ⟨rfl,zu,λi hi h1 h2=>?_,R,H.to zu (λi hi=>?_),λR1 e=>zY⟩;grind[d9];grind[d9]|true=>simp(disch:=try exact dz)only[b7L,hm,a1S,q1,↓gP,gY,gT];refine l9.bindC (a5r E m hk (H.to ?_ λi hi=>?_) hl _ _) λx s hq=>?_;omega;grind[d9];obtain⟨rfl,hF⟩:=hq;simp(disch:=try exact dz)only[gY];refine l9.done ⟨rfl,hF.of_to zy λi hi h1 h2=>?_⟩;grind[d9]
def a4J (fd:List UInt8->Nat×Nat)(l:List Nd)(q:Nat)(R:RV):Rs:=bcase (isI l R.i) (b1D R (M8 fd l q R.i)) (.ok R)
theorem c1X (E:Env U h0 sv F L)(m){kv fd}(hk:a8c F L kv fd)(H:At U h0 sv fo ar ap lv q c h R P)(hl:NdL U h0 lv l)(r w):l9 (go (o8 A9 (m+6) 143 [.pointer (some ⟨ar,0,some 0⟩),kv,.pointer (some ⟨ar,6,some 0⟩)]) ⟨c,h,r,w⟩) (EndR U h0 sv fo ar ap lv q c h P (a4J fd l q R)):=by have hr:=H.hr;have hp:=H.hp;have a1:=H.r;have a2:=H.p;have a3:=H.ne;have a4:ap≠ar:=λe=>H.ne e.symm;have a5:ar≠c:=zy;have a6:ap≠c:=zy;have a7:ar≠c+1:=zy;have a8:ap≠c+1:=zy;rw[c9N];unfold a4J isI;cases hi:l[R.i]? with|none=>obtain⟨z,y,o1,o2,hm⟩:=a0R (m+4) H hl hi;simp(disch:=try exact dz)only[b7L,hm,↓gP,gY,gT];refine l9.done ⟨rfl,zu,λi hi h1 h2=>?_,R,H.to zu (λi hi=>?_),λR1 e=>zY⟩;grind[d9];grind[d9]|some n=>obtain⟨z,y,o1,o2,nl,hn,hT,hm⟩:=a0Q (m+4) H hl hi;simp only;cases q1:Z0 n.k n.t with|false=>simp(disch:=try exact dz)only[b7L,hm,a1S,q1,↓gP,gY,gT];refine l9.done ⟨rfl,zu,λi hi h1 h2=>?_,R,H.to zu (λi hi=>?_),λR1 e=>zY⟩;grind[d9];grind[d9]|true=>simp(disch:=try exact dz)only[b7L,hm,a1S,q1,↓gP,gY,gT];refine l9.bindC (c2K E m hk (H.to ?_ λi hi=>?_) hl _ _) λx s hq=>?_;omega;grind[d9];obtain⟨rfl,hF⟩:=hq;simp(disch:=try exact dz)only[gY];refine l9.done ⟨rfl,hF.of_to zy λi hi h1 h2=>?_⟩;grind[d9]
end
variable {mL:Int}
section
variable {U:Nat->Prop}{h0:Trie VObj}{sv fo:Value}{F:Nat->List (Value×Value)}{L:List (List UInt8)}{ar ap:Nat}{lv:Sl}{q c:Nat}{h:Trie VObj}{R:RV}{P:PV}{l:List Nd}
def b5E (fd:List UInt8→Nat×Nat) (l:List Nd) (q:Nat) (R:RV):Rs:=bcase (isI l R.i) ((a6P R (M8 fd l q R.i)).then fun R1=>b1D R1 (M8 fd l q R1.i)) (.ok R)
theorem e0x (E:Env U h0 sv F L)(m){kv fd}(hk:a8c F L kv fd)(H:At U h0 sv fo ar ap lv q c h R P)(hl:NdL U h0 lv l)(r w):l9 (go (o8 A9 (m+6) 145 [.pointer (some ⟨ar,0,some 0⟩),kv]) ⟨c,h,r,w⟩) (EndR U h0 sv fo ar ap lv q c h P (b5E fd l q R)):=by
 have hr:=H.hr;have hp:=H.hp;have a1:=H.r;have a2:=H.p;have a3:=H.ne;have a4:ap≠ar:=λe=>H.ne e.symm;have a5:ar≠c:=zy;have a6:ap≠c:=zy;have a7:ar≠c+1:=zy;have a8:ap≠c+1:=zy;rw[d9q];unfold b5E isI;cases hi:l[R.i]? with
  |none=>obtain⟨z,y,o1,o2,hm⟩:=a0R (m+4) H hl hi;simp(disch:=try exact dz)only[d1U,hm,↓gP,gY,gT,Nat.reduceAdd];refine l9.done ⟨rfl,zV,λi hi h1 h2=>?_,R,H.to zV (λi hi=>?_),λR1 e=>zY⟩;simp(disch:=try exact xE)only[d9];simp(disch:=try exact xE)only[d9]|some n=>
   obtain⟨z,y,o1,o2,nl,hn,hT,hm⟩:=a0Q (m+4) H hl hi;simp only;cases q1:Z0 n.k n.t with
    |false=>simp(disch:=try exact dz)only[d1U,hm,a1S,q1,↓gP,gY,gT,Nat.reduceAdd];refine l9.done ⟨rfl,zV,λi hi h1 h2=>?_,R,H.to zV (λi hi=>?_),λR1 e=>zY⟩;simp(disch:=try exact xE)only[d9];simp(disch:=try exact xE)only[d9]|true=>
     simp(disch:=try exact dz)only[d1U,hm,a1S,q1,↓gP,gY,gT,Nat.reduceAdd];refine l9.bindC (a5r E m hk (H.to ?_ λi hi=>?_) hl _ _) λx s hq=>?_;omega;simp(disch:=try exact xE)only[d9];obtain⟨rfl,hF⟩:=hq;obtain⟨c',h',r',w'⟩:=s;have hc:=hF.le;have hs:=hF.same;simp only at hc hs;have hs':∀i,i<c->i≠ar->i≠ap->h'.get i=h.get i:=λi h1 h2 h3=>by have:=hs i zy h2 h3;simp(disch:=try exact xE)only[d9]at this;exact this
     cases e1:a6P R (M8 fd l q R.i)with|er p e=>rw[e1]at hF;simp(disch:=try exact dz)only[Rs.b,↓gP,gY];exact l9.done ⟨rfl,⟨zV,λi h1 h2 h3=>hs' i h1 h2 h3,hF.at'⟩⟩|ok R1=>rw[e1]at hF;obtain⟨R',H',hR⟩:=hF.at';obtain rfl:=hR R1 rfl;simp(disch:=try exact dz)only[Rs.b,↓gP,gY,Nat.reduceAdd];refine l9.bindC (c2K E m hk (H':At U h0 sv fo ar ap lv q _ _ _ P) hl _ _) λx s hq=>?_;obtain⟨rfl,hF2⟩:=hq;simp(disch:=try exact dz)only[↓gP,gY];exact l9.done ⟨rfl,hF2.of_to zV hs'⟩
def a8q (fd1 fd2:List UInt8→Nat×Nat) (l:List Nd) (q:Nat) (R:RV):Rs:=bcase (isI l R.i && isI l (R.i+1)) ((b1D R (M8 fd1 l q R.i)).then fun R1=>a6P R1 (M8 fd2 l q R1.i)) (a6P R (M8 fd2 l q R.i))
theorem t146 (hRi:R.i<4294967296)(E:Env U h0 sv F L)(m){kv1 kv2 fd1 fd2}(hk1:a8c F L kv1 fd1)(hk2:a8c F L kv2 fd2)(H:At U h0 sv fo ar ap lv q c h R P)(hl:NdL U h0 lv l)(r w):l9 (go (o8 A9 (m+6) 146 [.pointer (some ⟨ar,0,some 0⟩),kv1,kv2]) ⟨c,h,r,w⟩) (EndR U h0 sv fo ar ap lv q c h P (a8q fd1 fd2 l q R)):=by
 have hr:=H.hr;have hp:=H.hp;have a1:=H.r;have a2:=H.p;have a3:=H.ne;have a4:ap≠ar:=λe=>H.ne e.symm;have a5:ar≠c:=zy;have a6:ap≠c:=zy;have a7:ar≠c+1:=zy;have a8:ap≠c+1:=zy;rw[e2k];have hlen:=hl.len.1;have e0:=U7 lv.a l.length lv.e;unfold a8q;cases hi2:l[R.i+1]? with
  |none=>
   have hlt:l.length<=R.i+1:=by simpa using hi2
   have d1:decide (R.i+1<l.length)=false:=zT;have eI:isI l (R.i+1)=false:=by unfold isI;rw[hi2]
   have hinc:N8 .i64 (Int.ofNat R.i+Int.ofNat 1)=Int.ofNat (R.i+1):=G9 R.i hRi;rw[eI,uM,F7];simp(disch:=try exact dz)only[c7H,hr,J9,hlen,e0,hinc,X6,d1,↓gP,gY,Nat.reduceAdd];refine l9.bindC (a5r E m hk2 H hl _ _) λx s hq=>?_;obtain⟨rfl,hF⟩:=hq;simp(disch:=try exact dz)only[gY];exact l9.done ⟨rfl,hF⟩|some n2=>
   have hlt:R.i+1<l.length:=(xC.1 hi2).1;have d1:decide (R.i+1<l.length)=true:=zQ;have hinc:=G9 R.i xx;obtain⟨n1,hi1⟩:∃n1,l[R.i]?=some n1:=⟨_,wz zy⟩;obtain⟨b,p,g,cs,cur,ro,nl1,hb,hg,hn1,hT1,e1,e2,_⟩:=hl.get hi1;obtain⟨u1,u2,u3,u4⟩:=H.u b hb;have hg':=u4.trans hg;rw[hlen]at e1;obtain⟨b',p',g',cs',cur',ro',nl2,hb',hgb,hn2,hT2,f1,f2,_⟩:=hl.get hi2;obtain⟨v1,v2,v3,v4⟩:=H.u b' hb';have hgb':=v4.trans hgb;rw[hlen]at f1;unfold isI;rw[hi1,hi2];simp only;cases q1:Z0 n1.k n1.t with
    |false=>simp(disch:=try exact dz)only[c7H,hr,J9,hlen,e0,hinc,X6,d1,e1,e2,hg',a1S,q1,↓gP,gY,gT,Nat.reduceAdd];refine l9.bindC (a5r E m hk2 H hl _ _) λx s hq=>?_;obtain⟨rfl,hF⟩:=hq;simp(disch:=try exact dz)only[gY];exact l9.done ⟨rfl,hF⟩|true=>
     cases q2:Z0 n2.k n2.t with
      |false=>simp(disch:=try exact dz)only[c7H,hr,J9,hlen,e0,hinc,X6,d1,e1,e2,hg',f1,f2,hgb',a1S,q1,q2,↓gP,gY,gT,Nat.reduceAdd];refine l9.bindC (a5r E m hk2 H hl _ _) λx s hq=>?_;obtain⟨rfl,hF⟩:=hq;simp(disch:=try exact dz)only[gY];exact l9.done ⟨rfl,hF⟩|true=>
       simp(disch:=try exact dz)only[c7H,hr,J9,hlen,e0,hinc,X6,d1,e1,e2,hg',f1,f2,hgb',a1S,q1,q2,↓gP,gY,Nat.reduceAdd];refine l9.bindC (c2K E m hk1 H hl _ _) λx s hq=>?_;obtain⟨rfl,hF⟩:=hq;obtain⟨c',h',r',w'⟩:=s;have hc:=hF.le;have hs:=hF.same;simp only at hc hs;have hs':∀i,i<c->i≠ar->i≠ap->h'.get i=h.get i:=λi h1 h2 h3=>by exact hs i h1 h2 h3
       cases e1:b1D R (M8 fd1 l q R.i)with|er p e=>rw[e1]at hF;simp(disch:=try exact dz)only[Rs.b,↓gP,gY];exact l9.done ⟨rfl,⟨zV,λi h1 h2 h3=>hs' i h1 h2 h3,hF.at'⟩⟩|ok R1=>rw[e1]at hF;obtain⟨R',H',hR⟩:=hF.at';obtain rfl:=hR R1 rfl;simp(disch:=try exact dz)only[Rs.b,↓gP,gY,Nat.reduceAdd];refine l9.bindC (a5r E m hk2 (H':At U h0 sv fo ar ap lv q _ _ _ P) hl _ _) λx s hq=>?_;obtain⟨rfl,hF2⟩:=hq;simp(disch:=try exact dz)only[↓gP,gY];exact l9.done ⟨rfl,hF2.of_to zV hs'⟩
theorem t141 (E:Env U h0 sv F L)(m)(hop:a3M (.ofNat R.op)=true){fd}(hj:(P9 (.ofNat R.op)=2/\fd=L9 L)\/(P9 (.ofNat R.op)=4/\fd=a0k (F 1))\/(P9 (.ofNat R.op)=7/\fd=a0k (F 7))\/(P9 (.ofNat R.op)=8/\fd=a0k (F 4))\/(P9 (.ofNat R.op)=12/\fd=a0k (F 5))\/(P9 (.ofNat R.op)=16/\fd=a0k (F 6)))(H:At U h0 sv fo ar ap lv q c h R P)(hl:NdL U h0 lv l)(r w):l9 (go (o8 A9 (m+6) 141 [.pointer (some ⟨ar,0,some 0⟩)]) ⟨c,h,r,w⟩) (EndR U h0 sv fo ar ap lv q c h P (a6P R (M8 (fd) l q R.i))):=by have hr:=H.hr;have hp:=H.hp;have a1:=H.r;have a2:=H.p;have a3:=H.ne;have a4:ap≠ar:=λe=>H.ne e.symm;have a5:ar≠c:=zy;have a6:ap≠c:=zy;have a7:ar≠c+1:=zy;have a8:ap≠c+1:=zy;rw[d9r];have e39:=c8b (m+4) R.op hop;rcases hj with⟨hj,rfl⟩|⟨hj,rfl⟩|⟨hj,rfl⟩|⟨hj,rfl⟩|⟨hj,rfl⟩|⟨hj,rfl⟩<;>(rw[hj]at e39;simp(disch:=try exact dz)only[e8T,hr,J9,e39,J5,↓gP,gY,gT,Nat.reduceEqDiff,Nat.reduceAdd]);refine l9.bindC (a5r E m (Or.inl ⟨rfl,rfl⟩) H hl _ _) λx s hq=>?_;obtain⟨rfl,hF⟩:=hq;simp(disch:=try exact dz)only[gY];exact l9.done ⟨rfl,hF⟩;refine l9.bindC (a5r E m (Or.inr ⟨1,zq,rfl,rfl⟩) H hl _ _) λx s hq=>?_;obtain⟨rfl,hF⟩:=hq;simp(disch:=try exact dz)only[gY];exact l9.done ⟨rfl,hF⟩;refine l9.bindC (a5r E m (Or.inr ⟨7,zq,rfl,rfl⟩) H hl _ _) λx s hq=>?_;obtain⟨rfl,hF⟩:=hq;simp(disch:=try exact dz)only[gY];exact l9.done ⟨rfl,hF⟩;refine l9.bindC (a5r E m (Or.inr ⟨4,zq,rfl,rfl⟩) H hl _ _) λx s hq=>?_;obtain⟨rfl,hF⟩:=hq;simp(disch:=try exact dz)only[gY];exact l9.done ⟨rfl,hF⟩;refine l9.bindC (a5r E m (Or.inr ⟨5,zq,rfl,rfl⟩) H hl _ _) λx s hq=>?_;obtain⟨rfl,hF⟩:=hq;simp(disch:=try exact dz)only[gY];exact l9.done ⟨rfl,hF⟩;refine l9.bindC (a5r E m (Or.inr ⟨6,zq,rfl,rfl⟩) H hl _ _) λx s hq=>?_;obtain⟨rfl,hF⟩:=hq;simp(disch:=try exact dz)only[gY];exact l9.done ⟨rfl,hF⟩
end
end
section
attribute [local congr] q9 x8 A8 z8 D5 x9 D6 D8 D7
def a0f:List Nd->Option (Nat×List UInt8)|[]=>none|n::_=>some (n.k,n.t)
theorem NdL.hd {U h v l}(H:NdL U h v l):b3x U h v.a v.n v.e (a0f l):=by cases H with|nil=>exact Or.inl ⟨rfl,rfl⟩| @row b o g cur cs ro _ vs h1 h2 h3 h4 h5=>cases l with|nil=>exact Or.inl ⟨rfl,rfl⟩|cons n t=>obtain⟨_,h6⟩:=h4 0 n rfl;rw[qx,vZ]at h6;exact Or.inr ⟨t.length,b,o,g,cs,cur,ro,n.k,_,n.t,_,rfl,rfl,rfl,h1,h2,h6,rfl⟩
def a7h (fd:List UInt8->Nat×Nat)(put:RV->Nat->RV)(l:List Nd)(q:Nat)(R:RV):Rs:=match l[R.i]? with|none=>.er q 4|some n=>bcase (Z4 n.k (a0f n.l) [116,121,112,101]) (match n.l[1]? with|none=>.er q 4|some n1=>bcase (Z0 n1.k n1.t) (bcase (decide ((fd n1.t).2=0)) (match n.l[2]? with|some n2=>.er n2.p 4|none=>.ok (put {R with i:=R.i+1} (fd n1.t).1)) (.er n1.p (fd n1.t).2)) (.er n1.p 4)) (.er n.p 4)
section
variable {U:Nat->Prop}{h0:Trie VObj}{sv fo:Value}{F:Nat->List (Value×Value)}{L:List (List UInt8)}{ar ap:Nat}{lv:Sl}{q c:Nat}{h:Trie VObj}{R:RV}{P:PV}{l:List Nd}
theorem e1s (E:Env U h0 sv F L)(m)(hRi:R.i<4294967296)(H:At U h0 sv fo ar ap lv q c h R P)(hl:NdL U h0 lv l)(r w):l9 (go (o8 A9 (m+6) 144 [.pointer (some ⟨ar,0,some 0⟩),.pointer (some ⟨ar,5,some 0⟩)]) ⟨c,h,r,w⟩) (EndR U h0 sv fo ar ap lv q c h P (a7h (a0k (F 0)) (λR k=>{R with A:=k}) l q R)):=by
 have hr:=H.hr;have hp:=H.hp;have a1:=H.r;have a2:=H.p;have a3:=H.ne;have a4:ap≠ar:=λe=>H.ne e.symm;have a5:ar≠c:=zy;have a6:ap≠c:=zy;have a7:ar≠c+1:=zy;have a8:ap≠c+1:=zy;have hlen:=hl.len.1;have e0:=U7 lv.a l.length lv.e;have hAg:AgU U h h0:=λi hi=>(H.u i hi).2.2.2;have hUc:∀i,U i->i<c:=λi hi=>(H.u i hi).1;have hn0:¬U c:=λhi=>vJ _ (hUc c hi);have hn1:¬U (c+1):=λhi=>zP;have hn2:¬U (c+2):=λhi=>zP;rw[d0g];unfold a7h;have hinc:=G9 R.i hRi;cases hi:l[R.i]? with
  |none=>
   obtain⟨z,y,o1,o2,hm⟩:=a0R (m+4) H hl hi;have hlt:l.length<=R.i:=by simpa using hi
   have d1:decide (R.i<l.length)=false:=zT;simp(disch:=try exact dz)only[b0P,hm,hr,hp,J9,H7,a1a,a3b,X5,G72,hlen,e0,X6,d1,↓gP,gY,gT];refine l9.done ⟨rfl,zV,λi hi h1 h2=>?_,R,H.setP zV (λi hi hp=>?_) ?_,λR1 e=>zi⟩;simp(disch:=try exact xE)only[d9];simp(disch:=try exact xE)only[d9];simp(disch:=try exact xE)only[o7,H7,Rs.P]|some n=>
   obtain⟨z,y,o1,o2,nlm,hnm,hTm,hm⟩:=a0Q (m+4) H hl hi;have hlt:R.i<l.length:=(xC.1 hi).1;have d1:decide (R.i<l.length)=true:=zQ;obtain⟨b,p,g,cs,cur,ro,nl,hb,hg,hN,hT,e1,e2,e3,e4,e5,e6⟩:=hl.get hi;obtain⟨u1,u2,u3,u4⟩:=H.u b hb;have hG:=u4.trans hg;rw[hlen]at e1;obtain⟨z2,hz2⟩:=b1q hnm.hd (m+4);have hz3:=λo1 o2 o3 o4 r w W=>hz2 (c+1+1) (V.upd (V.upd (V.upd (V.upd h c o1) c o2) (c+1) o3) (c+1) o4) r w n.k n.p n.t W (λi hi=>by have:=hUc i hi;omega) ((((hAg.upd hn0).upd hn0).upd hn1).upd hn1);have hlenn:=hN.len.1;have e0n:=U7 nl.a n.l.length nl.e;simp only;cases q1:Z4 n.k (a0f n.l) [116,121,112,101]with
    |false=>simp(disch:=try exact dz)only[b0P,hm,hz3,q1,hr,hp,J9,H7,a1a,a3b,X5,G72,hlen,e0,X6,d1,e1,e4,e6,hG,↓gP,gY,gT];refine l9.done ⟨rfl,zV,λi hi h1 h2=>?_,R,H.setP zV (λi hi hp=>?_) ?_,λR1 e=>zi⟩;simp(disch:=try exact xE)only[d9];simp(disch:=try exact xE)only[d9];simp(disch:=try exact xE)only[o7,H7,Rs.P]|true=>
     cases hi1:n.l[1]? with
      |none=>
       have hlt1:n.l.length<=1:=by simpa using hi1
       have d2:decide (n.l.length<2)=true:=zQ;have d3:decide (1<n.l.length)=false:=zT;simp(disch:=try exact dz)only[b0P,hm,hz3,q1,hr,hp,J9,H7,a1a,a3b,X5,G72,hlen,hlenn,e0n,X6,d2,d3,e1,e4,e6,hG,↓gP,gY,gT];refine l9.done ⟨rfl,zV,λi hi h1 h2=>?_,R,H.setP zV (λi hi hp=>?_) ?_,λR1 e=>zi⟩;simp(disch:=try exact xE)only[d9];simp(disch:=try exact xE)only[d9];simp(disch:=try exact xE)only[o7,H7,Rs.P]|some n1=>
       have hlt1:1<n.l.length:=(xC.1 hi1).1;have d2:decide (n.l.length<2)=false:=zT;have d3:decide (1<n.l.length)=true:=zQ;obtain⟨b1,p1,g1,cs1,cur1,ro1,nl1,hb1,hg1,hN1,hT1,e11,e21,e31,e41,e51,e61⟩:=hN.get hi1;obtain⟨u11,u21,u31,u41⟩:=H.u b1 hb1;have hG1:=u41.trans hg1;rw[hlenn]at e11;simp only;cases q2:Z0 n1.k n1.t with
        |false=>simp(disch:=try exact dz)only[b0P,hm,hz3,q1,hr,hp,J9,H7,a1a,a3b,X5,G72,hlen,hlenn,e0n,X6,d2,d3,a1S,q2,e1,e4,e6,hG,e11,e21,e41,hG1,↓gP,gY,gT];refine l9.done ⟨rfl,zV,λi hi h1 h2=>?_,R,H.setP zV (λi hi hp=>?_) ?_,λR1 e=>zi⟩;simp(disch:=try exact xE)only[d9];simp(disch:=try exact xE)only[d9];simp(disch:=try exact xE)only[o7,H7,Rs.P]|true=>
         simp(disch:=try exact dz)only[b0P,hm,hz3,q1,hr,J9,hlen,hlenn,e0n,X6,d2,a1S,q2,e1,e6,hG,e11,e21,hG1,↓gP,gY,gT];refine l9.bindC (c2r E (m+2) (Or.inr ⟨0,zq,rfl,rfl⟩) (H.to ?_ λi hi=>?_) n1 nl1 hT1 _ _) λx s hq=>?_;omega;simp(disch:=try exact xE)only[d9];obtain⟨c',h',r',w'⟩:=s;obtain⟨hc,hs,⟨q3,rfl,H'⟩|⟨q3,rfl,H'⟩⟩:=hq;simp only at hc hs;have hs0:∀i,i<c->i≠ar->i≠ap->h'.get i=h.get i:=λi k1 k2 k3=>zF;have hr':=H'.hr;have hp':=H'.hp;have c1:=H'.r;have c2:=H'.p;simp only at hr' hp' c1 c2;rw[ww q3];cases hi2:n.l[2]? with
          |some n2=>have hlt2:2<n.l.length:=(xC.1 hi2).1;have d4:decide (2<n.l.length)=true:=zQ;obtain⟨b2,p2,g2,cs2,cur2,ro2,nl2,hb2,hg2,hN2,hT2,e12,e22,e32,e42,e52,e62⟩:=hN.get hi2;obtain⟨u12,u22,u32,u42⟩:=H.u b2 hb2;have hG2:=u42.trans hg2;rw[hlenn]at e12;have hG2':=(hs0 b2 u12 u22 u32).trans hG2;have u12':b2<c':=zy;simp(disch:=try exact dz)only[hr',hp',J9,H7,a1a,a3b,X5,G72,e0n,X6,d4,e12,e42,hG2',↓gP,gY,gT];refine l9.done ?_;refine⟨rfl,zV,λi k1 k2 k3=>?_,R,H'.setP (xD _) (λi k1 k2=>?_) ?_,λR1 e=>zi⟩;have:=hs0 i k1 k2 k3;simp(disch:=try exact xE)only[d9];exact this;simp(disch:=try exact xE)only[d9];simp(disch:=try exact xE)only[o7,H7,Rs.P]|none=>
           have hlt2:n.l.length<=2:=by simpa using hi2
           have d4:decide (2<n.l.length)=false:=zT;simp(disch:=try exact dz)only[hr',J9,X6,d4,hinc,↓gP,gY,gT];refine l9.done ?_;refine⟨rfl,zV,λi k1 k2 k3=>?_,_,H'.setR (xD _) (λi k1 k2=>?_) ?_,λR1 e=>zY⟩;have:=hs0 i k1 k2 k3;simp(disch:=try exact xE)only[d9];exact this;simp(disch:=try exact xE)only[d9];simp(disch:=try exact xE)only[o7,J9]
         simp only at hc hs;have hs0:∀i,i<c->i≠ar->i≠ap->h'.get i=h.get i:=λi k1 k2 k3=>zF;rw[wy q3];simp(disch:=try exact dz)only[↓gP,gY,gT];exact l9.done ⟨rfl,zV,hs0,R,H',λR1 e=>zi⟩
theorem d7k (E:Env U h0 sv F L)(m)(hRi:R.i<4294967296)(H:At U h0 sv fo ar ap lv q c h R P)(hl:NdL U h0 lv l)(r w):l9 (go (o8 A9 (m+6) 144 [.pointer (some ⟨ar,0,some 0⟩),.pointer (some ⟨ar,10,some 0⟩)]) ⟨c,h,r,w⟩) (EndR U h0 sv fo ar ap lv q c h P (a7h (a0k (F 0)) (λR k=>{R with bi:=k}) l q R)):=by
 have hr:=H.hr;have hp:=H.hp;have a1:=H.r;have a2:=H.p;have a3:=H.ne;have a4:ap≠ar:=λe=>H.ne e.symm;have a5:ar≠c:=zy;have a6:ap≠c:=zy;have a7:ar≠c+1:=zy;have a8:ap≠c+1:=zy;have hlen:=hl.len.1;have e0:=U7 lv.a l.length lv.e;have hAg:AgU U h h0:=λi hi=>(H.u i hi).2.2.2;have hUc:∀i,U i->i<c:=λi hi=>(H.u i hi).1;have hn0:¬U c:=λhi=>vJ _ (hUc c hi);have hn1:¬U (c+1):=λhi=>zP;have hn2:¬U (c+2):=λhi=>zP;rw[d0g];unfold a7h;have hinc:=G9 R.i hRi;cases hi:l[R.i]? with
  |none=>
   obtain⟨z,y,o1,o2,hm⟩:=a0R (m+4) H hl hi;have hlt:l.length<=R.i:=by simpa using hi
   have d1:decide (R.i<l.length)=false:=zT;simp(disch:=try exact dz)only[b0P,hm,hr,hp,J9,H7,a1a,a3b,X5,G72,hlen,e0,X6,d1,↓gP,gY,gT];refine l9.done ⟨rfl,zV,λi hi h1 h2=>?_,R,H.setP zV (λi hi hp=>?_) ?_,λR1 e=>zi⟩;simp(disch:=try exact xE)only[d9];simp(disch:=try exact xE)only[d9];simp(disch:=try exact xE)only[o7,H7,Rs.P]|some n=>
   obtain⟨z,y,o1,o2,nlm,hnm,hTm,hm⟩:=a0Q (m+4) H hl hi;have hlt:R.i<l.length:=(xC.1 hi).1;have d1:decide (R.i<l.length)=true:=zQ;obtain⟨b,p,g,cs,cur,ro,nl,hb,hg,hN,hT,e1,e2,e3,e4,e5,e6⟩:=hl.get hi;obtain⟨u1,u2,u3,u4⟩:=H.u b hb;have hG:=u4.trans hg;rw[hlen]at e1;obtain⟨z2,hz2⟩:=b1q hnm.hd (m+4);have hz3:=λo1 o2 o3 o4 r w W=>hz2 (c+1+1) (V.upd (V.upd (V.upd (V.upd h c o1) c o2) (c+1) o3) (c+1) o4) r w n.k n.p n.t W (λi hi=>by have:=hUc i hi;omega) ((((hAg.upd hn0).upd hn0).upd hn1).upd hn1);have hlenn:=hN.len.1;have e0n:=U7 nl.a n.l.length nl.e;simp only;cases q1:Z4 n.k (a0f n.l) [116,121,112,101]with
    |false=>simp(disch:=try exact dz)only[b0P,hm,hz3,q1,hr,hp,J9,H7,a1a,a3b,X5,G72,hlen,e0,X6,d1,e1,e4,e6,hG,↓gP,gY,gT];refine l9.done ⟨rfl,zV,λi hi h1 h2=>?_,R,H.setP zV (λi hi hp=>?_) ?_,λR1 e=>zi⟩;simp(disch:=try exact xE)only[d9];simp(disch:=try exact xE)only[d9];simp(disch:=try exact xE)only[o7,H7,Rs.P]|true=>
     cases hi1:n.l[1]? with
      |none=>
       have hlt1:n.l.length<=1:=by simpa using hi1
       have d2:decide (n.l.length<2)=true:=zQ;have d3:decide (1<n.l.length)=false:=zT;simp(disch:=try exact dz)only[b0P,hm,hz3,q1,hr,hp,J9,H7,a1a,a3b,X5,G72,hlen,hlenn,e0n,X6,d2,d3,e1,e4,e6,hG,↓gP,gY,gT];refine l9.done ⟨rfl,zV,λi hi h1 h2=>?_,R,H.setP zV (λi hi hp=>?_) ?_,λR1 e=>zi⟩;simp(disch:=try exact xE)only[d9];simp(disch:=try exact xE)only[d9];simp(disch:=try exact xE)only[o7,H7,Rs.P]|some n1=>
       have hlt1:1<n.l.length:=(xC.1 hi1).1;have d2:decide (n.l.length<2)=false:=zT;have d3:decide (1<n.l.length)=true:=zQ;obtain⟨b1,p1,g1,cs1,cur1,ro1,nl1,hb1,hg1,hN1,hT1,e11,e21,e31,e41,e51,e61⟩:=hN.get hi1;obtain⟨u11,u21,u31,u41⟩:=H.u b1 hb1;have hG1:=u41.trans hg1;rw[hlenn]at e11;simp only;cases q2:Z0 n1.k n1.t with
        |false=>simp(disch:=try exact dz)only[b0P,hm,hz3,q1,hr,hp,J9,H7,a1a,a3b,X5,G72,hlen,hlenn,e0n,X6,d2,d3,a1S,q2,e1,e4,e6,hG,e11,e21,e41,hG1,↓gP,gY,gT];refine l9.done ⟨rfl,zV,λi hi h1 h2=>?_,R,H.setP zV (λi hi hp=>?_) ?_,λR1 e=>zi⟩;simp(disch:=try exact xE)only[d9];simp(disch:=try exact xE)only[d9];simp(disch:=try exact xE)only[o7,H7,Rs.P]|true=>
         simp(disch:=try exact dz)only[b0P,hm,hz3,q1,hr,J9,hlen,hlenn,e0n,X6,d2,a1S,q2,e1,e6,hG,e11,e21,hG1,↓gP,gY,gT];refine l9.bindC (c2r E (m+2) (Or.inr ⟨0,zq,rfl,rfl⟩) (H.to ?_ λi hi=>?_) n1 nl1 hT1 _ _) λx s hq=>?_;omega;simp(disch:=try exact xE)only[d9];obtain⟨c',h',r',w'⟩:=s;obtain⟨hc,hs,⟨q3,rfl,H'⟩|⟨q3,rfl,H'⟩⟩:=hq;simp only at hc hs;have hs0:∀i,i<c->i≠ar->i≠ap->h'.get i=h.get i:=λi k1 k2 k3=>zF;have hr':=H'.hr;have hp':=H'.hp;have c1:=H'.r;have c2:=H'.p;simp only at hr' hp' c1 c2;rw[ww q3];cases hi2:n.l[2]? with
          |some n2=>have hlt2:2<n.l.length:=(xC.1 hi2).1;have d4:decide (2<n.l.length)=true:=zQ;obtain⟨b2,p2,g2,cs2,cur2,ro2,nl2,hb2,hg2,hN2,hT2,e12,e22,e32,e42,e52,e62⟩:=hN.get hi2;obtain⟨u12,u22,u32,u42⟩:=H.u b2 hb2;have hG2:=u42.trans hg2;rw[hlenn]at e12;have hG2':=(hs0 b2 u12 u22 u32).trans hG2;have u12':b2<c':=zy;simp(disch:=try exact dz)only[hr',hp',J9,H7,a1a,a3b,X5,G72,e0n,X6,d4,e12,e42,hG2',↓gP,gY,gT];refine l9.done ?_;refine⟨rfl,zV,λi k1 k2 k3=>?_,R,H'.setP (xD _) (λi k1 k2=>?_) ?_,λR1 e=>zi⟩;have:=hs0 i k1 k2 k3;simp(disch:=try exact xE)only[d9];exact this;simp(disch:=try exact xE)only[d9];simp(disch:=try exact xE)only[o7,H7,Rs.P]|none=>
           have hlt2:n.l.length<=2:=by simpa using hi2
           have d4:decide (2<n.l.length)=false:=zT;simp(disch:=try exact dz)only[hr',J9,X6,d4,hinc,↓gP,gY,gT];refine l9.done ?_;refine⟨rfl,zV,λi k1 k2 k3=>?_,_,H'.setR (xD _) (λi k1 k2=>?_) ?_,λR1 e=>zY⟩;have:=hs0 i k1 k2 k3;simp(disch:=try exact xE)only[d9];exact this;simp(disch:=try exact xE)only[d9];simp(disch:=try exact xE)only[o7,J9]
         simp only at hc hs;have hs0:∀i,i<c->i≠ar->i≠ap->h'.get i=h.get i:=λi k1 k2 k3=>zF;rw[wy q3];simp(disch:=try exact dz)only[↓gP,gY,gT];exact l9.done ⟨rfl,zV,hs0,R,H',λR1 e=>zi⟩
end
end
end Go.Proofs.YtmomonnlmbljoaaGreatDoor
