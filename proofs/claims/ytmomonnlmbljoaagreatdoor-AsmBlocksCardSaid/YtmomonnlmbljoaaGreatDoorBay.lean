import Derived.Test.YtmomonnlmbljoaaGreatDoorBak
import Derived.Test.YtmomonnlmbljoaaGreatDoorBax
set_option maxRecDepth 1000000
set_option maxHeartbeats 4000000
set_option linter.unusedVariables false
set_option linter.unusedSimpArgs false
section
namespace Go.Proofs.YtmomonnlmbljoaaGreatDoor.S
open Go.V Go.RowKit Go.Shelf Go.Proofs
variable {mL:Int}
attribute [local congr] y7 x9 A8 A7 D5
theorem c2E {op}(hop:op=.eql\/op=.neq)(x y a b d a' b' d'):a0M Tryz.prog tab op 26 x y (.agg ⟨[.int .i64 a,.int .i64 b,.int .i64 d]⟩) (.agg ⟨[.int .i64 a',.int .i64 b',.int .i64 d']⟩)=M.pure (.bool (b5f op (a8e [a,b,d] [a',b',d']))):=by refine c3o (fs:=Tryz.prog.fieldsOf 26) hop zw zw zw ?_ rfl rfl (λi hi=>?_);refine⟨vS zw,zw,⟨.i64,zw⟩,⟨.i64,rfl,rfl⟩,?_⟩;refine⟨vS zw,zw,⟨.i64,zw⟩,⟨.i64,rfl,rfl⟩,?_⟩;refine⟨vS zw,zw,⟨.i64,zw⟩,⟨.i64,rfl,rfl⟩,?_⟩;trivial;have:tab.types.get 26=some d2w:=zw;rw[this]at hi;rw[<-tX hi];have e:d2w.und=.struct (Tryz.prog.fieldsOf 26):=zw;exact e
theorem c1B (x y a b d a' b' d'):a0M Tryz.prog tab .eql 26 x y (.agg ⟨[.int .i64 a,.int .i64 b,.int .i64 d]⟩) (.agg ⟨[.int .i64 a',.int .i64 b',.int .i64 d']⟩)=M.pure (.bool (decide (a=a')&&(decide (b=b')&&(decide (d=d')&&true)))):=c2E (Or.inl rfl) x y a b d a' b' d'
theorem b3M (x y a b d a' b' d'):a0M Tryz.prog tab .neq 26 x y (.agg ⟨[.int .i64 a,.int .i64 b,.int .i64 d]⟩) (.agg ⟨[.int .i64 a',.int .i64 b',.int .i64 d']⟩)=M.pure (.bool (!(decide (a=a')&&(decide (b=b')&&(decide (d=d')&&true))))):=c2E (Or.inr rfl) x y a b d a' b' d'
theorem c7Z:Int.ofNat 0=0:=rfl
theorem c0D:Int.ofNat 1=1:=rfl
theorem c1T:Int.ofNat 2=2:=rfl
noncomputable def blkB (k v i:Int):Bool:=bcase (decide (k=0)) (decide (v=0)&&decide (i=0)) (bcase (decide (k=1)) (a0X v&&decide (i=0)) (decide (k=2)&&decide (v=0)&&idxB i))
theorem t87 (N call)(h86:∀n,call 86 [.int .i64 n]=M.pure (.ret (.bool (idxB n))))(h88:∀n,call 88 [.int .i64 n]=M.pure (.ret (.bool (a0X n))))(k v i):a1f (c7A o9 N call (.agg ⟨[.int .i64 k,.int .i64 v,.int .i64 i]⟩)) (.bool (blkB k v i)):=by intro c h r w;simp(maxSteps:=9999999) (disch:=try exact dx)only[gD,e8t,c1B,h86,h88,a2p,a5E,K7,K5,K6,a2g,a2o,a7Q,a8P,a4i,c7Z,c0D,c1T,a3J];refine l9.done ⟨?_,λj hj=>zT⟩;unfold blkB;generalize decide (k=0)=b0;generalize decide (k=1)=b1;generalize decide (k=2)=b2;cases b0<;>cases b1<;>cases b2<;>cases decide (v=0)<;>rfl
theorem t58 (N call)(h59:∀n,call 59 [.int .i64 n]=M.pure (.ret (.bool (idxB n))))(h61:∀n,call 61 [.int .i64 n]=M.pure (.ret (.bool (a0X n))))(k v i):a1f (c6b o9 N call (.agg ⟨[.int .i64 k,.int .i64 v,.int .i64 i]⟩)) (.bool (blkB k v i)):=by intro c h r w;simp(maxSteps:=9999999) (disch:=try exact dx)only[gD,e8I,h59,h61,a2p,a5E,K7,K5,K6,a2o,a7Q,a8P,c7Z,c0D,c1T];refine l9.done ⟨?_,λj hj=>zT⟩;unfold blkB;generalize decide (k=0)=b0;generalize decide (k=1)=b1;generalize decide (k=2)=b2;cases b0<;>cases b1<;>cases b2<;>cases decide (v=0)<;>rfl
noncomputable def a6L (k v i:Int):List UInt8:=bcase (decide (k=1)) (bcase (a0X v) (40::114::101::115::117::108::116::32::(Q9 v++[41])) []) (bcase (decide (k=2)) (40::116::121::112::101::32::(Lib.itoa i++[41])) [])
theorem c6h (v):(!(beqBytes (Q9 v) []))=a0X v:=by
 by_cases h:1<=v/\v<=4;have:v=1\/v=2\/v=3\/v=4:=zy;rcases this with rfl|rfl|rfl|rfl<;>rfl;have e:a0X v=false:=by simp only[a0X,Bool.and_eq_false_iff,vX];omega
 rw[e];unfold Q9;rw[show decide (v=1)=false by simp;omega,show decide (v=2)=false by simp;omega,show decide (v=3)=false by simp;omega,show decide (v=4)=false by simp;omega];rfl
theorem a8T (v):x8 (Q9 v)<=9:=by unfold Q9;cases decide (v=1)<;>cases decide (v=2)<;>cases decide (v=3)<;>cases decide (v=4)<;>decide
theorem t14 (N call)(h40:∀n,call 40 [.int .i64 n]=M.pure (.ret (.string ⟨⟨Q9 n⟩⟩)))(k v i)(hi1:-9223372036854775808<=i)(hi2:i<=9223372036854775807)(h37:call 37 [.int .i64 i]=M.pure (.ret (.string ⟨⟨Lib.itoa i⟩⟩))):a1f (c6n o9 N call (.agg ⟨[.int .i64 k,.int .i64 v,.int .i64 i]⟩)) (.string ⟨⟨a6L k v i⟩⟩):=by intro c h r w;have l1:=a8r i hi1 zy;have l2:=a8T v;simp(maxSteps:=9999999) (disch:=try exact dx)only[gD,e9l,h40,h37,a2p,a5E,K4,a7Q,b1r,M6,a2e,c0D,c1T,c6h];refine l9.done ⟨?_,λj hj=>zT⟩;unfold a6L;simp only[D9]
noncomputable def Y6 (z:Int):List UInt8:=match R4 z N8 with|some r=>r.2.1|none=>[]
theorem c5v (z:Int):∀l:List a3V,(match(l.map λr=>(r.1,r.2.1)).find? (λx=>(Int.ofNat x.1)==z)with|some x=>(⟨⟨x.2⟩⟩:ByteArray)|none=>ByteArray.empty)=⟨⟨match R4 z l with|some r=>r.2.1|none=>[]⟩⟩:=by
 intro l;induction l with
  |nil=>rfl|cons r l ih=>
   rw[uy,nW];show _=(⟨⟨match bcase (decide (Int.ofNat r.1=z)) (some r) (R4 z l)with|some r=>r.2.1|none=>[]⟩⟩:ByteArray);by_cases h:Int.ofNat r.1=z;have h':(Int.ofNat r.1==z)=true:=by rw[beq_iff_eq];exact h
   simp only[h',wL h,A9];have h':(Int.ofNat r.1==z)=false:=by rw[beq_eq_false_iff_ne];exact h
   simp only[h',wP h,y9];exact ih
theorem c0B:a0Q=U0 (λr=>(r.1,r.2.1)) N8:=zw
theorem c7Y (z):b1D z=⟨⟨Y6 z⟩⟩:=by unfold b1D;rw[c0B,a0R];exact c5v z N8
theorem e6b:J9 Tryz.prog tab (I6 mL) 35 (X1 .i64 λz=>some (.string ⟨⟨Y6 z⟩⟩)):=a8N λz v h=>by cases h;refine⟨rfl,λw hL=>⟨V4 Tryz.func35 zw rfl,?_⟩⟩;refine(pV.1 (c4u 3 zy z w hL)).mono λe W' hq=>?_;obtain⟨rfl,hb⟩:=hq;exact⟨by rw[c7Y],hb⟩
theorem c2X (z):∀(l),R4 z l=none->∀r∈l,Int.ofNat r.1≠z:=by intro l;induction l with|nil=>intro _ r h;cases h|cons q l ih=>intro h r hr;have h':bcase (decide (Int.ofNat q.1=z)) (some q) (R4 z l)=none:=h;by_cases hq:Int.ofNat q.1=z;rw[wL hq]at h';cases h';rw[wP hq]at h';rcases uw.1 hr with rfl|hr;exact hq;exact ih h' r hr
theorem d3F:J2 (λr:a3V=>!(beqBytes r.2.1 [])) N8=true:=zw
theorem d2W (z):(!(beqBytes (Y6 z) []))=I1 z:=by unfold Y6 I1;cases h:R4 z N8 with|none=>rfl|some r=>exact(M4 _ _).1 d3F r (a3u z N8 r h).1
theorem c7X:J2 (λr:a3V=>Nat.ble (x8 r.2.1) 20) N8=true:=zw
theorem Y2 (z):x8 (Y6 z)<=20:=by unfold Y6;cases h:R4 z N8 with|none=>decide|some r=>exact vT ((M4 _ _).1 c7X r (a3u z N8 r h).1)
theorem t85 (N call)(h35:∀n,call 35 [.int .i64 n]=M.pure (.ret (.string ⟨⟨Y6 n⟩⟩)))(z):c6K o9 N call (.int .i64 z)=M.pure (.ret (.bool (I1 z))):=by simp only[e9U,h35,O0,U6,I4,V.e7v,M6,d2W]
theorem t57 (N call)(h97:∀n,call 97 [.int .i64 n]=M.pure (.ret (a9y (R4 n N8))))(z):a1f (c7U o9 N call (.int .i64 z)) (.bool (I1 z)):=by intro c h r w;unfold I1;have e:=h97 z;cases hf:R4 z N8 with|none=>rw[hf]at e;simp(maxSteps:=9999999) (disch:=try exact dx)only[gD,e0k,e,a9y,c5r,O8,P7,P9,a2v];exact l9.done ⟨rfl,λj hj=>zT⟩|some q=>rw[hf]at e;simp(maxSteps:=9999999) (disch:=try exact dx)only[gD,e0k,e,a9y,b4V,O8,P7,P9,a2v];exact l9.done ⟨rfl,λj hj=>zT⟩
theorem L0:Shelf' Tryz.prog tab (I6 mL) NN a6M a7f:=⟨a5G,b1Q⟩
theorem e4j:J9 Tryz.prog tab (I6 mL) 86 (X1 .i64 (λz=>some (.bool (idxB z)))):=a8O V5 N7 L0 Tryz.func86 zw rfl λz v h=>by cases h;exact⟨rfl,1,by rw[Z5 (q:=c6s) (N:=NN) zw 0];exact a1f.pure (t86 _ _ z)⟩
theorem e5P:J9 Tryz.prog tab (I6 mL) 59 (X1 .i64 (λz=>some (.bool (idxB z)))):=a8O V5 N7 L0 Tryz.func59 zw rfl λz v h=>by cases h;exact⟨rfl,1,by rw[Z5 (q:=c7D) (N:=NN) zw 0];exact a1f.pure (t59 _ _ z)⟩
theorem e4x:J9 Tryz.prog tab (I6 mL) 88 (X1 .i64 (λz=>some (.bool (a0X z)))):=a8O V5 N7 L0 Tryz.func88 zw rfl λz v h=>by cases h;exact⟨rfl,1,by rw[Z5 (q:=c5Z) (N:=NN) zw 0];exact a1f.pure (t88 _ _ z)⟩
theorem e6O:J9 Tryz.prog tab (I6 mL) 61 (X1 .i64 (λz=>some (.bool (a0X z)))):=a8O V5 N7 L0 Tryz.func61 zw rfl λz v h=>by cases h;exact⟨rfl,1,by rw[Z5 (q:=c6U) (N:=NN) zw 0];exact a1f.pure (t61 _ _ z)⟩
theorem c7a:J9 Tryz.prog tab (I6 mL) 40 (X1 .i64 (λz=>some (.string ⟨⟨Q9 z⟩⟩))):=a8O V5 N7 L0 Tryz.func40 zw rfl λz v h=>by cases h;exact⟨rfl,1,by rw[Z5 (q:=c2t) (N:=NN) zw 0];exact a1f.pure (t40 _ _ z)⟩
theorem e5U:J9 Tryz.prog tab (I6 mL) 43 (X1 .i64 (λz=>some (.string ⟨⟨bcase (decide (z=3)) [102,117,110,99] [101,120,116,101,114,110]⟩⟩))):=a8O V5 N7 L0 Tryz.func43 zw rfl λz v h=>by cases h;exact⟨rfl,1,by rw[Z5 (q:=c7G) (N:=NN) zw 0];exact a1f.pure (t43 _ _ z)⟩
noncomputable def e1:Nat->Option (List Value->M Value):=(M5 (M5 (M5 (M5 (M5 (M5 (M5 (M5 (M5 (M5 (M5 a6M 127 (b1s (a1F N8) 125 3)) 35 (X1 .i64 (λz=>some (.string ⟨⟨Y6 z⟩⟩)))) 37 (λbs=>M.lift (b4o bs))) 95 (λbs=>M.lift (b1w bs))) 126 (λbs=>M.lift (a4v bs))) 86 (X1 .i64 (λz=>some (.bool (idxB z))))) 59 (X1 .i64 (λz=>some (.bool (idxB z))))) 88 (X1 .i64 (λz=>some (.bool (a0X z))))) 61 (X1 .i64 (λz=>some (.bool (a0X z))))) 40 (X1 .i64 (λz=>some (.string ⟨⟨Q9 z⟩⟩)))) 43 (X1 .i64 (λz=>some (.string ⟨⟨bcase (decide (z=3)) [102,117,110,99] [101,120,116,101,114,110]⟩⟩))))
noncomputable def s1:a2t:=(U5 (U5 (U5 (U5 (U5 (U5 (U5 (U5 (U5 (U5 (U5 a7f 127 (b1s (a1F N8) 125 3)) 35 (X1 .i64 (λz=>some (.string ⟨⟨Y6 z⟩⟩)))) 37 (λbs=>M.lift (b4o bs))) 95 (λbs=>M.lift (b1w bs))) 126 (λbs=>M.lift (a4v bs))) 86 (X1 .i64 (λz=>some (.bool (idxB z))))) 59 (X1 .i64 (λz=>some (.bool (idxB z))))) 88 (X1 .i64 (λz=>some (.bool (a0X z))))) 61 (X1 .i64 (λz=>some (.bool (a0X z))))) 40 (X1 .i64 (λz=>some (.string ⟨⟨Q9 z⟩⟩)))) 43 (X1 .i64 (λz=>some (.string ⟨⟨bcase (decide (z=3)) [102,117,110,99] [101,120,116,101,114,110]⟩⟩))))
theorem L1:Shelf' Tryz.prog tab (I6 mL) NN e1 s1:=(((((((((((((L0.add d0Y).add e6b).add d2m).add c6c).add c3s)).add e4j).add e5P).add e4x).add e6O)).add c7a).add e5U)
theorem e6Y (n z):o8 s1 (n+1) 35 [.int .i64 z]=M.pure (.ret (.string ⟨⟨Y6 z⟩⟩)):=a1j (q:=λz=>some (.string ⟨⟨Y6 z⟩⟩)) zw n rfl
theorem e6f (n z):o8 s1 (n+1) 86 [.int .i64 z]=M.pure (.ret (.bool (idxB z))):=a1j (q:=λz=>some (.bool (idxB z))) zw n rfl
theorem e5r (n z):o8 s1 (n+1) 59 [.int .i64 z]=M.pure (.ret (.bool (idxB z))):=a1j (q:=λz=>some (.bool (idxB z))) zw n rfl
theorem e3Y (n z):o8 s1 (n+1) 88 [.int .i64 z]=M.pure (.ret (.bool (a0X z))):=a1j (q:=λz=>some (.bool (a0X z))) zw n rfl
theorem e3L (n z):o8 s1 (n+1) 61 [.int .i64 z]=M.pure (.ret (.bool (a0X z))):=a1j (q:=λz=>some (.bool (a0X z))) zw n rfl
theorem d4M (n z)(h1:-9223372036854775808<=z)(h2:z<=9223372036854775807):o8 s1 (n+1) 95 [.int .i64 z,.int .i64 (.ofNat 10)]=M.pure (.ret (.string ⟨⟨Lib.itoa z⟩⟩)):=by refine V8 s1 n 95 _ (g:=b1w) zw ?_;show bcase (decide (-9223372036854775808<=z)&&decide (z<=9223372036854775807)) _ none=_;rw[wL h1,wL h2];rfl
theorem e2y (n m)(h:m<18446744073709551616):o8 s1 (n+1) 126 [.int .u64 (.ofNat m),.int .i64 (.ofNat 10)]=M.pure (.ret (.string ⟨⟨Lib.decDigits m⟩⟩)):=by refine V8 s1 n 126 _ (g:=a4v) zw ?_;show bcase (Nat.blt m 18446744073709551616) _ none=_;rw[I7 h];rfl
theorem e2U (n c h r w):go (o8 s1 (n+1) 127 []) ⟨c,h,r,w⟩=some (.ret (.slice (some ⟨c,0,some 0⟩) 125 3),⟨c+1,upd h c (.cells (U0 (λv=>(v,0)) (a1F N8)) 0 false),r,c::w⟩):=by
 rw[a4V s1 n 127 [] (g:=b1s (a1F N8) 125 3) zw,J8];have e:go (b1s (a1F N8) 125 3 []) ⟨c,h,r,w⟩=some (.slice (some ⟨c,0,some 0⟩) 125 3,⟨c+1,upd h c (.cells (U0 (λv=>(v,0)) (a1F N8)) 0 false),r,c::w⟩):=by show go (M.bind (Y7 (a1F N8)) λa=>M.pure (Value.slice (some a) 125 3)) ⟨c,h,r,w⟩=_;rw[J8,a1T c h r w _ zw];rfl
 rw[e];rfl
theorem e7d:J9 Tryz.prog tab (I6 mL) 97 (X1 .i64 λz=>some (a9y (R4 z N8))):=a8O V5 N7 L1 Tryz.func97 zw rfl λz v h=>by cases h;refine⟨?_,2,?_⟩;cases R4 z N8<;>rfl;rw[Z5 (q:=c5s) (N:=NN) zw 1];exactλc h r w=>t97 NN zu _ (e2U 0) z c h r w
theorem e5f:J9 Tryz.prog tab (I6 mL) 93 (λbs=>M.lift (a4v bs)):=a1V V5 N7 L1.e (L1 (mL:=mL)).s Tryz.func93 zw rfl λbs v h=>by unfold a4v at h;split at h;rename_i u;obtain⟨h1,rfl⟩:=a3A h;refine⟨rfl,λc h r w=>⟨2,?_⟩⟩;rw[a2h (q:=d1P) (N:=NN) zw 1];have e:o8 s1 1 126 [.int .u64 (.ofNat u),.int .i64 (.ofNat 10)]=_:=e2y 0 u (by simpa[uh]using h1);have e':(Value.int IntKind.i64 10)=.int .i64 (.ofNat 10):=rfl;simp only[e7U,e',e,U6,Z9,I4,V.e7v];exact l9.done ⟨rfl,λ_ _=>rfl⟩;cases h
theorem e6D:J9 Tryz.prog tab (I6 mL) 85 (X1 .i64 λz=>some (.bool (I1 z))):=a8O V5 N7 L1 Tryz.func85 zw rfl λz v h=>by cases h;exact⟨rfl,2,by rw[Z5 (q:=c6K) (N:=NN) zw 1];exact a1f.pure (t85 _ _ (e6Y 0) z)⟩
theorem c8l {z w v}(h:a9M z w=some v):∃n,z=.ofNat n/\((w=.ofNat 32/\n<4294967296/\v=.string ⟨⟨Lib.itoa (sgn 32 n)⟩⟩)\/(w=.ofNat 64/\n<18446744073709551616/\v=.string ⟨⟨Lib.itoa (sgn 64 n)⟩⟩)):=by unfold a9M at h;split at h;rename_i n;split at h;rename_i w;obtain⟨h1,rfl⟩:=a3A h;rw[sK,wK,wK]at h1;refine⟨n,rfl,?_⟩;rcases h1 with⟨a,b⟩|⟨a,b⟩;obtain rfl:=wR a;exact Or.inl ⟨rfl,by simpa[uh]using b,rfl⟩;obtain rfl:=wR a;exact Or.inr ⟨rfl,by simpa[uh]using b,rfl⟩;cases h;cases h
theorem d2a (n)(h:n<4294967296):a9M (.ofNat n) (.ofNat 32)=some (.string ⟨⟨Lib.itoa (sgn 32 n)⟩⟩):=by show bcase ((Nat.beq 32 32&&Nat.blt n 4294967296)||(Nat.beq 32 64&&Nat.blt n 18446744073709551616)) _ none=_;rw[I7 h];rfl
theorem d3e (n)(h:n<18446744073709551616):a9M (.ofNat n) (.ofNat 64)=some (.string ⟨⟨Lib.itoa (sgn 64 n)⟩⟩):=by show bcase ((Nat.beq 64 32&&Nat.blt n 4294967296)||(Nat.beq 64 64&&Nat.blt n 18446744073709551616)) _ none=_;rw[I7 h];rfl
theorem e4E:J9 Tryz.prog tab (I6 mL) 42 (X2 .u64 .i64 a9M):=f0o V5 N7 L1 Tryz.func42 zw rfl λz w v h=>by obtain⟨n,rfl,⟨rfl,hn,rfl⟩|⟨rfl,hn,rfl⟩⟩:=c8l h;exact⟨rfl,2,by rw[a2h (q:=b7E) (N:=NN) zw 1];exact a1f.pure (e0i _ _ n hn (d4M 0))⟩;exact⟨rfl,2,by rw[a2h (q:=b7E) (N:=NN) zw 1];exact a1f.pure (e0I _ _ n hn (d4M 0))⟩
noncomputable def onB (q:Int->Int->Int->Option Value)(bs:List Value):Option Value:=match bs with|[.agg ⟨[.int .i64 a,.int .i64 b,.int .i64 d]⟩]=>q a b d|_=>none
theorem d6W {q bs v}(h:onB q bs=some v):∃a b d,bs=[.agg ⟨[.int .i64 a,.int .i64 b,.int .i64 d]⟩]/\q a b d=some v:=by unfold onB at h;split at h;exact⟨_,_,_,rfl,h⟩;cases h
noncomputable def XB (q:Int->Int->Int->Option Value):List Value->M Value:=λbs=>M.lift (onB q bs)
theorem c6I {sh f q}(h:sh.get f=some (arX (XB q)))(m){a b d v}(e:q a b d=some v):o8 sh (m+1) f [.agg ⟨[.int .i64 a,.int .i64 b,.int .i64 d]⟩]=M.pure (.ret v):=V8 sh m f _ h e
theorem d1N {ext sh}(L:Shelf' Tryz.prog tab (I6 mL) NN ext sh){f fn cd}(hPf:Tryz.prog.funcs[f]?=some fn)(hnum:(fn.name== "runtime.NumGoroutine")=false)(hb:fn.body=some cd){q}(h:∀a b d v,q a b d=some v->K9 8 v=true/\∃m,a1f (o8 sh m f [.agg ⟨[.int .i64 a,.int .i64 b,.int .i64 d]⟩]) v):J9 Tryz.prog tab (I6 mL) f (XB q):=a1V V5 N7 L.e L.s hPf hnum hb λbs v hq=>by obtain⟨a,b,d,rfl,e⟩:=d6W hq;obtain⟨h1,m,h2⟩:=h a b d v e;exact⟨h1,λc h r w=>⟨m,h2 c h r w⟩⟩
theorem e5p:J9 Tryz.prog tab (I6 mL) 87 (XB λa b d=>some (.bool (blkB a b d))):=d1N L1 Tryz.func87 zw rfl λa b d v h=>by cases h;exact⟨rfl,2,by rw[Z5 (q:=c7A) (N:=NN) zw 1];exact t87 _ _ (e6f 0) (e3Y 0) a b d⟩
theorem e3r:J9 Tryz.prog tab (I6 mL) 58 (XB λa b d=>some (.bool (blkB a b d))):=d1N L1 Tryz.func58 zw rfl λa b d v h=>by cases h;exact⟨rfl,2,by rw[Z5 (q:=c6b) (N:=NN) zw 1];exact t58 _ _ (e5r 0) (e3L 0) a b d⟩
noncomputable def e2:Nat->Option (List Value->M Value):=(M5 (M5 (M5 (M5 (M5 (M5 e1 97 (X1 .i64 λz=>some (a9y (R4 z N8)))) 93 (λbs=>M.lift (a4v bs))) 85 (X1 .i64 λz=>some (.bool (I1 z)))) 42 (X2 .u64 .i64 a9M)) 87 (XB λa b d=>some (.bool (blkB a b d)))) 58 (XB λa b d=>some (.bool (blkB a b d))))
noncomputable def s2:a2t:=(U5 (U5 (U5 (U5 (U5 (U5 s1 97 (X1 .i64 λz=>some (a9y (R4 z N8)))) 93 (λbs=>M.lift (a4v bs))) 85 (X1 .i64 λz=>some (.bool (I1 z)))) 42 (X2 .u64 .i64 a9M)) 87 (XB λa b d=>some (.bool (blkB a b d)))) 58 (XB λa b d=>some (.bool (blkB a b d))))
theorem L2:Shelf' Tryz.prog tab (I6 mL) NN e2 s2:=(((((((((L1.add e7d).add e5f)).add e6D)).add e4E)).add e5p).add e3r)
theorem d4f (n z):o8 s2 (n+1) 97 [.int .i64 z]=M.pure (.ret (a9y (R4 z N8))):=a1j (q:=λz=>some (a9y (R4 z N8))) zw n rfl
theorem e6L (n z):o8 s2 (n+1) 85 [.int .i64 z]=M.pure (.ret (.bool (I1 z))):=a1j (q:=λz=>some (.bool (I1 z))) zw n rfl
theorem e4Y (n z):o8 s2 (n+1) 40 [.int .i64 z]=M.pure (.ret (.string ⟨⟨Q9 z⟩⟩)):=a1j (q:=λz=>some (.string ⟨⟨Q9 z⟩⟩)) zw n rfl
theorem e4T (n z)(h1:-9223372036854775808<=z)(h2:z<=9223372036854775807):o8 s2 (n+1) 37 [.int .i64 z]=M.pure (.ret (.string ⟨⟨Lib.itoa z⟩⟩)):=by refine V8 s2 n 37 _ (g:=b4o) zw ?_;show bcase (decide (-9223372036854775808<=z)&&decide (z<=9223372036854775807)) _ none=_;rw[wL h1,wL h2];rfl
theorem e4t:J9 Tryz.prog tab (I6 mL) 46 (X1 .i64 λz=>some (.int .i64 (.ofNat (E9 z)))):=a8O V5 N7 L2 Tryz.func46 zw rfl λz v h=>by cases h;exact⟨rfl,2,by rw[Z5 (q:=c6v) (N:=NN) zw 1];exact t46 _ _ (d4f 0) z⟩
theorem e3u:J9 Tryz.prog tab (I6 mL) 57 (X1 .i64 λz=>some (.bool (I1 z))):=a8O V5 N7 L2 Tryz.func57 zw rfl λz v h=>by cases h;exact⟨rfl,2,by rw[Z5 (q:=c7U) (N:=NN) zw 1];exact t57 _ _ (d4f 0) z⟩
noncomputable def b5b (k v i:Int):Option Value:=bcase (decide (-9223372036854775808<=i)&&decide (i<=9223372036854775807)) (some (.string ⟨⟨a6L k v i⟩⟩)) none
theorem d2i {k v i x}(h:b5b k v i=some x):-9223372036854775808<=i/\i<=9223372036854775807/\x=.string ⟨⟨a6L k v i⟩⟩:=by obtain⟨h1,rfl⟩:=a3A h;simp only[wK,vZ]at h1;exact⟨h1.1,h1.2,rfl⟩
theorem d6m (k v i)(h1:-9223372036854775808<=i)(h2:i<=9223372036854775807):b5b k v i=some (.string ⟨⟨a6L k v i⟩⟩):=by unfold b5b;rw[wL h1,wL h2];rfl
theorem e6M:J9 Tryz.prog tab (I6 mL) 14 (XB b5b):=d1N L2 Tryz.func14 zw rfl λk v i x h=>by obtain⟨h1,h2,rfl⟩:=d2i h;exact⟨rfl,2,by rw[Z5 (q:=c6n) (N:=NN) zw 1];exact t14 _ _ (e4Y 0) k v i h1 h2 (e4T 0 i h1 h2)⟩
noncomputable def d4o (k:Nat):Bool:=!(J2 (λr:a3V=>!(Nat.beq r.1 k)) N8)
theorem unk {z}(hu:R4 z N8=none)(k)(hk:d4o k=true):decide (z=Int.ofNat k)=false:=by
 rw[vX];intro e;have:J2 (λr:a3V=>!(Nat.beq r.1 k)) N8=true:=by rw[M4];intro r hr;have:=c2X z N8 hu r hr;rw[e]at this;have hne:r.1≠k:=λq=>this (by rw[q]);rw[X9 hne];rfl
 unfold d4o at hk;rw[this]at hk;cases hk
theorem c9H {z}(hu:R4 z N8=none):I1 z=false:=by unfold I1;rw[hu]
theorem e1Y (N call z)(h85:call 85 [.int .i64 z]=M.pure (.ret (.bool false))):b9y o9 N call (.int .i64 z)=M.pure (.ret (.bool false)):=by simp only[e6q,h85,O0,R6,U6,I4,K7,K4,K5,K6,V6,X5,a2o,F6,V.e7v,a5t,a1H,uD]
theorem e2Z (N call z)(h:call 124 [.int .i64 z]=M.pure (.ret (.bool false))):c7R o9 N call (.int .i64 z)=M.pure (.ret (.int .i64 (.ofNat 0))):=by simp only[f0l,h,O0,R6,U6,a5q,I4,A9,J5,V.e7v,O9,ug]
theorem e5I (N call z)(hu:R4 z N8=none):c6H o9 N call (.int .i64 z)=M.pure (.ret (.int .i64 (.ofNat 0))):=by simp only[e7N,unk hu 37 zw,unk hu 38 zw,unk hu 63 zw,unk hu 64 zw,unk hu 64520 zw,unk hu 64521 zw,unk hu 64522 zw,unk hu 64523 zw,unk hu 64524 zw,unk hu 64525 zw,unk hu 64526 zw,unk hu 64527 zw,unk hu 64528 zw,unk hu 64529 zw,O0,R6,y9,V6,X5,J5,F6,V.e7v,Q5]
theorem e6F (N call z)(hu:R4 z N8=none)(h91:call 91 [.int .i64 z]=M.pure (.ret (.int .i64 (.ofNat 0))))(h92:call 92 [.int .i64 z]=M.pure (.ret (.int .i64 (.ofNat 0)))):c5Y o9 N call (.int .i64 z)=M.pure (.ret (.int .i64 (.ofNat 0))):=by have e:decide (Int.ofNat 0<Int.ofNat 0)=false:=zu;simp only[e9Z,unk hu 2 zw,unk hu 3 zw,unk hu 4 zw,unk hu 12 zw,unk hu 13 zw,unk hu 14 zw,unk hu 16 zw,unk hu 17 zw,unk hu 28 zw,unk hu 32 zw,unk hu 33 zw,unk hu 34 zw,unk hu 35 zw,unk hu 36 zw,unk hu 65 zw,unk hu 66 zw,unk hu 208 zw,unk hu 210 zw,h91,h92,e,O0,R6,U6,I4,y9,V6,X5,J5,F6,V.e7v,Q5,K3]
theorem e1e:J9 Tryz.prog tab (I6 mL) 39 (X1 .i64 λz=>bcase (!(I1 z)) (some (.int .i64 (.ofNat (E9 z)))) none):=a8O V5 N7 L2 Tryz.func39 zw rfl λz v h=>by obtain⟨h1,rfl⟩:=a3A h;refine⟨rfl,4,?_⟩;unfold I1 at h1;cases hf:R4 z N8 with|some r=>rw[hf]at h1;cases h1|none=>rw[show E9 z=0 by unfold E9;rw[hf],Z5 (q:=c5Y) (N:=NN) zw 3];refine a1f.pure (e6F _ _ z hf ?_ ?_);rw[Z5 (q:=c7R) (N:=NN) zw 2];refine e2Z _ _ z ?_;rw[Z5 (q:=b9y) (N:=NN) zw 1];refine e1Y _ _ z ?_;rw[e6L 0,c9H hf];rw[Z5 (q:=c6H) (N:=NN) zw 2];exact e5I _ _ z hf
theorem e6y:J9 Tryz.prog tab (I6 mL) 39 (X1 .i64 λz=>some (.int .i64 (.ofNat (E9 z)))):=d7h c8w e1e λz v h=>by cases hk:I1 z with|true=>exact Or.inl h|false=>exact Or.inr h
noncomputable def e3:Nat->Option (List Value->M Value):=(M5 (M5 (M5 (M5 (M5 e2 46 (X1 .i64 λz=>some (.int .i64 (.ofNat (E9 z))))) 57 (X1 .i64 λz=>some (.bool (I1 z)))) 14 (XB b5b)) 39 (X1 .i64 λz=>some (.int .i64 (.ofNat (E9 z))))) 94 (X1 .i64 a6Q))
noncomputable def s3:a2t:=(U5 (U5 (U5 (U5 (U5 s2 46 (X1 .i64 λz=>some (.int .i64 (.ofNat (E9 z))))) 57 (X1 .i64 λz=>some (.bool (I1 z)))) 14 (XB b5b)) 39 (X1 .i64 λz=>some (.int .i64 (.ofNat (E9 z))))) 94 (X1 .i64 a6Q))
theorem L3:Shelf' Tryz.prog tab (I6 mL) NN e3 s3:=(((((((((L2).add e4t).add e3u)))).add e6M).add e6y).add d4e)
noncomputable def uA (k:Nat):Bool:=a2M k [2,3,4,7,8,9,12,16,20,5,10,11,14,15,17]
noncomputable def uB (k:Nat):Bool:=a2M k [5,10,11,14,15,13,17]
noncomputable def uN (k:Nat):Bool:=a2M k [17,18,19]
noncomputable def d9A (k:Nat):M CR:=M.pure (.ret (.tuple ⟨[.bool (uA k),.bool (uB k),.bool (uN k)]⟩))
theorem t84 (N call k)(hk:k<=20):c6x o9 N call (.int .i64 (.ofNat k))=d9A k:=by rw[e8j];obtain rfl|rfl|rfl|rfl|rfl|rfl|rfl|rfl|rfl|rfl|rfl|rfl|rfl|rfl|rfl|rfl|rfl|rfl|rfl|rfl|rfl:k=0\/k=1\/k=2\/k=3\/k=4\/k=5\/k=6\/k=7\/k=8\/k=9\/k=10\/k=11\/k=12\/k=13\/k=14\/k=15\/k=16\/k=17\/k=18\/k=19\/k=20:=zy;all_goals kernel_rfl
theorem c2G:J2 (λr:a3V=>Nat.ble r.2.2 20) N8=true:=zw
theorem b4f (z):E9 z<=20:=by unfold E9;cases h:R4 z N8 with|none=>decide|some r=>exact vT ((M4 _ _).1 c2G r (a3u z N8 r h).1)
noncomputable def idxAll (l:List Int):Bool:=J2 idxB l
theorem a8Z (q t):idxAll (q::t)=(idxB q&&idxAll t):=U1 _ _ _
abbrev M0 (l:List Int):List Value:=l.map λn=>Value.int .i64 n
theorem d3A (N call)(h59:∀n,call 59 [.int .i64 n]=M.pure (.ret (.bool (idxB n))))(c h v l)(H:K8 c h v (M0 l))(hl:l.length<4294967296):∀(t) (i k) (g0 g1 g2 g3 g4 g5 g6 g7 g8 g9 g11 g12) (r w),l.drop i=t->t.length<k->l9 (go (U4 (d5o o9 N call v) k [g0,g1,g2,g3,g4,g5,g6,g7,g8,g9,.bool false,g11,g12,.int .i64 (.ofNat i)]) ⟨c,h,r,w⟩) λx s=>s.c=c/\s.h=h/\((idxAll t=true/\x.1=.exit 0)\/(idxAll t=false/\x.1=.ret/\C9 x.2 10=.bool false)):=by
 intro t;have hlen:=H.len;rw[wF]at hlen;induction t with
  |nil=>
   intro i k g0 g1 g2 g3 g4 g5 g6 g7 g8 g9 g11 g12 r w hd hk;obtain⟨k,rfl⟩:∃m,k=m+1:=⟨k-1,zU⟩;have hi:Nat.blt i l.length=false:=by have:l.length<=i:=yl;cases q:Nat.blt i l.length with|false=>rfl|true=>have:i<l.length:=yH;omega
   simp(maxSteps:=9999999) (disch:=try exact dx)only[Y8,b5X,hlen,a2A,hi,O0,U6,J3,Z9,y9,V6,X5,J5,a1y,V.e7v,F7,I8];exact l9.done ⟨rfl,rfl,Or.inl ⟨rfl,rfl⟩⟩|cons q t ih=>
   intro i k g0 g1 g2 g3 g4 g5 g6 g7 g8 g9 g11 g12 r w hd hk;obtain⟨k,rfl⟩:∃m,k=m+1:=⟨k-1,zU⟩;have hil:i<l.length:=zJ;have hi:Nat.blt i l.length=true:=I7 hil;have hq:l[i]?=some q:=zF;have hd':l.drop (i+1)=t:=zI;have hinc:=J6 i zy;obtain⟨p,b,_,e1,e2⟩:=H.read (wQ c) (λ_ _=>rfl) (i:=i) (x:=.int .i64 q) (by rw[vM,hq];rfl);cases hb:idxB q with
    |true=>
     simp(maxSteps:=9999999) (disch:=try exact dx)only[gD,Y8,b5X,hlen,a2A,e1,e2,h59,hb,hinc,F7,I8];have e:idxAll (q::t)=idxAll t:=by rw[a8Z,hb,a8q]
     rw[e];exact ih (i+1) k _ _ _ _ _ _ _ _ _ _ _ _ _ _ hd' zU|false=>simp(maxSteps:=9999999) (disch:=try exact dx)only[gD,Y8,b5X,hlen,a2A,e1,e2,h59,hb,hinc,a2k,F7,I8];refine l9.done ⟨rfl,rfl,Or.inr ⟨?_,rfl,rfl⟩⟩;rw[a8Z,hb,uU]
theorem t60 (N call)(h59:∀n,call 59 [.int .i64 n]=M.pure (.ret (.bool (idxB n))))(c h v l)(H:K8 c h v (M0 l))(hl:l.length<4294967296)(hN:l.length<N)(r w):l9 (go (c6y o9 N call v) ⟨c,h,r,w⟩) λx s=>x=.ret (.bool (idxAll l))/\s.c=c/\s.h=h:=by simp(maxSteps:=9999999) (disch:=try exact dx)only[f0f,R6,a5q,J8];refine l9.bindS (d3A N call h59 c h v l H hl l 0 N _ _ _ _ _ _ _ _ _ _ _ _ r w rfl hN) λx s hq=>?_;obtain⟨x1,x2⟩:=x;obtain⟨c',h',r',w'⟩:=s;obtain⟨rfl,rfl,⟨e1,rfl⟩|⟨e1,rfl,e2⟩⟩:=hq;simp(maxSteps:=9999999) (disch:=try exact dx)only[Z9,a9U,a2p,a1y];exact l9.done ⟨by rw[e1],rfl,rfl⟩;simp only at e2;simp(maxSteps:=9999999) (disch:=try exact dx)only[Z9,a2k,e2];exact l9.done ⟨by rw[e1],rfl,rfl⟩
theorem d2U (N call)(h86:∀n,call 86 [.int .i64 n]=M.pure (.ret (.bool (idxB n))))(c h v l)(H:K8 c h v (M0 l))(hl:l.length<4294967296):∀(t) (i k) (g0 g1 g2 g3 g4 g5 g6 g8) (r w),l.drop i=t->t.length<k->l9 (go (U4 (d4x o9 N call (.int .i64 (.ofNat l.length)) v) k [g0,g1,g2,g3,g4,g5,g6,.bool false,g8,.int .i64 (.ofNat i)]) ⟨c,h,r,w⟩) λx s=>s.c=c/\s.h=h/\((idxAll t=true/\x.1=.exit 1)\/(idxAll t=false/\x.1=.ret/\C9 x.2 7=.bool false)):=by
 intro t;induction t with
  |nil=>
   intro i k g0 g1 g2 g3 g4 g5 g6 g8 r w hd hk;obtain⟨k,rfl⟩:∃m,k=m+1:=⟨k-1,zU⟩;have hi:Nat.blt i l.length=false:=by have:l.length<=i:=yl;cases q:Nat.blt i l.length with|false=>rfl|true=>have:i<l.length:=yH;omega
   simp(maxSteps:=9999999) (disch:=try exact dx)only[Y8,b5R,a2A,hi,O0,U6,J3,Z9,y9,V6,X5,J5,a1y,V.e7v,F7,I8];exact l9.done ⟨rfl,rfl,Or.inl ⟨rfl,rfl⟩⟩|cons q t ih=>
   intro i k g0 g1 g2 g3 g4 g5 g6 g8 r w hd hk;obtain⟨k,rfl⟩:∃m,k=m+1:=⟨k-1,zU⟩;have hil:i<l.length:=zJ;have hi:Nat.blt i l.length=true:=I7 hil;have hq:l[i]?=some q:=zF;have hd':l.drop (i+1)=t:=zI;have hinc:=J6 i zy;obtain⟨p,b,_,e1,e2⟩:=H.read (wQ c) (λ_ _=>rfl) (i:=i) (x:=.int .i64 q) (by rw[vM,hq];rfl);cases hb:idxB q with
    |true=>
     simp(maxSteps:=9999999) (disch:=try exact dx)only[gD,Y8,b5R,a2A,e1,e2,h86,hb,hinc,F7,I8];have e:idxAll (q::t)=idxAll t:=by rw[a8Z,hb,a8q]
     rw[e];exact ih (i+1) k _ _ _ _ _ _ _ _ _ _ hd' zU|false=>simp(maxSteps:=9999999) (disch:=try exact dx)only[gD,Y8,b5R,a2A,e1,e2,h86,hb,hinc,a2k,F7,I8];refine l9.done ⟨rfl,rfl,Or.inr ⟨?_,rfl,rfl⟩⟩;rw[a8Z,hb,uU]
structure Ins where
 op:Int
 A:Int
 B:Int
 N:Nat
 k:Int
 v:Int
 i:Int
 types:List Int
 labels:List Int
noncomputable def D6 (X:Ins)(tv lv:Value):Value:=.agg ⟨[.int .i64 X.op,.int .i64 X.A,.int .i64 X.B,.int .u64 (.ofNat X.N),.int .i64 X.k,.int .i64 X.v,.int .i64 X.i,tv,lv]⟩
theorem d7G (n):decide (Int.ofNat 4294967296<=Int.ofNat n)=!(Nat.blt n 4294967296):=by
 cases h:Nat.blt n 4294967296 with
  |true=>
   have:n<4294967296:=by simpa[uh]using h
   simp only[a0U,vX,vz];omega|false=>
   have:¬n<4294967296:=λq=>by rw[I7 q]at h;cases h
   simp only[a0E,vZ,vz];omega
noncomputable def a3n (X:Ins):Bool:=decide (X.k=0)&&(decide (X.v=0)&&decide (X.i=0))
noncomputable def a2z (ua ub uc:Bool)(X:Ins):Bool:=!ua&& !decide (X.A=0)|| !ub&& !decide (X.B=0)|| !uc&& !X.N.beq 0|| !idxB X.A|| !idxB X.B
noncomputable def a2E (K:Nat)(X:Ins):Bool:=!K.beq 19&& !X.N.blt 4294967296|| !K.beq 1&& !a3n X|| !K.beq 6&&Nat.blt 0 X.types.length|| !K.beq 3&&Nat.blt 0 X.labels.length
noncomputable def b0G (l:List Int):Bool:=match l with|[t]=>a0X t|_=>false
noncomputable def a0z (K:Nat)(X:Ins):Bool:=bcase (K.beq 1) (blkB X.k X.v X.i) (bcase (K.beq 6) (b0G X.types) (bcase (K.beq 17) (decide (X.A<=63)) (bcase (K.beq 20) (decide (X.A=3)||decide (X.A=4)) (idxAll X.labels))))
noncomputable def a0f (K:Nat)(ua ub uc:Bool)(X:Ins):Bool:=bcase (a2z ua ub uc X) false (bcase (a2E K X) false (a0z K X))
theorem d3u {K ua ub uc X}(h:a2z ua ub uc X=true):a0f K ua ub uc X=false:=by unfold a0f;rw[h];rfl
theorem d3z {K ua ub uc X}(h1:a2z ua ub uc X=false)(h:a2E K X=true):a0f K ua ub uc X=false:=by unfold a0f;rw[h1,h];rfl
theorem d2P {K ua ub uc X}(h1:a2z ua ub uc X=false)(h:a2E K X=false):a0f K ua ub uc X=a0z K X:=by unfold a0f;rw[h1,h];rfl
theorem t34 (N call X tv lv K ua ub uc)(h39:call 39 [.int .i64 X.op]=M.pure (.ret (.int .i64 (.ofNat K))))(h84:call 84 [.int .i64 (.ofNat K)]=M.pure (.ret (.tuple ⟨[.bool ua,.bool ub,.bool uc]⟩)))(h85:call 85 [.int .i64 X.op]=M.pure (.ret (.bool true)))(h86:∀n,call 86 [.int .i64 n]=M.pure (.ret (.bool (idxB n))))(h88:∀n,call 88 [.int .i64 n]=M.pure (.ret (.bool (a0X n))))(h87:∀a b d,call 87 [.agg ⟨[.int .i64 a,.int .i64 b,.int .i64 d]⟩]=M.pure (.ret (.bool (blkB a b d))))(c)(h)(Ht:K8 c h tv (M0 X.types))(Hl:K8 c h lv (M0 X.labels))(hN:X.labels.length<N)(hl:X.labels.length<4294967296)(r w):l9 (go (c1p o9 N call (D6 X tv lv)) ⟨c,h,r,w⟩) λx s=>x=.ret (.bool (a0f K ua ub uc X))/\∀i,i<c->s.h.get i=h.get i:=by
 obtain⟨ta,te,rfl,_⟩:=id Ht;obtain⟨la,le,rfl,_⟩:=id Hl;simp(maxSteps:=9999999) (disch:=try exact dx)only[gD,e2Y,D6,h39,h84,h85,h86,h87,d7G,T9,b3M,a2A,a3J,a8q,a2p,a5E,K7,H7,K4,K5,K6,a4I,a0P,P5,a2g,b0e,O3,a8l,a9Z,a5t,K3,a1H,S9,O8,P7,P9,a4i];refine l9.cases (λg1=>?_) (λg1=>?_);exact l9.done ⟨by rw[d3u (K:=K) (ua:=ua) (ub:=ub) (uc:=uc) (X:=X) g1],λi hi=>zT⟩;refine l9.cases (λg2=>?_) (λg2=>?_);exact l9.done ⟨by rw[d3z (K:=K) (ua:=ua) (ub:=ub) (uc:=uc) (X:=X) g1 g2],λi hi=>zT⟩;rw[d2P (K:=K) (ua:=ua) (ub:=ub) (uc:=uc) (X:=X) g1 g2];refine l9.cases (λk1=>?_) (λk1=>?_);exact l9.done ⟨by unfold a0z;rw[k1];rfl,λi hi=>zT⟩;refine l9.cases (λk6=>?_) (λk6=>?_);have e:a0z K X=b0G X.types:=by unfold a0z;rw[k1,k6];rfl
 rw[e];have Ht2:K8 c h (.slice ta X.types.length te) (M0 X.types):=by simpa only[wF]using Ht
 cases hb:X.types.length.beq 1 with|true=>have hl1:=wR hb;obtain⟨t,ht⟩:∃t,X.types=[t]:=List.length_eq_one_iff.1 hl1;rw[show b0G X.types=a0X t by rw[ht];rfl];obtain⟨p,b,hlt,e1,e2⟩:=Ht2.read (vv c) (h':=upd h c (.cells [(.int .i64 X.op,0),(.int .i64 X.A,0),(.int .i64 X.B,0),(.int .u64 (Int.ofNat X.N),0),(.int .i64 X.k,0),(.int .i64 X.v,0),(.int .i64 X.i,0),(.slice ta X.types.length te,0),(.slice la X.labels.length le,0)] 0 false)) (λb hb=>d9 zy) (i:=0) (x:=.int .i64 t) (by rw[ht];rfl);simp(maxSteps:=9999999) (disch:=try exact dx)only[e1,e2,h88,J8,J3,Z9,I4,A9,V6,X5,P6,F6,V.e7v,I7];exact l9.done ⟨rfl,λi hi=>zT⟩|false=>have hf:b0G X.types=false:=xV;rw[hf];simp(maxSteps:=9999999) (disch:=try exact dx)only[J3,Z9,y9,V6,X5,O3,F6,V.e7v];exact l9.done ⟨rfl,λi hi=>zT⟩
 refine l9.cases (λk17=>?_) (λk17=>?_);exact l9.done ⟨by unfold a0z;rw[k1,k6,k17];rfl,λi hi=>zT⟩;refine l9.cases (λk20=>?_) (λk20=>?_);exact l9.done ⟨by unfold a0z;rw[k1,k6,k17,k20];rfl,λi hi=>zT⟩;have e:a0z K X=idxAll X.labels:=by unfold a0z;rw[k1,k6,k17,k20];rfl
 rw[e];have Hl2:K8 c h (.slice la X.labels.length le) (M0 X.labels):=by simpa only[wF]using Hl
 refine l9.bindS (d2U N call h86 (c+1) _ _ X.labels (Hl2.mono (vv c) (λb hb=>d9 zy)) hl X.labels 0 N _ _ _ _ _ _ _ _ _ _ rfl hN) λx s hq=>?_;obtain⟨x1,x2⟩:=x;obtain⟨c',h',r',w'⟩:=s;obtain⟨rfl,rfl,⟨e1,rfl⟩|⟨e1,rfl,e2⟩⟩:=hq;simp(maxSteps:=9999999) (disch:=try exact dx)only[Z9,a9U,a2p,a1y];exact l9.done ⟨by rw[e1],λi hi=>zT⟩;simp only at e2;simp(maxSteps:=9999999) (disch:=try exact dx)only[Z9,a2k,e2];exact l9.done ⟨by rw[e1],λi hi=>zT⟩
noncomputable def rdI (v:Value):M (List Int):=M.bind (b7r v) λvs=>M.obind (b3a .i64 vs) λl=>M.guard (Nat.blt (x8 l) 1000) (M.pure l)
theorem Fr.rdI (v:Value):Fr (rdI v):=Fr.bind (Fr.rdSl v) λ_=>Fr.obind _ λ_=>Fr.guard _ (Fr.pure _)
theorem b6W {v s s' l}(h:rdI v s=some (l,s')):K8 s.c s.h v (M0 l)/\l.length<1000/\s'.c=s.c/\s'.h=s.h:=by obtain⟨vs,s1,h1,h2⟩:=C8 h;obtain⟨l',h3,h4⟩:=G5 h2;obtain⟨h5,h6⟩:=G9 h4;obtain⟨rfl,rfl⟩:=q9 h6;obtain⟨q1,q2,q3⟩:=c1G h1;rw[c5m h3]at q1;rw[F9]at h5;exact⟨q1,by simpa[uh]using h5,q2,q3⟩
theorem b7P {c c' h h' v l}(H:K8 c h v (M0 l))(hl:l.length<1000)(hc:c<=c')(hh:∀b,b<c->h'.get b=h.get b):∃q:List Nat->List Nat,∀r w,go (rdI v) ⟨c',h',r,w⟩=some (l,⟨c',h',q r,w⟩):=by obtain⟨q,hq⟩:=d3d H hc hh;refine⟨q,λr w=>?_⟩;unfold rdI;rw[J8,hq,J3,c8o,E8,F9,I7 hl,P8];rfl
noncomputable def XL (q:List Int->Option Value)(bs:List Value):M Value:=match bs with|[v]=>M.bind (rdI v) λl=>M.lift (q l)|_=>M.fail
theorem e6V (q bs):Fr (XL q bs):=by unfold XL;split;exact Fr.bind (Fr.rdI _) λ_=>Fr.lift _;exact Fr.fail
theorem e2X {q bs s s' x}(h:XL q bs s=some (x,s')):∃v l,bs=[v]/\K8 s.c s.h v (M0 l)/\l.length<1000/\q l=some x/\s'.c=s.c/\s'.h=s.h:=by unfold XL at h;split at h;rename_i v;obtain⟨l,s1,h1,h2⟩:=C8 h;obtain⟨h3,rfl⟩:=a3i h2;obtain⟨q1,q2,q3,q4⟩:=b6W h1;exact⟨v,l,rfl,q1,q2,h3,q3,q4⟩;cases h
theorem e1v {q c c' h h' v x l}(H:K8 c h v (M0 l))(hl:l.length<1000)(hc:c<=c')(hh:∀b,b<c->h'.get b=h.get b)(e:q l=some x):∃z:List Nat->List Nat,∀r w,go (XL q [v]) ⟨c',h',r,w⟩=some (x,⟨c',h',z r,w⟩):=by obtain⟨z,hz⟩:=b7P H hl hc hh;refine⟨z,λr w=>?_⟩;show go (M.bind (rdI v) λl=>M.lift (q l)) _=_;rw[J8,hz,J3,e];rfl
theorem d4L {sh f g}(h:sh.get f=some (arX g))(m){bs s s' x}(e:go (g bs) s=some (x,s')):go (o8 sh (m+1) f bs) s=some (.ret x,s'):=by rw[a4V sh m f bs h,J8,e];rfl
noncomputable def XI (q:Ins->Option Value)(bs:List Value):M Value:=match bs with|[.agg ⟨[.int .i64 op,.int .i64 A,.int .i64 B,.int .u64 (.ofNat N),.int .i64 k,.int .i64 v,.int .i64 i,tv,lv]⟩]=>M.bind (rdI tv) λts=>M.bind (rdI lv) λls=>M.lift (q ⟨op,A,B,N,k,v,i,ts,ls⟩)|_=>M.fail
theorem e4C (q bs):Fr (XI q bs):=by unfold XI;split;exact Fr.bind (Fr.rdI _) λ_=>Fr.bind (Fr.rdI _) λ_=>Fr.lift _;exact Fr.fail
structure InsAt (c:Nat) (h:Trie VObj) (X:Ins) (x:Value):Prop where
 ex:∃ tv lv,x=D6 X tv lv∧K8 c h tv (M0 X.types)∧K8 c h lv (M0 X.labels)
 t:X.types.length<1000
 l:X.labels.length<1000
theorem InsAt.mono {c c' h h' X x}(H:InsAt c h X x)(hc:c<=c')(hh:∀b,b<c->h'.get b=h.get b):InsAt c' h' X x:=by obtain⟨⟨tv,lv,e,h1,h2⟩,h3,h4⟩:=H;exact⟨⟨tv,lv,e,h1.mono hc hh,h2.mono hc hh⟩,h3,h4⟩
theorem d9t {q bs s s' y}(h:XI q bs s=some (y,s')):∃X x,bs=[x]/\InsAt s.c s.h X x/\q X=some y/\s'.c=s.c/\s'.h=s.h:=by unfold XI at h;split at h;rename_i op A B N k v i tv lv;obtain⟨ts,s1,h1,h2⟩:=C8 h;obtain⟨ls,s2,h3,h4⟩:=C8 h2;obtain⟨h5,rfl⟩:=a3i h4;obtain⟨q1,q2,q3,q4⟩:=b6W h1;obtain⟨p1,p2,p3,p4⟩:=b6W h3;rw[q3,q4]at p1;exact⟨_,_,rfl,⟨⟨tv,lv,rfl,q1,p1⟩,q2,p2⟩,h5,by rw[p3,q3],by rw[p4,q4]⟩;cases h
theorem d8Q {q c c' h h' X x y}(H:InsAt c h X x)(hc:c<=c')(hh:∀b,b<c->h'.get b=h.get b)(e:q X=some y):∃z:List Nat->List Nat,∀r w,go (XI q [x]) ⟨c',h',r,w⟩=some (y,⟨c',h',z r,w⟩):=by obtain⟨⟨tv,lv,rfl,h1,h2⟩,h3,h4⟩:=H;obtain⟨z1,e1⟩:=b7P h1 h3 hc hh;obtain⟨z2,e2⟩:=b7P h2 h4 hc hh;refine⟨λr=>z2 (z1 r),λr w=>?_⟩;show go (M.bind (rdI tv) λts=>M.bind (rdI lv) λls=>M.lift (q ⟨X.op,X.A,X.B,X.N,X.k,X.v,X.i,ts,ls⟩)) _=_;rw[J8,e1,J3,J8,e2,J3];show go (M.lift (q X)) _=_;rw[e];rfl
theorem d2c {ext sh}(L:Shelf' Tryz.prog tab (I6 mL) NN ext sh){f fn cd}(hPf:Tryz.prog.funcs[f]?=some fn)(hnum:(fn.name== "runtime.NumGoroutine")=false)(hb:fn.body=some cd){q}(h:∀X x y c hp,InsAt c hp X x->q X=some y->K9 8 y=true/\∃m,∀r w,l9 (go (o8 sh m f [x]) ⟨c,hp,r,w⟩) λz s2=>z=.ret y/\∀i,i<c->s2.h.get i=hp.get i):J9 Tryz.prog tab (I6 mL) f (XI q):=a7u V5 N7 L.e L.s hPf hnum hb (e4C q) λbs s y s1 hq=>by obtain⟨X,x,rfl,h1,h2,h3,h4⟩:=d9t hq;refine⟨(h X x y s.c s.h h1 h2).1,h3,h4,λc hc=>?_⟩;obtain⟨_,m,hm⟩:=h X x y c s.h (h1.mono hc λ_ _=>rfl) h2;exact⟨m,hm s.r s.w⟩
theorem e4h (n z):o8 s3 (n+1) 59 [.int .i64 z]=M.pure (.ret (.bool (idxB z))):=a1j (q:=λz=>some (.bool (idxB z))) zw n rfl
theorem e7i:J9 Tryz.prog tab (I6 mL) 60 (XL λl=>some (.bool (idxAll l))):=a7u V5 N7 L3.e (L3 (mL:=mL)).s Tryz.func60 zw rfl (e6V _) λbs s y s1 hq=>by obtain⟨v,l,rfl,h1,h2,h3,h4,h5⟩:=e2X hq;cases h3;refine⟨rfl,h4,h5,λc hc=>⟨2,?_⟩⟩;rw[Z5 (q:=c6y) (N:=NN) zw 1];exact(t60 NN _ (e4h 0) c s.h v l (h1.mono hc λ_ _=>rfl) zy (by show l.length<1000000;omega) s.r s.w).mono λx s2 ⟨a,b,d⟩=>⟨a,λi _=>by rw[d]⟩
theorem e3O (N call X tv lv K ua ub uc)(h39:call 39 [.int .i64 X.op]=M.pure (.ret (.int .i64 (.ofNat K))))(h84:call 84 [.int .i64 (.ofNat K)]=M.pure (.ret (.tuple ⟨[.bool ua,.bool ub,.bool uc]⟩)))(h85:call 85 [.int .i64 X.op]=M.pure (.ret (.bool false)))(c)(h)(Ht:K8 c h tv (M0 X.types))(Hl:K8 c h lv (M0 X.labels))(r w):l9 (go (c1p o9 N call (D6 X tv lv)) ⟨c,h,r,w⟩) λx s=>x=.ret (.bool false)/\∀i,i<c->s.h.get i=h.get i:=by obtain⟨ta,te,rfl,_⟩:=id Ht;obtain⟨la,le,rfl,_⟩:=id Hl;simp(maxSteps:=9999999) (disch:=try exact dx)only[gD,e2Y,D6,h39,h84,h85,a2p,a5E,K7,H7,K4,K5,K6,a4I,a0P,P5,a2g,P6,O8,P7,P9,a4i];exact l9.done ⟨rfl,λi hi=>zT⟩
end Go.Proofs.YtmomonnlmbljoaaGreatDoor.S
end
