import Derived.Test.YtmomonnlmbljoaaGreatDoorHak
import Derived.Test.YtmomonnlmbljoaaGreatDoorHav
set_option maxRecDepth 1000000
set_option maxHeartbeats 4000000
set_option linter.unusedVariables false
set_option linter.unusedSimpArgs false
section
namespace Go.Proofs.YtmomonnlmbljoaaGreatDoor.S
open Go.V Go.RowKit Go.Shelf Go.Proofs
variable {mL:Int}
attribute [local congr] m0 l9 n8 n9 q9
noncomputable def uA (k:Nat):Bool:=a0D k [2,3,4,7,8,9,12,16,20,5,10,11,14,15,17]
noncomputable def uB (k:Nat):Bool:=a0D k [5,10,11,14,15,13,17]
noncomputable def uN (k:Nat):Bool:=a0D k [17,18,19]
noncomputable def d8k (k:Nat):M CR:=M.pure (.ret (.tuple ⟨[.bool (uA k),.bool (uB k),.bool (uN k)]⟩))
theorem t84 (N call k)(hk:k<=20):c2z i7 N call (.int .i64 (.ofNat k))=d8k k:=by rw[e5J];obtain rfl|rfl|rfl|rfl|rfl|rfl|rfl|rfl|rfl|rfl|rfl|rfl|rfl|rfl|rfl|rfl|rfl|rfl|rfl|rfl|rfl:k=0\/k=1\/k=2\/k=3\/k=4\/k=5\/k=6\/k=7\/k=8\/k=9\/k=10\/k=11\/k=12\/k=13\/k=14\/k=15\/k=16\/k=17\/k=18\/k=19\/k=20:=zy;all_goals kernel_rfl
theorem b9y:A9 (λr:a1U=>Nat.ble r.2.2 20) D8=true:=zw
theorem b1R (z):w6 z<=20:=by unfold w6;cases h:G7 z D8 with|none=>decide|some r=>exact wk ((C9 _ _).1 b9y r (a1w z D8 r h).1)
noncomputable def idxAll (l:List Int):Bool:=A9 idxB l
theorem a6L (q t):idxAll (q::t)=(idxB q&&idxAll t):=I7 _ _ _
abbrev A7 (l:List Int):List Value:=l.map λn=>Value.int .i64 n
theorem c7Q (N call)(h59:∀n,call 59 [.int .i64 n]=M.pure (.ret (.bool (idxB n))))(c h v l)(H:C0 c h v (A7 l))(hl:l.length<4294967296):∀(t) (i k) (g0 g1 g2 g3 g4 g5 g6 g7 g8 g9 g11 g12) (r w),l.drop i=t->t.length<k->d8 (go (I9 (d1T i7 N call v) k [g0,g1,g2,g3,g4,g5,g6,g7,g8,g9,.bool false,g11,g12,.int .i64 (.ofNat i)]) ⟨c,h,r,w⟩) λx s=>s.c=c/\s.h=h/\((idxAll t=true/\x.1=.exit 0)\/(idxAll t=false/\x.1=.ret/\r6 x.2 10=.bool false)):=by
 intro t;have hlen:=H.len;rw[xF]at hlen;induction t with
  |nil=>
   intro i k g0 g1 g2 g3 g4 g5 g6 g7 g8 g9 g11 g12 r w hd hk;obtain⟨k,rfl⟩:∃m,k=m+1:=⟨k-1,zb⟩;have hi:Nat.blt i l.length=false:=by have:l.length<=i:=yz;cases q:Nat.blt i l.length with|false=>rfl|true=>have:i<l.length:=yb;omega
   simp(maxSteps:=9999999) (disch:=try exact dx)only[M6,b3n,hlen,a0A,hi,E9,J2,B2,N2,m7,J9,K7,B5,Y8,V.e3y,x9,A6];exact d8.done ⟨rfl,rfl,Or.inl ⟨rfl,rfl⟩⟩|cons q t ih=>
   intro i k g0 g1 g2 g3 g4 g5 g6 g7 g8 g9 g11 g12 r w hd hk;obtain⟨k,rfl⟩:∃m,k=m+1:=⟨k-1,zb⟩;have hil:i<l.length:=zQ;have hi:Nat.blt i l.length=true:=A5 hil;have hq:l[i]?=some q:=zM;have hd':l.drop (i+1)=t:=zP;have hinc:=B8 i zy;obtain⟨p,b,_,e1,e2⟩:=H.read (xR c) (λ_ _=>rfl) (i:=i) (x:=.int .i64 q) (by rw[wc,hq];rfl);cases hb:idxB q with
    |true=>
     simp(maxSteps:=9999999) (disch:=try exact dx)only[gD,M6,b3n,hlen,a0A,e1,e2,h59,hb,hinc,x9,A6];have e:idxAll (q::t)=idxAll t:=by rw[a6L,hb,a8o]
     rw[e];exact ih (i+1) k _ _ _ _ _ _ _ _ _ _ _ _ _ _ hd' zb|false=>simp(maxSteps:=9999999) (disch:=try exact dx)only[gD,M6,b3n,hlen,a0A,e1,e2,h59,hb,hinc,a0Q,x9,A6];refine d8.done ⟨rfl,rfl,Or.inr ⟨?_,rfl,rfl⟩⟩;rw[a6L,hb,vg]
theorem t60 (N call)(h59:∀n,call 59 [.int .i64 n]=M.pure (.ret (.bool (idxB n))))(c h v l)(H:C0 c h v (A7 l))(hl:l.length<4294967296)(hN:l.length<N)(r w):d8 (go (c3c i7 N call v) ⟨c,h,r,w⟩) λx s=>x=.ret (.bool (idxAll l))/\s.c=c/\s.h=h:=by simp(maxSteps:=9999999) (disch:=try exact dx)only[e6h,I1,a4Z,B4];refine d8.bindS (c7Q N call h59 c h v l H hl l 0 N _ _ _ _ _ _ _ _ _ _ _ _ r w rfl hN) λx s hq=>?_;obtain⟨x1,x2⟩:=x;obtain⟨c',h',r',w'⟩:=s;obtain⟨rfl,rfl,⟨e1,rfl⟩|⟨e1,rfl,e2⟩⟩:=hq;simp(maxSteps:=9999999) (disch:=try exact dx)only[N2,a7E,a0q,Y8];exact d8.done ⟨by rw[e1],rfl,rfl⟩;simp only at e2;simp(maxSteps:=9999999) (disch:=try exact dx)only[N2,a0Q,e2];exact d8.done ⟨by rw[e1],rfl,rfl⟩
theorem c9m (N call)(h86:∀n,call 86 [.int .i64 n]=M.pure (.ret (.bool (idxB n))))(c h v l)(H:C0 c h v (A7 l))(hl:l.length<4294967296):∀(t) (i k) (g0 g1 g2 g3 g4 g5 g6 g8) (r w),l.drop i=t->t.length<k->d8 (go (I9 (d1P i7 N call (.int .i64 (.ofNat l.length)) v) k [g0,g1,g2,g3,g4,g5,g6,.bool false,g8,.int .i64 (.ofNat i)]) ⟨c,h,r,w⟩) λx s=>s.c=c/\s.h=h/\((idxAll t=true/\x.1=.exit 1)\/(idxAll t=false/\x.1=.ret/\r6 x.2 7=.bool false)):=by
 intro t;induction t with
  |nil=>
   intro i k g0 g1 g2 g3 g4 g5 g6 g8 r w hd hk;obtain⟨k,rfl⟩:∃m,k=m+1:=⟨k-1,zb⟩;have hi:Nat.blt i l.length=false:=by have:l.length<=i:=yz;cases q:Nat.blt i l.length with|false=>rfl|true=>have:i<l.length:=yb;omega
   simp(maxSteps:=9999999) (disch:=try exact dx)only[M6,b3V,a0A,hi,E9,J2,B2,N2,m7,J9,K7,B5,Y8,V.e3y,x9,A6];exact d8.done ⟨rfl,rfl,Or.inl ⟨rfl,rfl⟩⟩|cons q t ih=>
   intro i k g0 g1 g2 g3 g4 g5 g6 g8 r w hd hk;obtain⟨k,rfl⟩:∃m,k=m+1:=⟨k-1,zb⟩;have hil:i<l.length:=zQ;have hi:Nat.blt i l.length=true:=A5 hil;have hq:l[i]?=some q:=zM;have hd':l.drop (i+1)=t:=zP;have hinc:=B8 i zy;obtain⟨p,b,_,e1,e2⟩:=H.read (xR c) (λ_ _=>rfl) (i:=i) (x:=.int .i64 q) (by rw[wc,hq];rfl);cases hb:idxB q with
    |true=>
     simp(maxSteps:=9999999) (disch:=try exact dx)only[gD,M6,b3V,a0A,e1,e2,h86,hb,hinc,x9,A6];have e:idxAll (q::t)=idxAll t:=by rw[a6L,hb,a8o]
     rw[e];exact ih (i+1) k _ _ _ _ _ _ _ _ _ _ hd' zb|false=>simp(maxSteps:=9999999) (disch:=try exact dx)only[gD,M6,b3V,a0A,e1,e2,h86,hb,hinc,a0Q,x9,A6];refine d8.done ⟨rfl,rfl,Or.inr ⟨?_,rfl,rfl⟩⟩;rw[a6L,hb,vg]
structure Ins where
 op:Int
 A:Int
 B:Int
 N:Nat
 k:Int
 v:Int
 i:Int
 types:List Int
 labels:List Int
noncomputable def o8 (X:Ins)(tv lv:Value):Value:=.agg ⟨[.int .i64 X.op,.int .i64 X.A,.int .i64 X.B,.int .u64 (.ofNat X.N),.int .i64 X.k,.int .i64 X.v,.int .i64 X.i,tv,lv]⟩
theorem d3w (n):decide (Int.ofNat 4294967296<=Int.ofNat n)=!(Nat.blt n 4294967296):=by
 cases h:Nat.blt n 4294967296 with
  |true=>
   have:n<4294967296:=by simpa[wB]using h
   simp only[V2,wu,wz];omega|false=>
   have:¬n<4294967296:=λq=>by rw[A5 q]at h;cases h
   simp only[T4,wa,wz];omega
noncomputable def a1u (X:Ins):Bool:=decide (X.k=0)&&(decide (X.v=0)&&decide (X.i=0))
noncomputable def a0x (ua ub uc:Bool)(X:Ins):Bool:=!ua&& !decide (X.A=0)|| !ub&& !decide (X.B=0)|| !uc&& !X.N.beq 0|| !idxB X.A|| !idxB X.B
noncomputable def a0F (K:Nat)(X:Ins):Bool:=!K.beq 19&& !X.N.blt 4294967296|| !K.beq 1&& !a1u X|| !K.beq 6&&Nat.blt 0 X.types.length|| !K.beq 3&&Nat.blt 0 X.labels.length
noncomputable def a8e (l:List Int):Bool:=match l with|[t]=>X5 t|_=>false
noncomputable def P8 (K:Nat)(X:Ins):Bool:=bcase (K.beq 1) (Z8 X.k X.v X.i) (bcase (K.beq 6) (a8e X.types) (bcase (K.beq 17) (decide (X.A<=63)) (bcase (K.beq 20) (decide (X.A=3)||decide (X.A=4)) (idxAll X.labels))))
noncomputable def O1 (K:Nat)(ua ub uc:Bool)(X:Ins):Bool:=bcase (a0x ua ub uc X) false (bcase (a0F K X) false (P8 K X))
theorem c8O {K ua ub uc X}(h:a0x ua ub uc X=true):O1 K ua ub uc X=false:=by unfold O1;rw[h];rfl
theorem c7S {K ua ub uc X}(h1:a0x ua ub uc X=false)(h:a0F K X=true):O1 K ua ub uc X=false:=by unfold O1;rw[h1,h];rfl
theorem c8z {K ua ub uc X}(h1:a0x ua ub uc X=false)(h:a0F K X=false):O1 K ua ub uc X=P8 K X:=by unfold O1;rw[h1,h];rfl
theorem t34 (N call X tv lv K ua ub uc)(h39:call 39 [.int .i64 X.op]=M.pure (.ret (.int .i64 (.ofNat K))))(h84:call 84 [.int .i64 (.ofNat K)]=M.pure (.ret (.tuple ⟨[.bool ua,.bool ub,.bool uc]⟩)))(h85:call 85 [.int .i64 X.op]=M.pure (.ret (.bool true)))(h86:∀n,call 86 [.int .i64 n]=M.pure (.ret (.bool (idxB n))))(h88:∀n,call 88 [.int .i64 n]=M.pure (.ret (.bool (X5 n))))(h87:∀a b d,call 87 [.agg ⟨[.int .i64 a,.int .i64 b,.int .i64 d]⟩]=M.pure (.ret (.bool (Z8 a b d))))(c)(h)(Ht:C0 c h tv (A7 X.types))(Hl:C0 c h lv (A7 X.labels))(hN:X.labels.length<N)(hl:X.labels.length<4294967296)(r w):d8 (go (b9a i7 N call (o8 X tv lv)) ⟨c,h,r,w⟩) λx s=>x=.ret (.bool (O1 K ua ub uc X))/\∀i,i<c->s.h.get i=h.get i:=by
 obtain⟨ta,te,rfl,_⟩:=id Ht;obtain⟨la,le,rfl,_⟩:=id Hl;simp(maxSteps:=9999999) (disch:=try exact dx)only[gD,d5v,o8,h39,h84,h85,h86,h87,d3w,I2,b0y,a0A,a1Q,a8o,a0q,a3C,B9,A3,C3,C6,C4,a2D,S6,E7,a0h,a7Z,E2,a5L,a7H,a4c,B7,Z6,I5,E5,E8,E6,a2m];refine d8.cases (λg1=>?_) (λg1=>?_);exact d8.done ⟨by rw[c8O (K:=K) (ua:=ua) (ub:=ub) (uc:=uc) (X:=X) g1],λi hi=>za⟩;refine d8.cases (λg2=>?_) (λg2=>?_);exact d8.done ⟨by rw[c7S (K:=K) (ua:=ua) (ub:=ub) (uc:=uc) (X:=X) g1 g2],λi hi=>za⟩;rw[c8z (K:=K) (ua:=ua) (ub:=ub) (uc:=uc) (X:=X) g1 g2];refine d8.cases (λk1=>?_) (λk1=>?_);exact d8.done ⟨by unfold P8;rw[k1];rfl,λi hi=>za⟩;refine d8.cases (λk6=>?_) (λk6=>?_);have e:P8 K X=a8e X.types:=by unfold P8;rw[k1,k6];rfl
 rw[e];have Ht2:C0 c h (.slice ta X.types.length te) (A7 X.types):=by simpa only[xF]using Ht
 cases hb:X.types.length.beq 1 with|true=>have hl1:=xS hb;obtain⟨t,ht⟩:∃t,X.types=[t]:=List.length_eq_one_iff.1 hl1;rw[show a8e X.types=X5 t by rw[ht];rfl];obtain⟨p,b,hlt,e1,e2⟩:=Ht2.read (wy c) (h':=O2 h c (.cells [(.int .i64 X.op,0),(.int .i64 X.A,0),(.int .i64 X.B,0),(.int .u64 (Int.ofNat X.N),0),(.int .i64 X.k,0),(.int .i64 X.v,0),(.int .i64 X.i,0),(.slice ta X.types.length te,0),(.slice la X.labels.length le,0)] 0 false)) (λb hb=>c9 zy) (i:=0) (x:=.int .i64 t) (by rw[ht];rfl);simp(maxSteps:=9999999) (disch:=try exact dx)only[e1,e2,h88,B4,B2,N2,A4,o9,J9,K7,F8,w9,V.e3y,A5];exact d8.done ⟨rfl,λi hi=>za⟩|false=>have hf:a8e X.types=false:=yJ;rw[hf];simp(maxSteps:=9999999) (disch:=try exact dx)only[B2,N2,m7,J9,K7,E2,w9,V.e3y];exact d8.done ⟨rfl,λi hi=>za⟩
 refine d8.cases (λk17=>?_) (λk17=>?_);exact d8.done ⟨by unfold P8;rw[k1,k6,k17];rfl,λi hi=>za⟩;refine d8.cases (λk20=>?_) (λk20=>?_);exact d8.done ⟨by unfold P8;rw[k1,k6,k17,k20];rfl,λi hi=>za⟩;have e:P8 K X=idxAll X.labels:=by unfold P8;rw[k1,k6,k17,k20];rfl
 rw[e];have Hl2:C0 c h (.slice la X.labels.length le) (A7 X.labels):=by simpa only[xF]using Hl
 refine d8.bindS (c9m N call h86 (c+1) _ _ X.labels (Hl2.mono (wy c) (λb hb=>c9 zy)) hl X.labels 0 N _ _ _ _ _ _ _ _ _ _ rfl hN) λx s hq=>?_;obtain⟨x1,x2⟩:=x;obtain⟨c',h',r',w'⟩:=s;obtain⟨rfl,rfl,⟨e1,rfl⟩|⟨e1,rfl,e2⟩⟩:=hq;simp(maxSteps:=9999999) (disch:=try exact dx)only[N2,a7E,a0q,Y8];exact d8.done ⟨by rw[e1],λi hi=>za⟩;simp only at e2;simp(maxSteps:=9999999) (disch:=try exact dx)only[N2,a0Q,e2];exact d8.done ⟨by rw[e1],λi hi=>za⟩
noncomputable def rdI (v:Value):M (List Int):=M.bind (b4V v) λvs=>M.obind (b1n .i64 vs) λl=>M.guard (Nat.blt (j9 l) 1000) (M.pure l)
theorem Fr.rdI (v:Value):Fr (rdI v):=Fr.bind (Fr.rdSl v) λ_=>Fr.obind _ λ_=>Fr.guard _ (Fr.pure _)
theorem b5d {v s s' l}(h:rdI v s=some (l,s')):C0 s.c s.h v (A7 l)/\l.length<1000/\s'.c=s.c/\s'.h=s.h:=by obtain⟨vs,s1,h1,h2⟩:=o7 h;obtain⟨l',h3,h4⟩:=x8 h2;obtain⟨h5,h6⟩:=y8 h4;obtain⟨rfl,rfl⟩:=j7 h6;obtain⟨q1,q2,q3⟩:=b9S h1;rw[c3R h3]at q1;rw[y9]at h5;exact⟨q1,by simpa[wB]using h5,q2,q3⟩
theorem b5q {c c' h h' v l}(H:C0 c h v (A7 l))(hl:l.length<1000)(hc:c<=c')(hh:∀b,b<c->h'.get b=h.get b):∃q:List Nat->List Nat,∀r w,go (rdI v) ⟨c',h',r,w⟩=some (l,⟨c',h',q r,w⟩):=by obtain⟨q,hq⟩:=c7X H hc hh;refine⟨q,λr w=>?_⟩;unfold rdI;rw[B4,hq,B2,c5U,r9,y9,A5 hl,F6];rfl
noncomputable def XL (q:List Int->Option Value)(bs:List Value):M Value:=match bs with|[v]=>M.bind (rdI v) λl=>M.lift (q l)|_=>M.fail
theorem d9K (q bs):Fr (XL q bs):=by unfold XL;split;exact Fr.bind (Fr.rdI _) λ_=>Fr.lift _;exact Fr.fail
theorem d5l {q bs s s' x}(h:XL q bs s=some (x,s')):∃v l,bs=[v]/\C0 s.c s.h v (A7 l)/\l.length<1000/\q l=some x/\s'.c=s.c/\s'.h=s.h:=by unfold XL at h;split at h;rename_i v;obtain⟨l,s1,h1,h2⟩:=o7 h;obtain⟨h3,rfl⟩:=a1j h2;obtain⟨q1,q2,q3,q4⟩:=b5d h1;exact⟨v,l,rfl,q1,q2,h3,q3,q4⟩;cases h
theorem d9c {q c c' h h' v x l}(H:C0 c h v (A7 l))(hl:l.length<1000)(hc:c<=c')(hh:∀b,b<c->h'.get b=h.get b)(e:q l=some x):∃z:List Nat->List Nat,∀r w,go (XL q [v]) ⟨c',h',r,w⟩=some (x,⟨c',h',z r,w⟩):=by obtain⟨z,hz⟩:=b5q H hl hc hh;refine⟨z,λr w=>?_⟩;show go (M.bind (rdI v) λl=>M.lift (q l)) _=_;rw[B4,hz,B2,e];rfl
theorem d1a {sh f g}(h:sh.get f=some (arX g))(m){bs s s' x}(e:go (g bs) s=some (x,s')):go (j0 sh (m+1) f bs) s=some (.ret x,s'):=by rw[a2R sh m f bs h,B4,e];rfl
noncomputable def XI (q:Ins->Option Value)(bs:List Value):M Value:=match bs with|[.agg ⟨[.int .i64 op,.int .i64 A,.int .i64 B,.int .u64 (.ofNat N),.int .i64 k,.int .i64 v,.int .i64 i,tv,lv]⟩]=>M.bind (rdI tv) λts=>M.bind (rdI lv) λls=>M.lift (q ⟨op,A,B,N,k,v,i,ts,ls⟩)|_=>M.fail
theorem e0r (q bs):Fr (XI q bs):=by unfold XI;split;exact Fr.bind (Fr.rdI _) λ_=>Fr.bind (Fr.rdI _) λ_=>Fr.lift _;exact Fr.fail
structure InsAt (c:Nat) (h:Trie VObj) (X:Ins) (x:Value):Prop where
 ex:∃ tv lv,x=o8 X tv lv∧C0 c h tv (A7 X.types)∧C0 c h lv (A7 X.labels)
 t:X.types.length<1000
 l:X.labels.length<1000
theorem InsAt.mono {c c' h h' X x}(H:InsAt c h X x)(hc:c<=c')(hh:∀b,b<c->h'.get b=h.get b):InsAt c' h' X x:=by obtain⟨⟨tv,lv,e,h1,h2⟩,h3,h4⟩:=H;exact⟨⟨tv,lv,e,h1.mono hc hh,h2.mono hc hh⟩,h3,h4⟩
theorem d9b {q bs s s' y}(h:XI q bs s=some (y,s')):∃X x,bs=[x]/\InsAt s.c s.h X x/\q X=some y/\s'.c=s.c/\s'.h=s.h:=by unfold XI at h;split at h;rename_i op A B N k v i tv lv;obtain⟨ts,s1,h1,h2⟩:=o7 h;obtain⟨ls,s2,h3,h4⟩:=o7 h2;obtain⟨h5,rfl⟩:=a1j h4;obtain⟨q1,q2,q3,q4⟩:=b5d h1;obtain⟨p1,p2,p3,p4⟩:=b5d h3;rw[q3,q4]at p1;exact⟨_,_,rfl,⟨⟨tv,lv,rfl,q1,p1⟩,q2,p2⟩,h5,by rw[p3,q3],by rw[p4,q4]⟩;cases h
theorem d6J {q c c' h h' X x y}(H:InsAt c h X x)(hc:c<=c')(hh:∀b,b<c->h'.get b=h.get b)(e:q X=some y):∃z:List Nat->List Nat,∀r w,go (XI q [x]) ⟨c',h',r,w⟩=some (y,⟨c',h',z r,w⟩):=by obtain⟨⟨tv,lv,rfl,h1,h2⟩,h3,h4⟩:=H;obtain⟨z1,e1⟩:=b5q h1 h3 hc hh;obtain⟨z2,e2⟩:=b5q h2 h4 hc hh;refine⟨λr=>z2 (z1 r),λr w=>?_⟩;show go (M.bind (rdI tv) λts=>M.bind (rdI lv) λls=>M.lift (q ⟨X.op,X.A,X.B,X.N,X.k,X.v,X.i,ts,ls⟩)) _=_;rw[B4,e1,B2,B4,e2,B2];show go (M.lift (q X)) _=_;rw[e];rfl
theorem c9r {ext sh}(L:Shelf' Tryz.prog tab (A2 mL) NN ext sh){f fn cd}(hPf:Tryz.prog.funcs[f]?=some fn)(hnum:(fn.name== "runtime.NumGoroutine")=false)(hb:fn.body=some cd){q}(h:∀X x y c hp,InsAt c hp X x->q X=some y->C1 8 y=true/\∃m,∀r w,d8 (go (j0 sh m f [x]) ⟨c,hp,r,w⟩) λz s2=>z=.ret y/\∀i,i<c->s2.h.get i=hp.get i):B6 Tryz.prog tab (A2 mL) f (XI q):=a5t J6 D7 L.e L.s hPf hnum hb (e0r q) λbs s y s1 hq=>by obtain⟨X,x,rfl,h1,h2,h3,h4⟩:=d9b hq;refine⟨(h X x y s.c s.h h1 h2).1,h3,h4,λc hc=>?_⟩;obtain⟨_,m,hm⟩:=h X x y c s.h (h1.mono hc λ_ _=>rfl) h2;exact⟨m,hm s.r s.w⟩
theorem e2S (n z):j0 s3 (n+1) 59 [.int .i64 z]=M.pure (.ret (.bool (idxB z))):=U7 (q:=λz=>some (.bool (idxB z))) zw n rfl
theorem e1d:B6 Tryz.prog tab (A2 mL) 60 (XL λl=>some (.bool (idxAll l))):=a5t J6 D7 L3.e (L3 (mL:=mL)).s Tryz.func60 zw rfl (d9K _) λbs s y s1 hq=>by obtain⟨v,l,rfl,h1,h2,h3,h4,h5⟩:=d5l hq;cases h3;refine⟨rfl,h4,h5,λc hc=>⟨2,?_⟩⟩;rw[O0 (q:=c3c) (N:=NN) zw 1];exact(t60 NN _ (e2S 0) c s.h v l (h1.mono hc λ_ _=>rfl) zy (by show l.length<100000;omega) s.r s.w).mono λx s2 ⟨a,b,d⟩=>⟨a,λi _=>by rw[d]⟩
theorem d9w (N call X tv lv K ua ub uc)(h39:call 39 [.int .i64 X.op]=M.pure (.ret (.int .i64 (.ofNat K))))(h84:call 84 [.int .i64 (.ofNat K)]=M.pure (.ret (.tuple ⟨[.bool ua,.bool ub,.bool uc]⟩)))(h85:call 85 [.int .i64 X.op]=M.pure (.ret (.bool false)))(c)(h)(Ht:C0 c h tv (A7 X.types))(Hl:C0 c h lv (A7 X.labels))(r w):d8 (go (b9a i7 N call (o8 X tv lv)) ⟨c,h,r,w⟩) λx s=>x=.ret (.bool false)/\∀i,i<c->s.h.get i=h.get i:=by obtain⟨ta,te,rfl,_⟩:=id Ht;obtain⟨la,le,rfl,_⟩:=id Hl;simp(maxSteps:=9999999) (disch:=try exact dx)only[gD,d5v,o8,h39,h84,h85,a0q,a3C,B9,A3,C3,C6,C4,a2D,S6,E7,a0h,F8,E5,E8,E6,a2m];exact d8.done ⟨rfl,λi hi=>za⟩
end Go.Proofs.YtmomonnlmbljoaaGreatDoor.S
end
section
namespace Go.Proofs.YtmomonnlmbljoaaGreatDoor.S
open Go.V Go.RowKit Go.Shelf Go.Proofs
variable {mL:Int}
theorem fA (X:Ins):(!(decide (X.A=0))||idxB X.A)=true:=by by_cases h:X.A=0;rw[h];decide;simp[h]
theorem fB (X:Ins):(!(decide (X.B=0))||idxB X.B)=true:=by by_cases h:X.B=0;rw[h];decide;simp[h]
theorem fN (X:Ins):(!(X.N.beq 0)||X.N.blt 4294967296)=true:=by cases h:X.N.beq 0 with|true=>rw[xS h];decide|false=>rfl
theorem fl (X:Ins):(Nat.blt 0 X.labels.length||idxAll X.labels)=true:=by cases X.labels with|nil=>rfl|cons a l=>rw[A5 zu];rfl
theorem f63 (X:Ins):(!(decide (X.A<=63))||decide (X.A<4294967296))=true:=by by_cases h:X.A<=63;have:X.A<4294967296:=zy;simp[h,this];simp[h]
theorem f34 (X:Ins):(!(decide (X.A=3)||decide (X.A=4))||idxB X.A)=true:=by by_cases h:X.A=3;rw[h];decide;by_cases h':X.A=4;rw[h'];decide;simp[h,h']
noncomputable def Q4 (K:Nat)(X:Ins):Bool:=!K.beq 1&& !a1u X|| !K.beq 3&&Nat.blt 0 X.labels.length|| !K.beq 6&&Nat.blt 0 X.types.length
noncomputable def pK (K:Nat)(X:Ins):Bool:=O1 K (uA K) (uB K) (uN K) X
theorem d2A {K X}(g:Q4 K X=true):pK K X=false:=by unfold Q4 at g;unfold pK O1 a0F;revert g;generalize a0x (uA K) (uB K) (uN K) X=b1;generalize K.beq 1=k1;generalize K.beq 3=k3;generalize K.beq 6=k6;generalize K.beq 19=k19;generalize X.N.blt 4294967296=nl;generalize a1u X=bl;generalize Nat.blt 0 X.types.length=t;generalize Nat.blt 0 X.labels.length=l;generalize P8 K X=rb;revert b1 k1 k3 k6 k19 nl bl t l rb;decide+kernel
theorem e2p {X}(g:Q4 0 X=false):(decide (X.A=0)&&decide (X.B=0)&&X.N.beq 0)=pK 0 X:=by unfold Q4 at g;unfold pK O1 a0x a0F;rw[show P8 0 X=idxAll X.labels from rfl];have F:((!(decide (X.A=0))||idxB X.A)&&(!(decide (X.B=0))||idxB X.B)&&(!(X.N.beq 0)||X.N.blt 4294967296)&&(Nat.blt 0 X.labels.length||idxAll X.labels))=true:=zW;revert g F;generalize Nat.blt 0 X.labels.length=l;generalize Nat.blt 0 X.types.length=t;generalize X.N.blt 4294967296=nl;generalize decide (X.A=0)=a;generalize decide (X.B=0)=b;generalize idxAll X.labels=il;generalize X.N.beq 0=n;generalize idxB X.A=ia;generalize idxB X.B=ib;generalize a1u X=bl;revert a ia b ib n nl bl t l il;decide+kernel
theorem e2q {X}(g:Q4 1 X=false):(decide (X.A=0)&&decide (X.B=0)&&X.N.beq 0&&Z8 X.k X.v X.i)=pK 1 X:=by
 unfold Q4 at g;unfold pK O1 a0x a0F;rw[show P8 1 X=Z8 X.k X.v X.i from rfl];have F:((!(decide (X.A=0))||idxB X.A)&&(!(decide (X.B=0))||idxB X.B)&&(!(X.N.beq 0)||X.N.blt 4294967296))=true:=by rw[fA,fB,fN];rfl
 revert g F;generalize Nat.blt 0 X.labels.length=l;generalize Nat.blt 0 X.types.length=t;generalize X.N.blt 4294967296=nl;generalize decide (X.A=0)=a;generalize decide (X.B=0)=b;generalize Z8 X.k X.v X.i=bb;generalize X.N.beq 0=n;generalize idxB X.A=ia;generalize idxB X.B=ib;generalize a1u X=bl;revert a ia b ib n nl bl bb t l;decide+kernel
theorem e3i {X}(g:Q4 3 X=false):(idxB X.A&&decide (X.B=0)&&X.N.beq 0&&idxAll X.labels)=pK 3 X:=by unfold Q4 at g;unfold pK O1 a0x a0F;rw[show P8 3 X=idxAll X.labels from rfl];have F:((!(decide (X.A=0))||idxB X.A)&&(!(decide (X.B=0))||idxB X.B)&&(!(X.N.beq 0)||X.N.blt 4294967296)&&(Nat.blt 0 X.labels.length||idxAll X.labels))=true:=zW;revert g F;generalize Nat.blt 0 X.labels.length=l;generalize Nat.blt 0 X.types.length=t;generalize X.N.blt 4294967296=nl;generalize decide (X.A=0)=a;generalize decide (X.B=0)=b;generalize idxAll X.labels=il;generalize X.N.beq 0=n;generalize idxB X.A=ia;generalize idxB X.B=ib;generalize a1u X=bl;revert a ia b ib n nl bl t l il;decide+kernel
theorem e1B {X}(g:Q4 6 X=false):(decide (X.A=0)&&decide (X.B=0)&&X.N.beq 0&&a8e X.types)=pK 6 X:=by
 unfold Q4 at g;unfold pK O1 a0x a0F;rw[show P8 6 X=a8e X.types from rfl];have F:((!(decide (X.A=0))||idxB X.A)&&(!(decide (X.B=0))||idxB X.B)&&(!(X.N.beq 0)||X.N.blt 4294967296))=true:=by rw[fA,fB,fN];rfl
 revert g F;generalize Nat.blt 0 X.labels.length=l;generalize Nat.blt 0 X.types.length=t;generalize X.N.blt 4294967296=nl;generalize decide (X.A=0)=a;generalize decide (X.B=0)=b;generalize a8e X.types=ty;generalize X.N.beq 0=n;generalize idxB X.A=ia;generalize idxB X.B=ib;generalize a1u X=bl;revert a ia b ib n nl bl ty t l;decide+kernel
theorem e0C {X}(g:Q4 2 X=false):(idxB X.A&&decide (X.B=0)&&X.N.beq 0)=pK 2 X:=by unfold Q4 at g;unfold pK O1 a0x a0F;rw[show P8 2 X=idxAll X.labels from rfl];have F:((!(decide (X.A=0))||idxB X.A)&&(!(decide (X.B=0))||idxB X.B)&&(!(X.N.beq 0)||X.N.blt 4294967296)&&(Nat.blt 0 X.labels.length||idxAll X.labels))=true:=zW;revert g F;generalize Nat.blt 0 X.labels.length=l;generalize Nat.blt 0 X.types.length=t;generalize X.N.blt 4294967296=nl;generalize decide (X.A=0)=a;generalize decide (X.B=0)=b;generalize idxAll X.labels=il;generalize X.N.beq 0=n;generalize idxB X.A=ia;generalize idxB X.B=ib;generalize a1u X=bl;revert a ia b ib n nl bl t l il;decide+kernel
theorem e2O {X}(g:Q4 4 X=false):(idxB X.A&&decide (X.B=0)&&X.N.beq 0)=pK 4 X:=by unfold Q4 at g;unfold pK O1 a0x a0F;rw[show P8 4 X=idxAll X.labels from rfl];have F:((!(decide (X.A=0))||idxB X.A)&&(!(decide (X.B=0))||idxB X.B)&&(!(X.N.beq 0)||X.N.blt 4294967296)&&(Nat.blt 0 X.labels.length||idxAll X.labels))=true:=zW;revert g F;generalize Nat.blt 0 X.labels.length=l;generalize Nat.blt 0 X.types.length=t;generalize X.N.blt 4294967296=nl;generalize decide (X.A=0)=a;generalize decide (X.B=0)=b;generalize idxAll X.labels=il;generalize X.N.beq 0=n;generalize idxB X.A=ia;generalize idxB X.B=ib;generalize a1u X=bl;revert a ia b ib n nl bl t l il;decide+kernel
theorem e1h {X}(g:Q4 7 X=false):(idxB X.A&&decide (X.B=0)&&X.N.beq 0)=pK 7 X:=by unfold Q4 at g;unfold pK O1 a0x a0F;rw[show P8 7 X=idxAll X.labels from rfl];have F:((!(decide (X.A=0))||idxB X.A)&&(!(decide (X.B=0))||idxB X.B)&&(!(X.N.beq 0)||X.N.blt 4294967296)&&(Nat.blt 0 X.labels.length||idxAll X.labels))=true:=zW;revert g F;generalize Nat.blt 0 X.labels.length=l;generalize Nat.blt 0 X.types.length=t;generalize X.N.blt 4294967296=nl;generalize decide (X.A=0)=a;generalize decide (X.B=0)=b;generalize idxAll X.labels=il;generalize X.N.beq 0=n;generalize idxB X.A=ia;generalize idxB X.B=ib;generalize a1u X=bl;revert a ia b ib n nl bl t l il;decide+kernel
theorem e0w {X}(g:Q4 8 X=false):(idxB X.A&&decide (X.B=0)&&X.N.beq 0)=pK 8 X:=by unfold Q4 at g;unfold pK O1 a0x a0F;rw[show P8 8 X=idxAll X.labels from rfl];have F:((!(decide (X.A=0))||idxB X.A)&&(!(decide (X.B=0))||idxB X.B)&&(!(X.N.beq 0)||X.N.blt 4294967296)&&(Nat.blt 0 X.labels.length||idxAll X.labels))=true:=zW;revert g F;generalize Nat.blt 0 X.labels.length=l;generalize Nat.blt 0 X.types.length=t;generalize X.N.blt 4294967296=nl;generalize decide (X.A=0)=a;generalize decide (X.B=0)=b;generalize idxAll X.labels=il;generalize X.N.beq 0=n;generalize idxB X.A=ia;generalize idxB X.B=ib;generalize a1u X=bl;revert a ia b ib n nl bl t l il;decide+kernel
theorem e0G {X}(g:Q4 9 X=false):(idxB X.A&&decide (X.B=0)&&X.N.beq 0)=pK 9 X:=by unfold Q4 at g;unfold pK O1 a0x a0F;rw[show P8 9 X=idxAll X.labels from rfl];have F:((!(decide (X.A=0))||idxB X.A)&&(!(decide (X.B=0))||idxB X.B)&&(!(X.N.beq 0)||X.N.blt 4294967296)&&(Nat.blt 0 X.labels.length||idxAll X.labels))=true:=zW;revert g F;generalize Nat.blt 0 X.labels.length=l;generalize Nat.blt 0 X.types.length=t;generalize X.N.blt 4294967296=nl;generalize decide (X.A=0)=a;generalize decide (X.B=0)=b;generalize idxAll X.labels=il;generalize X.N.beq 0=n;generalize idxB X.A=ia;generalize idxB X.B=ib;generalize a1u X=bl;revert a ia b ib n nl bl t l il;decide+kernel
theorem d6Y {X}(g:Q4 12 X=false):(idxB X.A&&decide (X.B=0)&&X.N.beq 0)=pK 12 X:=by unfold Q4 at g;unfold pK O1 a0x a0F;rw[show P8 12 X=idxAll X.labels from rfl];have F:((!(decide (X.A=0))||idxB X.A)&&(!(decide (X.B=0))||idxB X.B)&&(!(X.N.beq 0)||X.N.blt 4294967296)&&(Nat.blt 0 X.labels.length||idxAll X.labels))=true:=zW;revert g F;generalize Nat.blt 0 X.labels.length=l;generalize Nat.blt 0 X.types.length=t;generalize X.N.blt 4294967296=nl;generalize decide (X.A=0)=a;generalize decide (X.B=0)=b;generalize idxAll X.labels=il;generalize X.N.beq 0=n;generalize idxB X.A=ia;generalize idxB X.B=ib;generalize a1u X=bl;revert a ia b ib n nl bl t l il;decide+kernel
theorem d7C {X}(g:Q4 16 X=false):(idxB X.A&&decide (X.B=0)&&X.N.beq 0)=pK 16 X:=by unfold Q4 at g;unfold pK O1 a0x a0F;rw[show P8 16 X=idxAll X.labels from rfl];have F:((!(decide (X.A=0))||idxB X.A)&&(!(decide (X.B=0))||idxB X.B)&&(!(X.N.beq 0)||X.N.blt 4294967296)&&(Nat.blt 0 X.labels.length||idxAll X.labels))=true:=zW;revert g F;generalize Nat.blt 0 X.labels.length=l;generalize Nat.blt 0 X.types.length=t;generalize X.N.blt 4294967296=nl;generalize decide (X.A=0)=a;generalize decide (X.B=0)=b;generalize idxAll X.labels=il;generalize X.N.beq 0=n;generalize idxB X.A=ia;generalize idxB X.B=ib;generalize a1u X=bl;revert a ia b ib n nl bl t l il;decide+kernel
theorem e1i {X}(g:Q4 5 X=false):(idxB X.A&&idxB X.B&&X.N.beq 0)=pK 5 X:=by unfold Q4 at g;unfold pK O1 a0x a0F;rw[show P8 5 X=idxAll X.labels from rfl];have F:((!(decide (X.A=0))||idxB X.A)&&(!(decide (X.B=0))||idxB X.B)&&(!(X.N.beq 0)||X.N.blt 4294967296)&&(Nat.blt 0 X.labels.length||idxAll X.labels))=true:=zW;revert g F;generalize Nat.blt 0 X.labels.length=l;generalize Nat.blt 0 X.types.length=t;generalize X.N.blt 4294967296=nl;generalize decide (X.A=0)=a;generalize decide (X.B=0)=b;generalize idxAll X.labels=il;generalize X.N.beq 0=n;generalize idxB X.A=ia;generalize idxB X.B=ib;generalize a1u X=bl;revert a ia b ib n nl bl t l il;decide+kernel
theorem d5D {X}(g:Q4 10 X=false):(idxB X.A&&idxB X.B&&X.N.beq 0)=pK 10 X:=by unfold Q4 at g;unfold pK O1 a0x a0F;rw[show P8 10 X=idxAll X.labels from rfl];have F:((!(decide (X.A=0))||idxB X.A)&&(!(decide (X.B=0))||idxB X.B)&&(!(X.N.beq 0)||X.N.blt 4294967296)&&(Nat.blt 0 X.labels.length||idxAll X.labels))=true:=zW;revert g F;generalize Nat.blt 0 X.labels.length=l;generalize Nat.blt 0 X.types.length=t;generalize X.N.blt 4294967296=nl;generalize decide (X.A=0)=a;generalize decide (X.B=0)=b;generalize idxAll X.labels=il;generalize X.N.beq 0=n;generalize idxB X.A=ia;generalize idxB X.B=ib;generalize a1u X=bl;revert a ia b ib n nl bl t l il;decide+kernel
theorem d8i {X}(g:Q4 11 X=false):(idxB X.A&&idxB X.B&&X.N.beq 0)=pK 11 X:=by unfold Q4 at g;unfold pK O1 a0x a0F;rw[show P8 11 X=idxAll X.labels from rfl];have F:((!(decide (X.A=0))||idxB X.A)&&(!(decide (X.B=0))||idxB X.B)&&(!(X.N.beq 0)||X.N.blt 4294967296)&&(Nat.blt 0 X.labels.length||idxAll X.labels))=true:=zW;revert g F;generalize Nat.blt 0 X.labels.length=l;generalize Nat.blt 0 X.types.length=t;generalize X.N.blt 4294967296=nl;generalize decide (X.A=0)=a;generalize decide (X.B=0)=b;generalize idxAll X.labels=il;generalize X.N.beq 0=n;generalize idxB X.A=ia;generalize idxB X.B=ib;generalize a1u X=bl;revert a ia b ib n nl bl t l il;decide+kernel
theorem d6U {X}(g:Q4 14 X=false):(idxB X.A&&idxB X.B&&X.N.beq 0)=pK 14 X:=by unfold Q4 at g;unfold pK O1 a0x a0F;rw[show P8 14 X=idxAll X.labels from rfl];have F:((!(decide (X.A=0))||idxB X.A)&&(!(decide (X.B=0))||idxB X.B)&&(!(X.N.beq 0)||X.N.blt 4294967296)&&(Nat.blt 0 X.labels.length||idxAll X.labels))=true:=zW;revert g F;generalize Nat.blt 0 X.labels.length=l;generalize Nat.blt 0 X.types.length=t;generalize X.N.blt 4294967296=nl;generalize decide (X.A=0)=a;generalize decide (X.B=0)=b;generalize idxAll X.labels=il;generalize X.N.beq 0=n;generalize idxB X.A=ia;generalize idxB X.B=ib;generalize a1u X=bl;revert a ia b ib n nl bl t l il;decide+kernel
theorem d6O {X}(g:Q4 15 X=false):(idxB X.A&&idxB X.B&&X.N.beq 0)=pK 15 X:=by unfold Q4 at g;unfold pK O1 a0x a0F;rw[show P8 15 X=idxAll X.labels from rfl];have F:((!(decide (X.A=0))||idxB X.A)&&(!(decide (X.B=0))||idxB X.B)&&(!(X.N.beq 0)||X.N.blt 4294967296)&&(Nat.blt 0 X.labels.length||idxAll X.labels))=true:=zW;revert g F;generalize Nat.blt 0 X.labels.length=l;generalize Nat.blt 0 X.types.length=t;generalize X.N.blt 4294967296=nl;generalize decide (X.A=0)=a;generalize decide (X.B=0)=b;generalize idxAll X.labels=il;generalize X.N.beq 0=n;generalize idxB X.A=ia;generalize idxB X.B=ib;generalize a1u X=bl;revert a ia b ib n nl bl t l il;decide+kernel
theorem d6A {X}(g:Q4 13 X=false):(decide (X.A=0)&&idxB X.B&&X.N.beq 0)=pK 13 X:=by unfold Q4 at g;unfold pK O1 a0x a0F;rw[show P8 13 X=idxAll X.labels from rfl];have F:((!(decide (X.A=0))||idxB X.A)&&(!(decide (X.B=0))||idxB X.B)&&(!(X.N.beq 0)||X.N.blt 4294967296)&&(Nat.blt 0 X.labels.length||idxAll X.labels))=true:=zW;revert g F;generalize Nat.blt 0 X.labels.length=l;generalize Nat.blt 0 X.types.length=t;generalize X.N.blt 4294967296=nl;generalize decide (X.A=0)=a;generalize decide (X.B=0)=b;generalize idxAll X.labels=il;generalize X.N.beq 0=n;generalize idxB X.A=ia;generalize idxB X.B=ib;generalize a1u X=bl;revert a ia b ib n nl bl t l il;decide+kernel
theorem d4Q {X}(g:Q4 17 X=false):(decide (0<=X.A)&&decide (X.A<=63)&&idxB X.B&&X.N.blt 4294967296)=pK 17 X:=by
 unfold Q4 at g;unfold pK O1 a0x a0F;rw[show P8 17 X=decide (X.A<=63)from rfl];have F:((!(decide (X.B=0))||idxB X.B)&&(!(X.N.beq 0)||X.N.blt 4294967296)&&(!(decide (X.A<=63))||decide (X.A<4294967296)))=true:=by rw[fB,fN,f63];rfl
 revert g F;rw[show idxB X.A=(decide (0<=X.A)&&decide (X.A<4294967296))from rfl];generalize decide (X.A<4294967296)=aw;generalize Nat.blt 0 X.labels.length=l;generalize Nat.blt 0 X.types.length=t;generalize X.N.blt 4294967296=nl;generalize decide (X.A<=63)=a63;generalize decide (X.A=0)=a;generalize decide (0<=X.A)=a0;generalize decide (X.B=0)=b;generalize X.N.beq 0=n;generalize idxB X.B=ib;generalize a1u X=bl;revert a a0 aw a63 b ib n nl bl t l;decide+kernel
theorem d6s {X}(g:Q4 18 X=false):(decide (X.A=0)&&decide (X.B=0)&&X.N.blt 4294967296)=pK 18 X:=by unfold Q4 at g;unfold pK O1 a0x a0F;rw[show P8 18 X=idxAll X.labels from rfl];have F:((!(decide (X.A=0))||idxB X.A)&&(!(decide (X.B=0))||idxB X.B)&&(!(X.N.beq 0)||X.N.blt 4294967296)&&(Nat.blt 0 X.labels.length||idxAll X.labels))=true:=zW;revert g F;generalize Nat.blt 0 X.labels.length=l;generalize Nat.blt 0 X.types.length=t;generalize X.N.blt 4294967296=nl;generalize decide (X.A=0)=a;generalize decide (X.B=0)=b;generalize idxAll X.labels=il;generalize X.N.beq 0=n;generalize idxB X.A=ia;generalize idxB X.B=ib;generalize a1u X=bl;revert a ia b ib n nl bl t l il;decide+kernel
theorem d8r {X}(g:Q4 19 X=false):(decide (X.A=0)&&decide (X.B=0))=pK 19 X:=by unfold Q4 at g;unfold pK O1 a0x a0F;rw[show P8 19 X=idxAll X.labels from rfl];have F:((!(decide (X.A=0))||idxB X.A)&&(!(decide (X.B=0))||idxB X.B)&&(!(X.N.beq 0)||X.N.blt 4294967296)&&(Nat.blt 0 X.labels.length||idxAll X.labels))=true:=zW;revert g F;generalize Nat.blt 0 X.labels.length=l;generalize Nat.blt 0 X.types.length=t;generalize X.N.blt 4294967296=nl;generalize decide (X.A=0)=a;generalize decide (X.B=0)=b;generalize idxAll X.labels=il;generalize X.N.beq 0=n;generalize idxB X.A=ia;generalize idxB X.B=ib;generalize a1u X=bl;revert a ia b ib n nl bl t l il;decide+kernel
theorem d4C {X}(g:Q4 20 X=false):((decide (X.A=3)||decide (X.A=4))&&decide (X.B=0)&&X.N.beq 0)=pK 20 X:=by
 unfold Q4 at g;unfold pK O1 a0x a0F;rw[show P8 20 X=(decide (X.A=3)||decide (X.A=4))from rfl];have F:((!(decide (X.A=0))||idxB X.A)&&(!(decide (X.B=0))||idxB X.B)&&(!(X.N.beq 0)||X.N.blt 4294967296)&&(!(decide (X.A=3)||decide (X.A=4))||idxB X.A))=true:=by rw[fA,fB,fN,f34];rfl
 revert g F;generalize Nat.blt 0 X.labels.length=l;generalize Nat.blt 0 X.types.length=t;generalize X.N.blt 4294967296=nl;generalize decide (X.A=0)=a;generalize decide (X.A=3)=a3;generalize decide (X.A=4)=a4;generalize decide (X.B=0)=b;generalize X.N.beq 0=n;generalize idxB X.A=ia;generalize idxB X.B=ib;generalize a1u X=bl;revert a a3 a4 ia b ib n nl bl t l;decide+kernel
end Go.Proofs.YtmomonnlmbljoaaGreatDoor.S
end
section
namespace Go.Proofs.YtmomonnlmbljoaaGreatDoor.S
open Go.V Go.RowKit Go.Shelf Go.Proofs
variable {mL:Int}
attribute [local congr] m0 l9 n8 n9 q9
theorem e4h (N call X tv lv K)(hK:K<=20)(h46:call 46 [.int .i64 X.op]=M.pure (.ret (.int .i64 (.ofNat K))))(h57:call 57 [.int .i64 X.op]=M.pure (.ret (.bool true)))(h59:∀n,call 59 [.int .i64 n]=M.pure (.ret (.bool (idxB n))))(h61:∀n,call 61 [.int .i64 n]=M.pure (.ret (.bool (X5 n))))(h58:∀a b d,call 58 [.agg ⟨[.int .i64 a,.int .i64 b,.int .i64 d]⟩]=M.pure (.ret (.bool (Z8 a b d))))(c)(h)(h60:∀hh,(∀b,b<c->hh.get b=h.get b)->∃q:List Nat->List Nat,∀r w,go (call 60 [lv]) ⟨c+1,hh,r,w⟩=some (.ret (.bool (idxAll X.labels)),⟨c+1,hh,q r,w⟩))(Ht:C0 c h tv (A7 X.types))(Hl:C0 c h lv (A7 X.labels))(r w):d8 (go (b8h i7 N call (o8 X tv lv)) ⟨c,h,r,w⟩) λx s=>x=.ret (.bool (pK K X))/\∀i,i<c->s.h.get i=h.get i:=by
 obtain⟨ta,te,rfl,_⟩:=id Ht;obtain⟨la,le,rfl,_⟩:=id Hl;rw[xF]at h60;obtain⟨q,h60'⟩:=h60 (O2 h c (.cells [(.int .i64 X.op,0),(.int .i64 X.A,0),(.int .i64 X.B,0),(.int .u64 (Int.ofNat X.N),0),(.int .i64 X.k,0),(.int .i64 X.v,0),(.int .i64 X.i,0),(.slice ta X.types.length te,0),(.slice la X.labels.length le,0)] 0 false)) (λb hb=>c9 zy);clear h60;simp(maxSteps:=9999999) (disch:=try exact dx)only[gD,d8U,o8,h46,h57,h58,h59,h60',I2,b0y,a0A,a1Q,a8o,a0q,a3C,B9,A3,C3,C6,C4,a2D,S6,E7,a0h,a7Z,E2,a5L,a0B,a7H,a5B,a6m,x9,a4c,B7,Z6,I5,a2m];refine d8.cases (λg1=>?_) (λg1=>?_);exact d8.done ⟨by rw[d2A (K:=K) (X:=X) g1],λi hi=>za⟩;refine d8.cases (λk=>?_) (λn0=>?_);obtain rfl:=xS k;exact d8.done ⟨by rw[<-e2p (X:=X) g1];rfl,λi hi=>za⟩;refine d8.cases (λk=>?_) (λn1=>?_);obtain rfl:=xS k;exact d8.done ⟨by rw[<-e2q (X:=X) g1];rfl,λi hi=>za⟩;refine d8.cases (λk=>?_) (λn3=>?_);obtain rfl:=xS k;exact d8.done ⟨by rw[<-e3i (X:=X) g1];rfl,λi hi=>za⟩;refine d8.cases (λk=>?_) (λn6=>?_);obtain rfl:=xS k;rw[<-e1B (X:=X) g1];have Ht2:C0 c h (.slice ta X.types.length te) (A7 X.types):=by simpa only[xF]using Ht
 cases hb:X.types.length.beq 1 with|true=>have hl1:=xS hb;obtain⟨t,ht⟩:∃t,X.types=[t]:=List.length_eq_one_iff.1 hl1;rw[show a8e X.types=X5 t by rw[ht];rfl];obtain⟨p,b,hlt,e1,e2⟩:=Ht2.read (wy c) (h':=O2 h c (.cells [(.int .i64 X.op,0),(.int .i64 X.A,0),(.int .i64 X.B,0),(.int .u64 (Int.ofNat X.N),0),(.int .i64 X.k,0),(.int .i64 X.v,0),(.int .i64 X.i,0),(.slice ta X.types.length te,0),(.slice la X.labels.length le,0)] 0 false)) (λb hb=>c9 zy) (i:=0) (x:=.int .i64 t) (by rw[ht];rfl);simp(maxSteps:=9999999) (disch:=try exact dx)only[e1,e2,h61,a1Q,B4,B2,N2,A4,a3C,O3,C6,C4,J9,K7,a0B,w9,V.e3y];exact d8.done ⟨rfl,λi hi=>za⟩|false=>have hf:a8e X.types=false:=yJ;rw[hf];simp(maxSteps:=9999999) (disch:=try exact dx)only[vM,B2,N2,m7,J9,K7,E2,w9,V.e3y];exact d8.done ⟨rfl,λi hi=>za⟩
 have n0':K≠0:=λe=>by rw[e]at n0;cases n0
 have n1':K≠1:=λe=>by rw[e]at n1;cases n1
 have n3':K≠3:=λe=>by rw[e]at n3;cases n3
 have n6':K≠6:=λe=>by rw[e]at n6;cases n6
 refine d8.done ⟨?_,λi hi=>za⟩;clear n0 n1 n3 n6 h46 h57;have hh:K=2\/K=4\/K=5\/K=7\/K=8\/K=9\/K=10\/K=11\/K=12\/K=13\/K=14\/K=15\/K=16\/K=17\/K=18\/K=19\/K=20:=zy;rcases hh with rfl|rfl|rfl|rfl|rfl|rfl|rfl|rfl|rfl|rfl|rfl|rfl|rfl|rfl|rfl|rfl|rfl;rw[<-e0C (X:=X) g1];rfl;rw[<-e2O (X:=X) g1];rfl;rw[<-e1i (X:=X) g1];rfl;rw[<-e1h (X:=X) g1];rfl;rw[<-e0w (X:=X) g1];rfl;rw[<-e0G (X:=X) g1];rfl;rw[<-d5D (X:=X) g1];rfl;rw[<-d8i (X:=X) g1];rfl;rw[<-d6Y (X:=X) g1];rfl;rw[<-d6A (X:=X) g1];rfl;rw[<-d6U (X:=X) g1];rfl;rw[<-d6O (X:=X) g1];rfl;rw[<-d7C (X:=X) g1];rfl;rw[<-d4Q (X:=X) g1];rfl;rw[<-d6s (X:=X) g1];rfl;rw[<-d8r (X:=X) g1];rfl;rw[<-d4C (X:=X) g1];rfl
theorem d9H (N call X tv lv K)(h46:call 46 [.int .i64 X.op]=M.pure (.ret (.int .i64 (.ofNat K))))(h57:call 57 [.int .i64 X.op]=M.pure (.ret (.bool false)))(c)(h)(Ht:C0 c h tv (A7 X.types))(Hl:C0 c h lv (A7 X.labels))(r w):d8 (go (b8h i7 N call (o8 X tv lv)) ⟨c,h,r,w⟩) λx s=>x=.ret (.bool false)/\∀i,i<c->s.h.get i=h.get i:=by obtain⟨ta,te,rfl,_⟩:=id Ht;obtain⟨la,le,rfl,_⟩:=id Hl;simp(maxSteps:=9999999) (disch:=try exact dx)only[gD,d8U,o8,h46,h57,a0q,B9,A3,C3,C6,C4,S6,E7,a0h,F8,a6m,a2m];exact d8.done ⟨rfl,λi hi=>za⟩
noncomputable def a1o (X:Ins):Bool:=bcase (B3 X.op) (pK (w6 X.op) X) false
theorem d1D (n z):j0 s3 (n+1) 39 [.int .i64 z]=M.pure (.ret (.int .i64 (.ofNat (w6 z)))):=U7 (q:=λz=>some (.int .i64 (.ofNat (w6 z)))) zw n rfl
theorem d1l (n z):j0 s3 (n+1) 85 [.int .i64 z]=M.pure (.ret (.bool (B3 z))):=U7 (q:=λz=>some (.bool (B3 z))) zw n rfl
theorem d9q (n z):j0 s3 (n+1) 86 [.int .i64 z]=M.pure (.ret (.bool (idxB z))):=U7 (q:=λz=>some (.bool (idxB z))) zw n rfl
theorem e0e (n z):j0 s3 (n+1) 88 [.int .i64 z]=M.pure (.ret (.bool (X5 z))):=U7 (q:=λz=>some (.bool (X5 z))) zw n rfl
theorem d9x (n a b d):j0 s3 (n+1) 87 [.agg ⟨[.int .i64 a,.int .i64 b,.int .i64 d]⟩]=M.pure (.ret (.bool (Z8 a b d))):=c2C (q:=λa b d=>some (.bool (Z8 a b d))) zw n rfl
theorem d1f (n k)(h:k<=20):j0 s3 (n+1) 84 [.int .i64 (.ofNat k)]=M.pure (.ret (.tuple ⟨[.bool (uA k),.bool (uB k),.bool (uN k)]⟩)):=by rw[O0 (q:=c2z) (N:=NN) zw n];exact t84 _ _ k h
theorem e0q:B6 Tryz.prog tab (A2 mL) 34 (XI λX=>some (.bool (a1o X))):=c9r L3 Tryz.func34 zw rfl λX x y c hp H e=>by cases e;obtain⟨⟨tv,lv,rfl,h1,h2⟩,h3,h4⟩:=H;refine⟨rfl,2,λr w=>?_⟩;rw[O0 (q:=b9a) (N:=NN) zw 1];unfold a1o;cases hk:B3 X.op with|true=>exact t34 NN _ X tv lv (w6 X.op) _ _ _ (d1D 0 _) (d1f 0 _ (b1R _)) (by rw[d1l 0,hk]) (d9q 0) (e0e 0) (d9x 0) c hp h1 h2 (by show X.labels.length<100000;omega) zy r w|false=>exact d9w NN _ X tv lv (w6 X.op) _ _ _ (d1D 0 _) (d1f 0 _ (b1R _)) (by rw[d1l 0,hk]) c hp h1 h2 r w
noncomputable def e4:Nat->Option (List Value->M Value):=(C8 e3 60 (XL λl=>some (.bool (idxAll l))))
noncomputable def s4:a0g:=(I3 s3 60 (XL λl=>some (.bool (idxAll l))))
theorem L4:Shelf' Tryz.prog tab (A2 mL) NN e4 s4:=L3.add e1d
theorem d0S (n z):j0 s4 (n+1) 46 [.int .i64 z]=M.pure (.ret (.int .i64 (.ofNat (w6 z)))):=U7 (q:=λz=>some (.int .i64 (.ofNat (w6 z)))) zw n rfl
theorem d1W (n z):j0 s4 (n+1) 57 [.int .i64 z]=M.pure (.ret (.bool (B3 z))):=U7 (q:=λz=>some (.bool (B3 z))) zw n rfl
theorem e0T (n z):j0 s4 (n+1) 59 [.int .i64 z]=M.pure (.ret (.bool (idxB z))):=U7 (q:=λz=>some (.bool (idxB z))) zw n rfl
theorem e1v (n z):j0 s4 (n+1) 61 [.int .i64 z]=M.pure (.ret (.bool (X5 z))):=U7 (q:=λz=>some (.bool (X5 z))) zw n rfl
theorem d9X (n a b d):j0 s4 (n+1) 58 [.agg ⟨[.int .i64 a,.int .i64 b,.int .i64 d]⟩]=M.pure (.ret (.bool (Z8 a b d))):=c2C (q:=λa b d=>some (.bool (Z8 a b d))) zw n rfl
theorem e0h:B6 Tryz.prog tab (A2 mL) 19 (XI λX=>some (.bool (a1o X))):=c9r L4 Tryz.func19 zw rfl λX x y c hp H e=>by
 cases e;obtain⟨⟨tv,lv,rfl,h1,h2⟩,h3,h4⟩:=H;refine⟨rfl,2,λr w=>?_⟩;rw[O0 (q:=b8h) (N:=NN) zw 1];unfold a1o;cases hk:B3 X.op with
  |true=>
   have hq:∀hh,(∀b,b<c->hh.get b=hp.get b)->∃q:List Nat->List Nat,∀r w,go (j0 s4 1 60 [lv]) ⟨c+1,hh,r,w⟩=some (.ret (.bool (idxAll X.labels)),⟨c+1,hh,q r,w⟩):=λhh hb=>by obtain⟨z,hz⟩:=d9c (q:=λl=>some (.bool (idxAll l))) (x:=.bool (idxAll X.labels)) h2 h4 (wy c) hb rfl;exact⟨z,λr w=>d1a zw 0 (hz r w)⟩
   exact e4h NN _ X tv lv (w6 X.op) (b1R _) (d0S 0 _) (by rw[d1W 0,hk]) (e0T 0) (e1v 0) (d9X 0) c hp hq h1 h2 r w|false=>exact d9H NN _ X tv lv (w6 X.op) (d0S 0 _) (by rw[d1W 0,hk]) c hp h1 h2 r w
end Go.Proofs.YtmomonnlmbljoaaGreatDoor.S
end
section
namespace Go.Proofs.YtmomonnlmbljoaaGreatDoor.S
open Go.V Go.RowKit Go.Shelf Go.Proofs
variable {mL:Int}
attribute [local congr] m0 l9 n8 n9 q9 m8
noncomputable def a1p (N:Nat):List UInt8:=bcase (N.beq 0) [] (32::111::102::102::115::101::116::61::Lib.decDigits N)
noncomputable def a7W (a al:Nat):List UInt8:=bcase (a.beq al) [] (32::97::108::105::103::110::61::Lib.decDigits (2^a))
theorem b4l (a)(h:a<=63):2^a<18446744073709551616:=vq (tT zy h) zv
theorem b5G (m)(hm:m<18446744073709551616):j9 (P9 m)<=21:=by unfold P9;cases Nat.beq m 0 with|true=>show j9 ([]:List UInt8)<=21;decide|false=>exact a5k m hm
noncomputable def b1p (l:List Nat):List UInt8:=List.rec (motive:=λ_=>List UInt8) [] (λm _ ih=>m9 (I8 m) ih) l
theorem b0E (m l):b1p (m::l)=m9 (I8 m) (b1p l):=rfl
theorem c9j (l)(h:∀m∈l,m<4294967296):j9 (b1p l)<=21*l.length:=by induction l with|nil=>exact xR _|cons m l ih=>rw[b0E,P1,xH];have h1:=a5k m (by have:=h m wH;omega);have h2:=ih (λx hx=>h x (wY _ hx));omega
noncomputable def a0s (K:Nat)(X:Ins):List UInt8:=bcase (K.beq 1) (bcase (decide (X.k=0)) [] (32::a4C X.k X.v X.i))<|bcase (a0D K [2,4,7,8,12,16]) (I8 X.A.toNat)<|bcase (K.beq 3) (m9 (b1p (X.labels.map Int.toNat)) (I8 X.A.toNat))<|bcase (K.beq 5) (m9 (m9 (P9 X.B.toNat) [32,40,116,121,112,101]) (m9 (I8 X.A.toNat) [41]))<|bcase (K.beq 6) (m9 [32,40,114,101,115,117,108,116,32] (m9 (I0 (X.types.headD 0)) [41]))<|bcase (K.beq 9) (P9 X.A.toNat)<|bcase (a0D K [10,14]) (a4s X.A.toNat X.B.toNat)<|bcase (a0D K [11,15]) (m9 (P9 X.B.toNat) (I8 X.A.toNat))<|bcase (K.beq 13) (P9 X.B.toNat)<|bcase (K.beq 17) (m9 (m9 (P9 X.B.toNat) (a1p X.N)) (a7W X.A.toNat ((N4 R7 X.op).getD 0)))<|bcase (K.beq 18) (32::Lib.itoa (sgn 32 X.N))<|bcase (K.beq 19) (32::Lib.itoa (sgn 64 X.N))<|bcase (K.beq 20) (bcase (decide (X.A=3)) [32,102,117,110,99] [32,101,120,116,101,114,110]) []
noncomputable def W8 (X:Ins):List UInt8:=m9 (M0 X.op) (a0s (w6 X.op) X)
theorem c5l (m n)(hm:m<18446744073709551616)(hn:n<18446744073709551616):j9 (a4s m n)<=42:=by unfold a4s;cases Nat.beq m 0&&Nat.beq n 0 with|true=>show j9 ([]:List UInt8)<=42;decide|false=>show j9 (I8 m++I8 n)<=42;rw[<-v8,P1];have:=a5k m hm;have:=a5k n hn;omega
theorem b9v (k v i)(h1:-9223372036854775808<=i)(h2:i<=9223372036854775807):j9 (a4C k v i)<=30:=by
 unfold a4C;have h3:=a6H v;have h4:=a6k i h1 zy;rw[y9]at h3 h4;rw[y9];cases decide (k=1)with
  |true=>cases X5 v with|true=>show(40::114::101::115::117::108::116::32::(I0 v++[41])).length<=30;simp;omega|false=>show([]:List UInt8).length<=30;decide
  |false=>cases decide (k=2)with|true=>show(40::116::121::112::101::32::(Lib.itoa i++[41])).length<=30;simp;omega|false=>show([]:List UInt8).length<=30;decide
theorem d0c (a al)(h:a<=63):j9 (a7W a al)<=30:=by unfold a7W;have:=a5e (2^a) (b4l a h);cases a.beq al with|true=>show j9 ([]:List UInt8)<=30;decide|false=>rw[y9];show(32::97::108::105::103::110::61::Lib.decDigits (2^a)).length<=30;simp;omega
theorem c7Y (n)(h:n<18446744073709551616):j9 (a1p n)<=30:=by unfold a1p;have:=a5e n h;cases n.beq 0 with|true=>show j9 ([]:List UInt8)<=30;decide|false=>rw[y9];show(32::111::102::102::115::101::116::61::Lib.decDigits n).length<=30;simp;omega
theorem D4 {z}(h:idxB z=true):∃a,z=.ofNat a/\a<4294967296:=by unfold idxB at h;rw[xM,wa,wa]at h;exact⟨z.toNat,zo,zy⟩
theorem b3e:∀{l},idxAll l=true->l=(l.map Int.toNat).map Int.ofNat/\∀m∈l.map Int.toNat,m<4294967296:=by intro l;induction l with|nil=>intro _;exact⟨rfl,λm h=>zl⟩|cons z l ih=>intro h;have h':=(C9 _ _).1 (show A9 idxB (z::l)=true from h);obtain⟨a,rfl,ha⟩:=D4 (h' z wH);obtain⟨q1,q2⟩:=ih (show A9 idxB l=true from(C9 _ _).2 λx hx=>h' x (wY _ hx));refine⟨?_,?_⟩;rw[vh,vh,<-q1];rfl;intro m hm;rw[vh,wG]at hm;rcases hm with rfl|hm;exact ha;exact q2 m hm
structure PlainF (K:Nat) (X:Ins):Prop where
 A:idxB X.A=true
 B:idxB X.B=true
 N:K.beq 19=false→X.N<4294967296
 rest:P8 K X=true
theorem c7u {K X}(h:pK K X=true):PlainF K X:=by unfold pK O1 at h;cases h1:a0x (uA K) (uB K) (uN K) X with|true=>rw[h1]at h;cases h|false=>cases h2:a0F K X with|true=>rw[h1,h2]at h;cases h|false=>rw[h1,h2]at h;unfold a0x at h1;unfold a0F at h2;simp only[vE,Bool.not_eq_false']at h1;refine⟨h1.1.2,h1.2,λhk=>?_,h⟩;simp only[vE]at h2;have h3:=h2.1.1.1;rw[hk]at h3;simpa[wB]using h3
theorem c9U:A9 (λr:a1U=>!(r.2.2.beq 17)||(N4 R7 (Int.ofNat r.1)).isSome) D8=true:=zw
theorem e1W {z}(h:w6 z=17):∃al,N4 R7 z=some al:=by unfold w6 at h;cases hf:G7 z D8 with|none=>rw[hf]at h;cases h|some r=>rw[hf]at h;obtain⟨h1,h2⟩:=a1w z D8 r hf;have h3:=(C9 _ _).1 c9U r h1;rw[show r.2.2=17 from h,<-h2]at h3;exact vI.1 h3
noncomputable def e5:Nat->Option (List Value->M Value):=(C8 (C8 e4 34 (XI λX=>some (.bool (a1o X)))) 19 (XI λX=>some (.bool (a1o X))))
noncomputable def s5:a0g:=(I3 (I3 s4 34 (XI λX=>some (.bool (a1o X)))) 19 (XI λX=>some (.bool (a1o X))))
theorem L5:Shelf' Tryz.prog tab (A2 mL) NN e5 s5:=(((L4.add e0q).add e0h))
noncomputable def e6:Nat->Option (List Value->M Value):=e5
noncomputable def s6:a0g:=s5
theorem L6:Shelf' Tryz.prog tab (A2 mL) NN e6 s6:=(L5)
theorem c6Q {k v i}(h:Z8 k v i=true):-9223372036854775808<=i/\i<=9223372036854775807:=by unfold Z8 at h;cases h0:decide (k=0)with|true=>rw[h0]at h;have h':(decide (v=0)&&decide (i=0))=true:=h;simp only[xM,wa]at h';omega|false=>rw[h0]at h;cases h1:decide (k=1)with|true=>rw[h1]at h;have h':(X5 v&&decide (i=0))=true:=h;simp only[xM,wa]at h';omega|false=>rw[h1]at h;have h':(decide (k=2)&&decide (v=0)&&idxB i)=true:=h;rw[xM]at h';obtain⟨a,rfl,ha⟩:=D4 h'.2;simp only[wz];omega
theorem Q9 {X K}(hk:w6 X.op=K){T}(h:a0s K X=T):m9 (M0 X.op) T=W8 X:=by unfold W8;rw[hk,h]
noncomputable def b6U (X:Ins):Option Value:=bcase (a1o X) (bcase (X.N.blt 18446744073709551616) (some (.string ⟨⟨W8 X⟩⟩)) none) (some (.string ⟨⟨[]⟩⟩))
end Go.Proofs.YtmomonnlmbljoaaGreatDoor.S
end
section
namespace Go.Proofs.YtmomonnlmbljoaaGreatDoor.S
open Go.V Go.RowKit Go.Shelf Go.Proofs
variable {mL:Int}
attribute [local congr] m0 l9 n8 n9 q9 m8 s9
theorem ap9 (ab o g n xb ox gx m c h r w):go (a2B ti9 (.slice (some ⟨ab,o,some g⟩) n 1) (.slice (some ⟨xb,ox,some gx⟩) (m+1) 1)) ⟨c,h,r,w⟩=ldS (Nat.blt xb c) (h.get xb) ox gx (m+1) λvs=>bcase (apC n vs) (apS (Nat.blt ab c) (h.get ab) o g n vs λcs' cur ro=>some (.slice (some ⟨ab,o,some (cur+1)⟩) (n+j9 vs) 1,⟨c,O2 h ab (.cells cs' (cur+1) ro),ab::xb::r,ab::w⟩)) none:=d7u zw zw ab o g n xb ox gx m
theorem b3a (es xb ox gx m c h r w):go (a2B ti9 (.slice none 0 es) (.slice (some ⟨xb,ox,some gx⟩) (m+1) 1)) ⟨c,h,r,w⟩=ldS (Nat.blt xb c) (h.get xb) ox gx (m+1) λvs=>bcase (apC 0 vs) (some (.slice (some ⟨c,0,some 0⟩) (j9 vs) 1,⟨c+1,O2 h c (.cells (G4 (λv=>(v,0)) vs) 0 false),xb::r,c::w⟩)) none:=c0P zw zw es xb ox gx m
theorem N8 {α}(x y:α):bcase true x y=x:=xK rfl rfl
theorem P6 {α}(x y:α):bcase false x y=y:=xK rfl rfl
theorem C2 (a)(h:a<18446744073709551616):j9 (Lib.decDigits a)<=20:=by rw[y9];exact a5e _ h
structure Calls12 (N:Nat) (call G6 call3:A8) (X:Ins) (K:Nat):Prop where
 h35:call 35 [.int .i64 X.op]=M.pure (.ret (.string ⟨⟨M0 X.op⟩⟩))
 h39:call 39 [.int .i64 X.op]=M.pure (.ret (.int .i64 (.ofNat K)))
 h36:∀ a b,call 36 [a,b]=b1g i7 N G6 a b
 h36':∀ a b,G6 36 [a,b]=b1g i7 N call3 a b
 h37c:∀ m:Nat,m<9223372036854775808→call 37 [.int .i64 (.ofNat m)]=M.pure (.ret (.string ⟨⟨Lib.decDigits m⟩⟩))
 h37:∀ m:Nat,m<9223372036854775808→G6 37 [.int .i64 (.ofNat m)]=M.pure (.ret (.string ⟨⟨Lib.decDigits m⟩⟩))
 h37':∀ m:Nat,m<9223372036854775808→call3 37 [.int .i64 (.ofNat m)]=M.pure (.ret (.string ⟨⟨Lib.decDigits m⟩⟩))
 h38:∀ a b,call 38 [a,b]=c3A i7 N G6 a b
 h44:∀ a,call 44 [a]=c2Z i7 N G6 a
 h96:∀ a b,G6 96 [a,b]=M.bind (a5I [a,b]) fun v=>M.pure (.ret v)
end Go.Proofs.YtmomonnlmbljoaaGreatDoor.S
end
