import Derived.Test.YtmomonnlmbljoaaGreatDoorGbc
set_option maxRecDepth 1000000
set_option maxHeartbeats 4000000
set_option linter.unusedVariables false
set_option linter.unusedSimpArgs false
noncomputable section
namespace Go.Proofs.YtmomonnlmbljoaaGreatDoor
open Go.V Go.RowKit Go.Shelf Go.Proofs
variable {mL:Int}
section
attribute [local congr] q9 x8 A8 z8 D5 x9 D6 D8 D7
def Kp (l:List Nd)(R:RV)(rs:Rs):Prop:=∀R1,rs=.ok R1->R1.ts=R.ts/\R1.ls=R.ls/\R1.op=R.op/\R.i<=R1.i/\(R.i<=l.length->R1.i<=l.length)
theorem Kp.er (l R p e):Kp l R (.er p e):=λR1 h=>zZ
theorem Kp.same (l R):Kp l R (.ok R):=λR1 h=>by cases h;exact⟨rfl,rfl,rfl,xD _,λh=>h⟩
theorem Kp.bc {l R}(b){x y}(h1:Kp l R x)(h2:Kp l R y):Kp l R (bcase b x y):=by cases b with|true=>exact h1|false=>exact h2
theorem Kp.step {l R R1 n}(hi:l[R.i]?=some n)(h1:R1.ts=R.ts)(h2:R1.ls=R.ls)(h3:R1.op=R.op)(h4:R1.i=R.i+1):Kp l R (.ok R1):=λR2 h=>by cases h;have:=(xC.1 hi).1;exact⟨h1,h2,h3,zy,λ_=>zy⟩
theorem Kp.then {l R x f}(h1:Kp l R x)(h2:∀R1,Kp l R1 (f R1)):Kp l R (x.then f):=by cases x with|er p e=>exact Kp.er _ _ _ _|ok R0=>intro R1 h;obtain⟨a1,a2,a3,a4,a5⟩:=h1 R0 rfl;obtain⟨b1,b2,b3,b4,b5⟩:=h2 R0 R1 h;exact⟨b1.trans a1,b2.trans a2,b3.trans a3,wL a4 b4,λh=>b5 (a5 h)⟩
theorem b6V {fd l q i k}(h:M8 fd l q i=.ok k):∃n,l[i]?=some n:=by unfold M8 at h;cases hi:l[i]? with|none=>rw[hi]at h;cases h|some n=>exact⟨n,rfl⟩
theorem Kp.putA (fd:List UInt8->Nat×Nat)(l:List Nd)(q:Nat)(R:RV):Kp l R (a6P R (M8 fd l q R.i)):=yI
theorem Kp.putB (fd:List UInt8->Nat×Nat)(l:List Nd)(q:Nat)(R:RV):Kp l R (b1D R (M8 fd l q R.i)):=yI
theorem Kp.use (fd put)(hp:∀R k,(put R k).ts=R.ts/\(put R k).ls=R.ls/\(put R k).op=R.op/\(put R k).i=R.i)(l q R):Kp l R (a7h fd put l q R):=by unfold a7h;cases hi:l[R.i]? with|none=>exact Kp.er _ _ _ _|some n=>refine Kp.bc _ ?_ (Kp.er _ _ _ _);cases n.l[1]? with|none=>exact Kp.er _ _ _ _|some n1=>refine Kp.bc _ (Kp.bc _ ?_ (Kp.er _ _ _ _)) (Kp.er _ _ _ _);cases n.l[2]? with|some n2=>exact Kp.er _ _ _ _|none=>obtain⟨h1,h2,h3,h4⟩:=hp {R with i:=R.i+1} (fd n1.t).1;exact Kp.step hi h1 h2 h3 h4
theorem Kp.blk2 (F l q R):Kp l R (a6X F l q R):=by
 unfold a6X;cases hi:l[R.i]? with
  |none=>exact Kp.same _ _|some n=>
   refine Kp.bc _ ?_ (Kp.bc _ ?_ (Kp.same _ _));cases a3e n q with|ok t=>exact Kp.step hi rfl rfl rfl rfl|er p e=>exact Kp.er _ _ _ _
   exact Kp.use (a0k (F 0)) (λR k=>{R with bi:=k}) (λ_ _=>⟨rfl,rfl,rfl,rfl⟩) l q {R with k:=2}
theorem Kp.blk (F l q R):Kp l R (a6X F l q (a3c l R)):=by
 have h:=Kp.blk2 F l q (a3c l R);have hb:(a3c l R).ts=R.ts/\(a3c l R).ls=R.ls/\(a3c l R).op=R.op/\R.i<=(a3c l R).i/\(R.i<=l.length->(a3c l R).i<=l.length):=by unfold a3c;cases hi:l[R.i]? with|none=>exact⟨rfl,rfl,rfl,xD _,λh=>h⟩|some n=>have:=(xC.1 hi).1;simp only;cases decide (n.k=2)&&a1l n.t with|true=>exact⟨rfl,rfl,rfl,wZ _,λ_=>this⟩|false=>exact⟨rfl,rfl,rfl,xD _,λh=>h⟩
 intro R1 h1;obtain⟨a1,a2,a3,a4,a5⟩:=h R1 h1;exact⟨a1.trans hb.1,a2.trans hb.2.1,a3.trans hb.2.2.1,wL hb.2.2.2.1 a4,λh=>a5 (hb.2.2.2.2 h)⟩
theorem Kp.off (l R):Kp l R (a7D l R):=by unfold a7D;cases hi:l[R.i]? with|none=>exact Kp.same _ _|some n=>exact Kp.bc _ (Kp.bc _ (Kp.bc _ (Kp.step hi rfl rfl rfl rfl) (Kp.er _ _ _ _)) (Kp.same _ _)) (Kp.same _ _)
theorem Kp.aln (l R):Kp l R (a8u l R):=by unfold a8u;cases hi:l[R.i]? with|none=>exact Kp.same _ _|some n=>refine Kp.bc _ (Kp.bc _ (Kp.bc _ ?_ (Kp.er _ _ _ _)) (Kp.same _ _)) (Kp.same _ _);cases a6k (a0h (F8 n.t 6) 18446744073709551615).1 with|none=>exact Kp.er _ _ _ _|some i=>exact Kp.step hi rfl rfl rfl rfl
theorem Kp.mayA (fd:List UInt8->Nat×Nat)(l:List Nd)(q:Nat)(R:RV):Kp l R (b5n fd l q R):=Kp.bc _ (Kp.putA _ _ _ _) (Kp.same _ _)
theorem Kp.mayB (fd:List UInt8->Nat×Nat)(l:List Nd)(q:Nat)(R:RV):Kp l R (a4J fd l q R):=Kp.bc _ (Kp.putB _ _ _ _) (Kp.same _ _)
theorem Kp.imm (F L al j l q R):Kp l R (b0d F L al j l q R):=by
 unfold b0d
 split
 · exact Kp.blk _ _ _ _
 · exact Kp.putA _ _ _ _
 · exact Kp.putA _ _ _ _
 · exact (Kp.mayB _ _ _ _).then fun R1=>Kp.use (a0k (F 0)) (fun R k=>{ R with A:=k }) (fun _ _=>⟨rfl,rfl,rfl,rfl⟩) _ _ _
 · exact Kp.putA _ _ _ _
 · exact Kp.putA _ _ _ _
 · exact Kp.mayA _ _ _ _
 · exact Kp.bc _ ((Kp.putA _ _ _ _).then fun R1=>Kp.putB _ _ _ _) (Kp.same _ _)
 · exact Kp.bc _ ((Kp.putB _ _ _ _).then fun R1=>Kp.putA _ _ _ _) (Kp.putA _ _ _ _)
 · exact Kp.putA _ _ _ _
 · exact Kp.mayB _ _ _ _
 · exact Kp.bc _ ((Kp.putA _ _ _ _).then fun R1=>Kp.putB _ _ _ _) (Kp.same _ _)
 · exact Kp.bc _ ((Kp.putB _ _ _ _).then fun R1=>Kp.putA _ _ _ _) (Kp.putA _ _ _ _)
 · exact Kp.putA _ _ _ _
 · have h:=(Kp.mayB (a0k (F 3)) l q { R with A:=al }).then (f:=fun R1=>(a7D l R1).then fun R2=>a8u l R2) fun R1=>(Kp.off l R1).then fun R2=>Kp.aln l R2
   exact h
 · unfold a9f
   cases hi:l[R.i]? with
   | none=>exact Kp.er _ _ _ _
   | some n=>exact Kp.bc _ (Kp.bc _ (Kp.step hi rfl rfl rfl rfl) (Kp.er _ _ _ _)) (Kp.er _ _ _ _)
 · unfold a9c
   cases hi:l[R.i]? with
   | none=>exact Kp.er _ _ _ _
   | some n=>exact Kp.bc _ (Kp.bc _ (Kp.step hi rfl rfl rfl rfl) (Kp.er _ _ _ _)) (Kp.er _ _ _ _)
 · unfold b0z
   cases hi:l[R.i]? with
   | none=>exact Kp.er _ _ _ _
   | some n=>exact Kp.bc _ (Kp.bc _ (Kp.step hi rfl rfl rfl rfl) (Kp.bc _ (Kp.step hi rfl rfl rfl rfl) (Kp.er _ _ _ _))) (Kp.er _ _ _ _)
 · exact Kp.same _ _
theorem c6Q (x:Nat×List UInt8)(l:List (Nat×List UInt8))(T:List UInt8):a9B (x::l) T=match beqBytes x.2 T with|true=>.tuple ⟨[.int .i64 (.ofNat x.1),.bool true]⟩|false=>a9B l T:=rfl
theorem d3f (T:List UInt8):∀l:List (Nat×List UInt8),a9B l T=match a2v l T with|some op=>.tuple ⟨[.int .i64 (.ofNat op),.bool true]⟩|none=>.tuple ⟨[.int .i64 (.ofNat 0),.bool false]⟩:=by intro l;induction l with|nil=>rfl|cons x l ih=>rw[c6Q,a2V,ih];cases beqBytes x.2 T<;>rfl
theorem c2j (x y)(hxy:x.2=y.2)(T B):∀A,a2v (A++x::y::B) T=a2v (A++x::B) T:=by intro A;induction A with|nil=>show a2v (x::y::B) T=a2v (x::B) T;rw[a2V,a2V,a2V,hxy];cases beqBytes y.2 T<;>rfl|cons a A ih=>show a2v (a::(A++x::y::B)) T=a2v (a::(A++x::B)) T;rw[a2V,a2V,ih]
theorem c4m (T):∀(l) (op),a2v l T=some op->∃x∈l,x.1=op:=by intro l;induction l with|nil=>intro op h;cases h|cons x l ih=>intro op h;rw[a2V]at h;cases q:beqBytes x.2 T with|true=>rw[q,C9]at h;cases h;exact⟨x,vC,rfl⟩|false=>rw[q,F7]at h;obtain⟨y,hy,e⟩:=ih op h;exact⟨y,vW _ hy,e⟩
def a2r (T:List UInt8):Option Nat:=a2v a1y T
def e0K:List (Nat×List UInt8):=a1y.takeWhile λx=>!(Nat.beq x.1 27)
def d7B:List (Nat×List UInt8):=(a1y.dropWhile λx=>!(Nat.beq x.1 28)).drop 1
theorem e2C:a1y=e0K++(27,[115,101,108,101,99,116])::(28,[115,101,108,101,99,116])::d7B:=zw
def c6i (j:Nat):Bool:=Nat.beq j 0||Nat.beq j 1||Nat.beq j 2||Nat.beq j 4||Nat.beq j 5||Nat.beq j 7||Nat.beq j 8||Nat.beq j 9||Nat.beq j 10||Nat.beq j 11||Nat.beq j 12||Nat.beq j 13||Nat.beq j 14||Nat.beq j 15||Nat.beq j 16||Nat.beq j 17||Nat.beq j 18||Nat.beq j 19||Nat.beq j 20
def c7U (op:Nat):Bool:=a3M (.ofNat op)&&(Nat.beq op 27||(Nat.beq (P9 (.ofNat op)) 3||(c6i (P9 (.ofNat op))&&(!(Nat.beq (P9 (.ofNat op)) 17)||(a1D a1V (.ofNat op)).isSome))))
theorem d9b:M0 (λx=>c7U x.1) (e0K++(27,[115,101,108,101,99,116])::d7B)=true:=zw
theorem b8J {T op}(h:a2r T=some op):c7U op=true:=by unfold a2r at h;rw[e2C,c2j (27,[115,101,108,101,99,116]) (28,[115,101,108,101,99,116]) rfl]at h;obtain⟨x,hx,rfl⟩:=c4m T _ op h;exact(R5 _ _).1 d9b x hx
def a6l (op:Nat):Nat:=(a1D a1V (.ofNat op)).getD 0
section
variable {U:Nat->Prop}{h0:Trie VObj}{sv fo:Value}{F:Nat->List (Value×Value)}{L:List (List UInt8)}{ar ap:Nat}{lv:Sl}{q c:Nat}{h:Trie VObj}{R:RV}{P:PV}{l:List Nd}
theorem e9G (E:Env U h0 sv F L)(m)(h27:decide (R.op=27)=false)(hop:a3M (.ofNat R.op)=true)(hj:c6i (P9 (.ofNat R.op))=true)(hal:P9 (.ofNat R.op)=17->(a1D a1V (.ofNat R.op)).isSome=true)(hRi:R.i<=l.length)(H:At U h0 sv fo ar ap lv q c h R P)(hl:NdL U h0 lv l)(r w):l9 (go (o8 A9 (m+9) 110 [.pointer (some ⟨ar,0,some 0⟩)]) ⟨c,h,r,w⟩) (EndR U h0 sv fo ar ap lv q c h P (b0d F L (a6l R.op) (P9 (.ofNat R.op)) l q R)):=by
 have hr:=H.hr;have hp:=H.hp;have a1:=H.r;have a2:=H.p;have a3:=H.ne;have a4:ap≠ar:=λe=>H.ne e.symm;have a5:ar≠c:=zy;have a6:ap≠c:=zy;have a7:ar≠c+1:=zy;have a8:ap≠c+1:=zy;have hll:=hl.len.2;rw[c1f];have e39:=c8b (m+7) R.op hop;unfold c6i at hj;simp only[Bool.or_eq_true]at hj;rcases hj with((((((((((((((((((hj|hj)|hj)|hj)|hj)|hj)|hj)|hj)|hj)|hj)|hj)|hj)|hj)|hj)|hj)|hj)|hj)|hj)|hj)<;>(have hj:=wo hj;rw[hj]at e39⊢;simp(disch:=try exact dz)only[c2c,hr,J9,J5,h27,e39,↓gP,gY,gT,Nat.reduceEqDiff,Nat.reduceAdd]);exact l9.done ⟨rfl,xD c,λ_ _ _ _=>rfl,R,H.to (xD c) (λ_ _=>rfl),λR1 e=>zY⟩;refine l9.bindC (f0u E (m+1) zy H hl _ _) λx s hq=>?_;obtain⟨rfl,hF⟩:=hq;simp(disch:=try exact dz)only[gY];exact l9.done ⟨rfl,hF⟩;refine l9.bindC (t141 E (m+2) hop (.inl ⟨hj,rfl⟩) H hl _ _) λx s hq=>?_;obtain⟨rfl,hF⟩:=hq;simp(disch:=try exact dz)only[gY];exact l9.done ⟨rfl,hF⟩;refine l9.bindC (t141 E (m+2) hop (.inr (.inl ⟨hj,rfl⟩)) H hl _ _) λx s hq=>?_;obtain⟨rfl,hF⟩:=hq;simp(disch:=try exact dz)only[gY];exact l9.done ⟨rfl,hF⟩;refine l9.bindC (c1X E (m+2) (Or.inr ⟨2,zq,rfl,rfl⟩) H hl _ _) λx s hq=>?_;obtain⟨rfl,hF⟩:=hq;obtain⟨c',h',r',w'⟩:=s;obtain⟨hc,hs0⟩:=hF.out (c:=c) (h:=h) (xD c) (λi k1 k2 k3=>rfl);show l9 _ (EndR U h0 sv fo ar ap lv q c h P ((a4J (a0k (F 2)) l q R).then _));cases e1:a4J (a0k (F 2)) l q R with|er p e=>rw[e1]at hF;simp(disch:=try exact dz)only[Rs.b,↓gP,gY];exact l9.done ⟨rfl,⟨hc,hs0,hF.at'⟩⟩|ok R1=>rw[e1]at hF;obtain⟨R',H',hR⟩:=hF.at';obtain rfl:=hR R1 rfl;have hle:=d1c e1;simp(disch:=try exact dz)only[Rs.b,↓gP,gY,Nat.reduceAdd];refine l9.bindC (e1s E (m+2) zy (H':At U h0 sv fo ar ap lv q _ _ _ P) hl _ _) λx s hq=>?_;obtain⟨rfl,hF2⟩:=hq;simp(disch:=try exact dz)only[↓gP,gY];exact l9.done ⟨rfl,hF2.of_to hc hs0⟩
 refine l9.bindC (t141 E (m+2) hop (.inr (.inr (.inl ⟨hj,rfl⟩))) H hl _ _) λx s hq=>?_;obtain⟨rfl,hF⟩:=hq;simp(disch:=try exact dz)only[gY];exact l9.done ⟨rfl,hF⟩;refine l9.bindC (t141 E (m+2) hop (.inr (.inr (.inr (.inl ⟨hj,rfl⟩)))) H hl _ _) λx s hq=>?_;obtain⟨rfl,hF⟩:=hq;simp(disch:=try exact dz)only[gY];exact l9.done ⟨rfl,hF⟩;refine l9.bindC (d7I E (m+2) (Or.inr ⟨2,zq,rfl,rfl⟩) H hl _ _) λx s hq=>?_;obtain⟨rfl,hF⟩:=hq;simp(disch:=try exact dz)only[gY];exact l9.done ⟨rfl,hF⟩;refine l9.bindC (e0x E (m+2) (Or.inr ⟨2,zq,rfl,rfl⟩) H hl _ _) λx s hq=>?_;obtain⟨rfl,hF⟩:=hq;simp(disch:=try exact dz)only[gY];exact l9.done ⟨rfl,hF⟩;refine l9.bindC (t146 zy E (m+2) (Or.inr ⟨2,zq,rfl,rfl⟩) (Or.inr ⟨5,zq,rfl,rfl⟩) H hl _ _) λx s hq=>?_;obtain⟨rfl,hF⟩:=hq;simp(disch:=try exact dz)only[gY];exact l9.done ⟨rfl,hF⟩;refine l9.bindC (t141 E (m+2) hop (.inr (.inr (.inr (.inr (.inl ⟨hj,rfl⟩))))) H hl _ _) λx s hq=>?_;obtain⟨rfl,hF⟩:=hq;simp(disch:=try exact dz)only[gY];exact l9.done ⟨rfl,hF⟩;refine l9.bindC (c1X E (m+2) (Or.inr ⟨3,zq,rfl,rfl⟩) H hl _ _) λx s hq=>?_;obtain⟨rfl,hF⟩:=hq;simp(disch:=try exact dz)only[gY];exact l9.done ⟨rfl,hF⟩;refine l9.bindC (e0x E (m+2) (Or.inr ⟨3,zq,rfl,rfl⟩) H hl _ _) λx s hq=>?_;obtain⟨rfl,hF⟩:=hq;simp(disch:=try exact dz)only[gY];exact l9.done ⟨rfl,hF⟩;refine l9.bindC (t146 zy E (m+2) (Or.inr ⟨3,zq,rfl,rfl⟩) (Or.inr ⟨6,zq,rfl,rfl⟩) H hl _ _) λx s hq=>?_;obtain⟨rfl,hF⟩:=hq;simp(disch:=try exact dz)only[gY];exact l9.done ⟨rfl,hF⟩;refine l9.bindC (t141 E (m+2) hop (.inr (.inr (.inr (.inr (.inr ⟨hj,rfl⟩))))) H hl _ _) λx s hq=>?_;obtain⟨rfl,hF⟩:=hq;simp(disch:=try exact dz)only[gY];exact l9.done ⟨rfl,hF⟩;refine l9.bindC (e7G E m zy (show _=some (a6l R.op) by have:=hal hj;unfold a6l;cases h:a1D a1V (Int.ofNat R.op)with|none=>rw[h]at this;cases this|some a=>rfl) H hl _ _) λx s hq=>?_;obtain⟨rfl,hF⟩:=hq;simp(disch:=try exact dz)only[gY];exact l9.done ⟨rfl,hF⟩;refine l9.bindC (d6D (m+4) zy H hl _ _) λx s hq=>?_;obtain⟨rfl,hF⟩:=hq;simp(disch:=try exact dz)only[gY];exact l9.done ⟨rfl,hF⟩;refine l9.bindC (d6H (m+4) zy H hl _ _) λx s hq=>?_;obtain⟨rfl,hF⟩:=hq;simp(disch:=try exact dz)only[gY];exact l9.done ⟨rfl,hF⟩;refine l9.bindC (e7y (m+4) zy H hl _ _) λx s hq=>?_;obtain⟨rfl,hF⟩:=hq;simp(disch:=try exact dz)only[gY];exact l9.done ⟨rfl,hF⟩
end
structure AI where
 op:Nat
 A:Nat
 B:Nat
 N:Nat
 k:Nat
 v:Nat
 bi:Nat
 ts:List Nat
 ls:List Nat
inductive Im where
 | ok (X:AI) (nm:List UInt8) (nx:Nat)
 | er (p e:Nat)
def O0 (op i:Nat):RV:=⟨i,op,0,0,0,0,0,0,⟨none,0,0⟩,⟨none,0,0⟩,[]⟩
def c5X:Rs->Im|.ok R=>.ok ⟨R.op,R.A,R.B,R.N,R.k,R.v,R.bi,[],[]⟩ R.nm R.i|.er p e=>.er p e
def a1N (F:Nat->List (Value×Value))(L:List (List UInt8))(l:List Nd)(i:Nat)(n:Nd):Im:=match a2r n.t with|none=>.er n.p 10|some op=>bcase (decide (op=27)) (match l[i+1]? with|none=>.ok ⟨27,0,0,0,0,0,0,[],[]⟩ [] (i+1)|some n1=>bcase (Z4 n1.k (a0f n1.l) [114,101,115,117,108,116]) (match a3e n1 n.p with|.ok t=>.ok ⟨28,0,0,0,0,0,0,[t],[]⟩ [] (i+2)|.er p e=>.er p e) (.ok ⟨27,0,0,0,0,0,0,[],[]⟩ [] (i+1))) (bcase (decide (P9 (.ofNat op)=3)) (match a2d (L9 L) n.p (l.drop (i+1))with|.ok ks=>.ok ⟨op,a8P ks,0,0,0,0,0,[],ks.dropLast⟩ [] (i+1+ks.length)|.er p e=>.er p e) (c5X (b0d F L (a6l op) (P9 (.ofNat op)) l n.p (O0 op (i+1)))))
structure Pt (U:Nat→Prop) (h0:Trie VObj) (sv fo:Value) (ap c:Nat) (h:Trie VObj) (P:PV):Prop where
 u:∀ i,U i→i<c∧i≠ap∧h.get i=h0.get i
 p:ap<c
 hp:h.get ap=some (.cells (H7 sv fo P) 0 false)
theorem At.ptc {U h0 sv fo ar ap lv q c0 c c' h h' R P}(H:At U h0 sv fo ar ap lv q c h R P)(hb:c0≠ap)(hU:∀i,U i->i<c0)(hc:c<=c')(hs:∀i,i<c->i≠c0->h'.get i=h.get i):Pt U h0 sv fo ap c' h' P:=⟨λi hi=>⟨wY (H.u i hi).1 hc,(H.u i hi).2.2.1,(hs i (H.u i hi).1 (Nat.ne_of_lt (hU i hi))).trans (H.u i hi).2.2.2⟩,wY H.p hc,(hs ap H.p (λe=>hb e.symm)).trans H.hp⟩
structure RIat (c0 c:Nat) (h:Trie VObj) (R:RV) (X:AI):Prop where
 e:R.op=X.op∧R.A=X.A∧R.B=X.B∧R.N=X.N∧R.k=X.k∧R.v=X.v∧R.bi=X.bi
 ts:SlU (fun i=>c0≤i∧i<c) h R.ts (X.ts.map iV)
 ls:SlU (fun i=>c0≤i∧i<c) h R.ls (X.ls.map iV)
theorem RIat.mono {c0 c1 c c' h h' R X}(H:RIat c0 c h R X)(h1:c1<=c0)(hc:c<=c')(hs:∀i,c0<=i->i<c->h'.get i=h.get i):RIat c1 c' h' R X:=⟨H.e,H.ts.mono λi hi=>⟨⟨wL h1 hi.1,wY hi.2 hc⟩,hs i hi.1 hi.2⟩,H.ls.mono λi hi=>⟨⟨wL h1 hi.1,wY hi.2 hc⟩,hs i hi.1 hi.2⟩⟩
theorem e5O (n a b d):o8 A9 (n+1) 73 [a,b,d]=c6E o9 NN (o8 A9 n) a b d:=a5I (q:=c6E) (N:=NN) zw n a b d
section
variable {U:Nat->Prop}{h0:Trie VObj}{sv fo:Value}{F:Nat->List (Value×Value)}{L:List (List UInt8)}{ap:Nat}{lv:Sl}{c:Nat}{h:Trie VObj}{P:PV}{l:List Nd}
def f0H (U:Nat->Prop)(h0:Trie VObj)(sv fo:Value)(ap:Nat)(P:PV)(l:List Nd)(c:Nat)(h:Trie VObj)(i:Nat)(im:Im)(x:CR)(s:V.S):Prop:=c<=s.c/\(∀i,i<c->i≠ap->s.h.get i=h.get i)/\((∃X nm nx R,im=.ok X nm nx/\x=.ret (.tuple ⟨[.agg ⟨a0Y R⟩,.string ⟨⟨nm⟩⟩,.int .i64 (.ofNat nx),.bool true]⟩)/\RIat c s.c s.h R X/\Pt U h0 sv fo ap s.c s.h P/\i<nx/\nx<=l.length)\/(∃p e R v2 v3,im=.er p e/\x=.ret (.tuple ⟨[.agg ⟨a0Y R⟩,v2,v3,.bool false]⟩)/\Pt U h0 sv fo ap s.c s.h {P with p:=p,e:=e}))
theorem t73 (E:Env U h0 sv F L)(m)(H:Pt U h0 sv fo ap c h P)(hl:NdL U h0 lv l){i n}(hi:l[i]?=some n)(r w):l9 (go (o8 A9 (m+10) 73 [.pointer (some ⟨ap,0,some 0⟩),.slice lv.a lv.n lv.e,.int .i64 (.ofNat i)]) ⟨c,h,r,w⟩) (f0H U h0 sv fo ap P l c h i (a1N F L l i n)):=by
 have hp:=H.hp;have a2:=H.p;have a6:ap≠c:=zy;have a8:ap≠c+1:=zy;have hlen:=hl.len.1;obtain⟨la,ln,le⟩:=lv;simp only at hlen;subst hlen;have hll:=hl.len.2;have hUc:∀j,U j->j<c:=λj hj=>(H.u j hj).1;have hlt:i<l.length:=(xC.1 hi).1;have hinc:=G9 i zy;obtain⟨b,p,g,cs,cur,ro,nl,hb,hg,hN,hT,e1,e2,e3,e4,e5,e6⟩:=hl.get hi;obtain⟨u1,u3,u4⟩:=H.u b hb;have hG:=u4.trans hg;simp only at e1;rw[e5O];have e109:=e0k (m+8) n.t;rw[d3f]at e109;unfold a1N;have eo:a2v a1y n.t=a2r n.t:=rfl;rw[eo]at e109;cases ho:a2r n.t with
  |none=>rw[ho]at e109;simp(disch:=try exact dz)only[G73,e1,e4,e5,hG,e109,hp,H7,X5,G72,↓gP,gY,gT];refine l9.done ?_;refine⟨zm,λi k1 k2=>?_,Or.inr ⟨_,_,O0 0 0,_,_,rfl,rfl,⟨λi hi=>⟨by have:=(H.u i hi).1;grind,(H.u i hi).2.1,?_⟩,zu,?_⟩⟩⟩;grind[d9];have k1:=(H.u i hi).1;have k2:=(H.u i hi).2.1;simp(disch:=try exact xE)only[d9];exact(H.u i hi).2.2;grind[d9,o7,H7]|some op=>
   rw[ho]at e109;have hok:=b8J ho;unfold c7U at hok;rw[wh]at hok;obtain⟨hop,hor⟩:=hok;simp(disch:=try exact dz)only[G73,e1,e4,e5,hG,e109,hinc,↓gP,gY,gT];have hrow:At U h0 sv fo (c+1) ap ⟨la,l.length,le⟩ n.p (c+1+1) (V.upd (V.upd h c (.cells [(.int .i64 (.ofNat 0),0),(.int .i64 (.ofNat 0),0),(.int .i64 (.ofNat 0),0),(.int .u64 (.ofNat 0),0),(.int .i64 (.ofNat 0),0),(.int .i64 (.ofNat 0),0),(.int .i64 (.ofNat 0),0),(.slice none 0 0,0),(.slice none 0 0,0)] 0 false)) (c+1) (.cells (J9 ap ⟨la,l.length,le⟩ n.p (O0 op (i+1))) 0 false)) (O0 op (i+1)) P:=by refine⟨λj hj=>⟨by have:=(H.u j hj).1;omega,by have:=(H.u j hj).1;omega,(H.u j hj).2.1,?_⟩,zy,zy,zy,o7 _ _ _,?_⟩;have k1:=(H.u j hj).1;simp(disch:=try exact xE)only[d9];exact(H.u j hj).2.2;grind[d9]
   cases q27:decide (op=27)with
    |true=>
     have h27:op=27:=wP q27;subst h27;refine l9.bindC (d6I (R:=O0 27 (i+1)) E m rfl hlt hrow hl _ _) λx s hq=>?_;obtain⟨c',h',r',w'⟩:=s;obtain⟨hc,hs,hq⟩:=hq;simp only at hc hs;rcases hq with⟨hnone,rfl,H'⟩|⟨n1,hi1,hb1,⟨t,eV,rfl,ts,hts,H'⟩|⟨p',e',eV,rfl,R',H'⟩⟩;have eS:(match l[i+1]? with|none=>Im.ok ⟨27,0,0,0,0,0,0,[],[]⟩ [] (i+1)|some n1=>bcase (Z4 n1.k (a0f n1.l) [114,101,115,117,108,116]) (match a3e n1 n.p with|.ok t=>.ok ⟨28,0,0,0,0,0,0,[t],[]⟩ [] (i+2)|.er p e=>.er p e) (.ok ⟨27,0,0,0,0,0,0,[],[]⟩ [] (i+1)))=Im.ok ⟨27,0,0,0,0,0,0,[],[]⟩ [] (i+1):=by rcases hnone with h1|⟨n1,h1,h2⟩;have h1:l[i+1]?=none:=h1;rw[h1];have h1:l[i+1]?=some n1:=h1;rw[h1];simp_all[bcase]
     rw[G6,eS];have hr':=H'.hr;have b1:=H'.r;have b2:c≠c+1:=zy;have b3:ap≠c+1:=zy;have b4:c≠ap:=zy;have hv:h'.get c=some (.cells [(.int .i64 (.ofNat 0),0),(.int .i64 (.ofNat 0),0),(.int .i64 (.ofNat 0),0),(.int .u64 (.ofNat 0),0),(.int .i64 (.ofNat 0),0),(.int .i64 (.ofNat 0),0),(.int .i64 (.ofNat 0),0),(.slice none 0 0,0),(.slice none 0 0,0)] 0 false):=zJ;have hsm:∀j,j<c->j≠ap->h'.get j=h.get j:=λj k1 k2=>ym;simp(disch:=try exact dz)only[G73,hr',J9,hv,↓gP,gY];refine l9.done ?_;refine⟨zu,λj k1 k2=>?_,Or.inl ⟨_,_,_,O0 27 (i+1),rfl,rfl,⟨⟨rfl,rfl,rfl,rfl,rfl,rfl,rfl⟩,?_,?_⟩,H'.ptc (c0:=c) b4 hUc (xD _) (λj k1 k2=>?_),⟨wu i,hlt⟩⟩⟩;rw[d9 zy];simp_all;exact⟨rfl,Or.inl rfl⟩;exact⟨rfl,Or.inl rfl⟩;rw[d9 k2];have hi1':l[i+1]?=some n1:=hi1;rw[G6,hi1'];simp only[hb1,eV,G6];have hr':=H'.hr;have b1:=H'.r;have b2:c≠c+1:=zy;have b3:ap≠c+1:=zy;have b4:c≠ap:=zy;have hv:h'.get c=some (.cells [(.int .i64 (.ofNat 0),0),(.int .i64 (.ofNat 0),0),(.int .i64 (.ofNat 0),0),(.int .u64 (.ofNat 0),0),(.int .i64 (.ofNat 0),0),(.int .i64 (.ofNat 0),0),(.int .i64 (.ofNat 0),0),(.slice none 0 0,0),(.slice none 0 0,0)] 0 false):=zJ;have hsm:∀j,j<c->j≠ap->h'.get j=h.get j:=λj k1 k2=>ym;simp(disch:=try exact dz)only[G73,hr',J9,hv,↓gP,gY];refine l9.done ?_;refine⟨zu,λj k1 k2=>?_,Or.inl ⟨_,_,_,⟨i+1+1,28,0,0,0,0,0,0,ts,⟨none,0,0⟩,[]⟩,rfl,rfl,⟨⟨rfl,rfl,rfl,rfl,rfl,rfl,rfl⟩,?_,?_⟩,H'.ptc (c0:=c) b4 hUc (xD _) (λj k1 k2=>?_),⟨zy,(xC.1 hi1).1⟩⟩⟩;rw[d9 zy];simp_all;exact hts.mono λj hj=>⟨⟨by have:=hj.1;omega,hj.2⟩,d9 (by have:=hj.1;omega)⟩;exact⟨rfl,Or.inl rfl⟩;rw[d9 k2];have hi1':l[i+1]?=some n1:=hi1;rw[G6,hi1'];simp only[hb1,eV,G6];have hr':=H'.hr;have b1:=H'.r;have b2:c≠c+1:=zy;have b3:ap≠c+1:=zy;have b4:c≠ap:=zy;have hv:h'.get c=some (.cells [(.int .i64 (.ofNat 0),0),(.int .i64 (.ofNat 0),0),(.int .i64 (.ofNat 0),0),(.int .u64 (.ofNat 0),0),(.int .i64 (.ofNat 0),0),(.int .i64 (.ofNat 0),0),(.int .i64 (.ofNat 0),0),(.slice none 0 0,0),(.slice none 0 0,0)] 0 false):=zJ;have hsm:∀j,j<c->j≠ap->h'.get j=h.get j:=λj k1 k2=>ym;simp(disch:=try exact dz)only[G73,hr',J9,hv,↓gP,gY];refine l9.done ?_;refine⟨zu,λj k1 k2=>?_,Or.inr ⟨_,_,R',_,_,rfl,rfl,H'.ptc (c0:=c) b4 hUc (xD _) (λj k1 k2=>?_)⟩⟩;rw[d9 zy];simp_all;rw[d9 k2]|false=>
     have n27:Nat.beq op 27=false:=V5 (vR q27);rw[n27,wF]at hor;rw[G5];cases q3:decide (P9 (.ofNat op)=3)with
      |true=>have h3:=wP q3;refine l9.bindC (e0I (R:=O0 op (i+1)) E m q27 hop h3 hlt hrow hl _ _) λx s hq=>?_;obtain⟨c',h',r',w'⟩:=s;obtain⟨hc,hs,hq⟩:=hq;simp only at hc hs;rcases hq with⟨ks,e1,rfl,ls,hls,H'⟩|⟨p',e',e1,rfl,R',H'⟩;have e1':a2d (L9 L) n.p (l.drop (i+1))=.ok ks:=e1;have hkl:=(b1h _ _ _ e1').2;rw[vz]at hkl;rw[G6,e1'];simp only;have hr':=H'.hr;have b1:=H'.r;have b2:c≠c+1:=zy;have b3:ap≠c+1:=zy;have b4:c≠ap:=zy;have hv:h'.get c=some (.cells [(.int .i64 (.ofNat 0),0),(.int .i64 (.ofNat 0),0),(.int .i64 (.ofNat 0),0),(.int .u64 (.ofNat 0),0),(.int .i64 (.ofNat 0),0),(.int .i64 (.ofNat 0),0),(.int .i64 (.ofNat 0),0),(.slice none 0 0,0),(.slice none 0 0,0)] 0 false):=zJ;have hsm:∀j,j<c->j≠ap->h'.get j=h.get j:=λj k1 k2=>ym;simp(disch:=try exact dz)only[G73,hr',J9,hv,↓gP,gY];refine l9.done ?_;refine⟨zu,λj k1 k2=>?_,Or.inl ⟨_,_,_,⟨i+1+ks.length,op,a8P ks,0,0,0,0,0,⟨none,0,0⟩,ls,[]⟩,rfl,rfl,⟨⟨rfl,rfl,rfl,rfl,rfl,rfl,rfl⟩,?_,?_⟩,H'.ptc (c0:=c) b4 hUc (xD _) (λj k1 k2=>?_),⟨zy,zy⟩⟩⟩;rw[d9 zy];simp_all;exact⟨rfl,Or.inl rfl⟩;exact hls.mono λj hj=>⟨⟨by have:=hj.1;omega,hj.2⟩,d9 (by have:=hj.1;omega)⟩;rw[d9 k2];have e1':a2d (L9 L) n.p (l.drop (i+1))=.er p' e':=e1;rw[G6,e1'];simp only;have hr':=H'.hr;have b1:=H'.r;have b2:c≠c+1:=zy;have b3:ap≠c+1:=zy;have b4:c≠ap:=zy;have hv:h'.get c=some (.cells [(.int .i64 (.ofNat 0),0),(.int .i64 (.ofNat 0),0),(.int .i64 (.ofNat 0),0),(.int .u64 (.ofNat 0),0),(.int .i64 (.ofNat 0),0),(.int .i64 (.ofNat 0),0),(.int .i64 (.ofNat 0),0),(.slice none 0 0,0),(.slice none 0 0,0)] 0 false):=zJ;have hsm:∀j,j<c->j≠ap->h'.get j=h.get j:=λj k1 k2=>ym;simp(disch:=try exact dz)only[G73,hr',J9,hv,↓gP,gY];refine l9.done ?_;refine⟨zu,λj k1 k2=>?_,Or.inr ⟨_,_,R',_,_,rfl,rfl,H'.ptc (c0:=c) b4 hUc (xD _) (λj k1 k2=>?_)⟩⟩;rw[d9 zy];simp_all;rw[d9 k2]|false=>
       have n3:Nat.beq (P9 (.ofNat op)) 3=false:=V5 (vR q3);rw[n3,wF,wh]at hor;obtain⟨hjs,hal⟩:=hor;have hal':P9 (.ofNat op)=17->(a1D a1V (.ofNat op)).isSome=true:=λe=>by rw[e]at hal;exact hal
       have hK:=Kp.imm F L (a6l op) (P9 (.ofNat op)) l n.p (O0 op (i+1));refine l9.bindC (e9G (R:=O0 op (i+1)) E m q27 hop hjs hal' hlt hrow hl _ _) λx s hq=>?_;obtain⟨c',h',r',w'⟩:=s;obtain⟨rfl,hF⟩:=hq;have hc:=hF.le;have hs:=hF.same;simp only at hc hs;rw[G5];have eR:b0d F L (a6l (O0 op (i+1)).op) (P9 (.ofNat (O0 op (i+1)).op)) l n.p (O0 op (i+1))=b0d F L (a6l op) (P9 (.ofNat op)) l n.p (O0 op (i+1)):=rfl;rw[eR]at hF;rw[eR];cases e1:b0d F L (a6l op) (P9 (.ofNat op)) l n.p (O0 op (i+1))with|ok R1=>rw[e1]at hF;obtain⟨R',H2,hR⟩:=hF.at';obtain rfl:=hR R1 rfl;have H':At U h0 sv fo (c+1) ap ⟨la,l.length,le⟩ n.p c' h' R' P:=H2;obtain⟨k1,k2,k3,k4,k5⟩:=hK R' e1;obtain⟨xi,xop,xA,xB,xN,xk,xv,xbi,xts,xls,xnm⟩:=R';have k1:xts=⟨none,0,0⟩:=k1;have k2:xls=⟨none,0,0⟩:=k2;subst k1;subst k2;simp only[c5X,Rs.b];have hr':=H'.hr;have b1:=H'.r;have b2:c≠c+1:=zy;have b3:ap≠c+1:=zy;have b4:c≠ap:=zy;have hv:h'.get c=some (.cells [(.int .i64 (.ofNat 0),0),(.int .i64 (.ofNat 0),0),(.int .i64 (.ofNat 0),0),(.int .u64 (.ofNat 0),0),(.int .i64 (.ofNat 0),0),(.int .i64 (.ofNat 0),0),(.int .i64 (.ofNat 0),0),(.slice none 0 0,0),(.slice none 0 0,0)] 0 false):=zJ;have hsm:∀j,j<c->j≠ap->h'.get j=h.get j:=λj k1 k2=>ym;simp(disch:=try exact dz)only[G73,hr',J9,hv,↓gP,gY];refine l9.done ?_;refine⟨zu,λj k1 k2=>?_,Or.inl ⟨_,_,_,⟨xi,xop,xA,xB,xN,xk,xv,xbi,⟨none,0,0⟩,⟨none,0,0⟩,xnm⟩,rfl,rfl,⟨⟨rfl,rfl,rfl,rfl,rfl,rfl,rfl⟩,?_,?_⟩,H'.ptc (c0:=c) b4 hUc (xD _) (λj k1 k2=>?_),⟨k4,k5 hlt⟩⟩⟩;rw[d9 zy];simp_all;exact⟨rfl,Or.inl rfl⟩;exact⟨rfl,Or.inl rfl⟩;rw[d9 k2]|er p' e'=>rw[e1]at hF;obtain⟨R',H2,hR⟩:=hF.at';have H':At U h0 sv fo (c+1) ap ⟨la,l.length,le⟩ n.p c' h' R' {P with p:=p',e:=e'}:=H2;simp only[c5X,Rs.b];have hr':=H'.hr;have b1:=H'.r;have b2:c≠c+1:=zy;have b3:ap≠c+1:=zy;have b4:c≠ap:=zy;have hv:h'.get c=some (.cells [(.int .i64 (.ofNat 0),0),(.int .i64 (.ofNat 0),0),(.int .i64 (.ofNat 0),0),(.int .u64 (.ofNat 0),0),(.int .i64 (.ofNat 0),0),(.int .i64 (.ofNat 0),0),(.int .i64 (.ofNat 0),0),(.slice none 0 0,0),(.slice none 0 0,0)] 0 false):=zJ;have hsm:∀j,j<c->j≠ap->h'.get j=h.get j:=λj k1 k2=>ym;simp(disch:=try exact dz)only[G73,hr',J9,hv,↓gP,gY];refine l9.done ?_;refine⟨zu,λj k1 k2=>?_,Or.inr ⟨_,_,R',_,_,rfl,rfl,H'.ptc (c0:=c) b4 hUc (xD _) (λj k1 k2=>?_)⟩⟩;rw[d9 zy];simp_all;rw[d9 k2]
end
def R7 (sz c:Nat)(h:Trie VObj)(u:Sl)(rows:List Value):Prop:=rows.length=u.n*sz/\((u=⟨none,0,0⟩)\/∃ab g cs,u.a=some ⟨ab,0,some g⟩/\u.e=sz/\ab<c/\h.get ab=some (.cells cs g false)/\rows.length<=F9 cs/\A7 g cs rows.length=some rows)
theorem R7.nil (sz c h):R7 sz c h ⟨none,0,0⟩ []:=⟨zn,Or.inl rfl⟩
theorem R7.mono {sz c c' h h' u rows}(H:R7 sz c h u rows)(hc:c<=c')(hh:∀b,b<c->u.own b->h'.get b=h.get b):R7 sz c' h' u rows:=by obtain⟨h1,h2|⟨ab,g,cs,h2,h3,h4,h5,h6,h7⟩⟩:=H;exact⟨h1,Or.inl h2⟩;exact⟨h1,Or.inr ⟨ab,g,cs,h2,h3,zy,(hh ab h4 ⟨_,h2,rfl⟩).trans h5,h6,h7⟩⟩
theorem R7.own_lt {sz c h u rows}(H:R7 sz c h u rows){i}(hi:u.own i):i<c:=by obtain⟨a,ha,rfl⟩:=hi;obtain⟨_,rfl|⟨ab,g,cs,h2,h3,h4,_⟩⟩:=H;cases ha;grind
theorem d2T {g}:∀(cs) (n),n<=F9 cs->F9 (a2i cs n)=n/\A7 g (a2i cs n) n=A7 g cs n:=by
 intro cs;induction cs with
  |nil=>
   intro n hn;have:n=0:=by have:=hn;rw[b1T]at this;omega
   subst this;exact⟨rfl,rfl⟩|cons q cs ih=>intro n hn;cases n with|zero=>exact⟨rfl,by rw[Y5,Y5]⟩|succ n=>rw[a5V]at hn;simp_all[a5V,A7,a2i]
theorem a0M {e sz}(e1:e.size=sz)(e0:0<sz)(e2:Nat.blt e.bytes 4096=true){c h u x rows xs}(H:R7 sz c h u rows)(X:b3f sz c h x xs)(ho:M0 P8 xs=true)(hl:(u.n+x.n)*4<4294967296)(r w):l9 (go (a3G e (.slice u.a u.n u.e) (.slice x.a x.n x.e)) ⟨c,h,r,w⟩) λy s=>∃u',y=.slice u'.a u'.n u'.e/\u'.n=u.n+x.n/\R7 sz s.c s.h u' (rows++xs)/\c<=s.c/\(∀i,i<c->¬u.own i->s.h.get i=h.get i)/\(∀i,i<c->u'.own i->u.own i)/\∀i∈s.w,i∈w\/u.own i\/c<=i:=by
 obtain⟨r',hs⟩:=b7m X r w;unfold a3G;rw[e1,M5,hs,M9,a0g];obtain⟨hx,_⟩:=X;cases xs with
  |nil=>have hx0:x.n=0:=xS;refine⟨_,_,rfl,u,rfl,zy,by rw[wR];exact H,xD _,λ_ _ _=>rfl,λ_ _ h=>h,λi h=>Or.inl h⟩|cons v vs=>
   have hlen:F9 (v::vs)=x.n*sz:=by rw[J2];exact hx
   have hlen':F9 vs+1=x.n*sz:=hlen;have hdiv:(F9 vs+1)/sz=x.n:=by rw[hlen'];simp_all
   have hg1:Nat.beq (x.n*sz) (F9 vs+1)=true:=by rw[hlen'];simp_all
   have hg2:Nat.blt ((u.n+x.n)*4) a7M=true:=L8 hl;unfold a7n;simp only[a4b,e1,hdiv,hg1,ho,hg2,e2,uk,V4];obtain⟨hrl,rfl|⟨ab,g,cs,h2,h3,h5,h6,h7,h8⟩⟩:=H;have hr0:rows=[]:=by
    have:rows.length=0:=by rw[hrl];simp_all
    simp_all
   subst hr0;simp only[J4,V4];rw[M5,a2I _ _ _ _ _ ho,M9];refine⟨_,_,rfl,⟨some ⟨c,0,some 0⟩,x.n,sz⟩,rfl,(wM _).symm,⟨hx,Or.inr ⟨c,0,_,rfl,rfl,wu c,o7 _ _ _,?_,?_⟩⟩,wZ c,λi hi _=>d9 zy,λi hi hq=>?_,λi hi=>?_⟩;rw[J2,a1z,wK];simp_all;have:∀l:List Value,A7 0 (J7 (λv=>(v,0)) l) l.length=some l:=by intro l;induction l<;>simp_all[A7,J7]
   grind;obtain⟨a,ha,hb⟩:=hq;grind;grind;obtain⟨ua,un,ue⟩:=u;simp only at h2 h3 hrl hl⊢;subst h2;subst h3;simp only[J4,V4];unfold appendAt;have hb:Nat.ble (0+un*ue) (F9 cs)=true:=by rw[wM,<-hrl];simp_all
   simp only[G7,e1];rw[M5];show l9 (U3 (rd ab ⟨c,h,r',w⟩) _) _;rw[b5M,L8 h5,h6];simp only[M9,a6Y,uy,V4,hb,Y7];rw[<-hrl,h8,G7,a0g,wM,M5];show l9 (U3 (wr ab _ _) _) _;rw[b2U,L8 h5,h6];obtain⟨p1,p2⟩:=d2T (g:=g) cs rows.length h7;refine⟨_,_,rfl,⟨some ⟨ab,0,some (g+1)⟩,un+x.n,ue⟩,rfl,rfl,⟨?_,Or.inr ⟨ab,g+1,_,rfl,rfl,h5,o7 _ _ _,?_,?_⟩⟩,xD c,λi hi hq=>d9 (λe=>hq ⟨_,rfl,e.symm⟩),λi hi hq=>?_,λi hi=>?_⟩;rw[wW,hrl,hx,tY];rw[b0g,p1,J2,a1z,wK,wW];omega;rw[wW];grind[c2W];obtain⟨a,ha,hb⟩:=hq;cases ha;exact⟨_,rfl,hb⟩;rcases vG.1 hi with rfl|hi;exact Or.inr (Or.inl ⟨_,rfl,rfl⟩);simp_all
theorem R7.cut {sz c h u rows}(H:R7 sz c h u rows){j}(hj:j<u.n):R7 sz c h ⟨u.a,j,u.e⟩ (rows.take (j*sz)):=by
 obtain⟨h1,rfl|⟨ab,g,cs,h2,h3,h4,h5,h6,h7⟩⟩:=H;simp at hj;have hle:j*sz<=rows.length:=by rw[h1];exact Nat.mul_le_mul_right _ (Nat.le_of_lt hj)
 refine⟨by rw[tQ];simp_all,Or.inr ⟨ab,g,cs,h2,h3,h4,h5,?_,?_⟩⟩;rw[tQ];omega;grind[a7d]
structure PG where
 ap:Nat
 sb:Nat
 pc:Nat
 m:Nat
 F:Nat→List (Value×Value)
structure PD where
 c:Nat
 h:Trie VObj
 la:Sl
 oa:Sl
 lb:Nat
 p:Nat
 e:Nat
 L:List (List UInt8)
 S:List AI
 V:Nat→Prop
def PG.fo (G:PG):Value:=.func (.func 71) ⟨[]⟩ ⟨[.pointer (some ⟨G.pc,0,some 0⟩)]⟩
def PG.sv (G:PG):Value:=.pointer (some ⟨G.sb,0,some 0⟩)
def PD.P (d:PD):PV:=⟨d.oa,d.lb,d.p,d.e⟩
def Frz (G:PG)(d:PD)(i:Nat):Prop:=i<d.c/\i≠G.ap/\i≠G.sb/\¬d.la.own i/\¬d.oa.own i
structure Stp (G:PG) (d d':PD):Prop where
 le:d.c≤d'.c
 fz:∀ i,Frz G d i→Frz G d' i∧d'.h.get i=d.h.get i
 vn:∀ i,d'.V i→d.V i∨d.c≤i
 vm:∀ i,d.V i→d'.V i
theorem Stp.refl (G d):Stp G d d:=⟨xD _,λi h=>⟨h,rfl⟩,λi h=>Or.inl h,λi h=>h⟩
theorem Stp.trans {G d d' d''}(h1:Stp G d d')(h2:Stp G d' d''):Stp G d d'':=⟨wL h1.le h2.le,λi h=>⟨(h2.fz i (h1.fz i h).1).1,((h2.fz i (h1.fz i h).1).2).trans (h1.fz i h).2⟩,λi h=>by rcases h2.vn i h with h|h;exact h1.vn i h;exact Or.inr (wL h1.le h),λi h=>h2.vm i (h1.vm i h)⟩
structure RIu (U:Nat→Prop) (h:Trie VObj) (R:RV) (X:AI):Prop where
 e:R.op=X.op∧R.A=X.A∧R.B=X.B∧R.N=X.N∧R.k=X.k∧R.v=X.v∧R.bi=X.bi
 ts:SlU U h R.ts (X.ts.map iV)
 ls:SlU U h R.ls (X.ls.map iV)
theorem RIu.mono {U U' h h' R X}(H:RIu U h R X)(hu:∀i,U i->U' i/\h'.get i=h.get i):RIu U' h' R X:=⟨H.e,H.ts.mono hu,H.ls.mono hu⟩
inductive RIs (U:Nat→Prop) (h:Trie VObj):List RV→List AI→Prop
 | nil:RIs U h [] []
 | cons {R:RV} {X:AI} {Rs:List RV} {S:List AI}:RIu U h R X→RIs U h Rs S→RIs U h (R::Rs) (X::S)
theorem RIs.mono {U U' h h' Rs S}(H:RIs U h Rs S)(hu:∀i,U i->U' i/\h'.get i=h.get i):RIs U' h' Rs S:=by induction H with|nil=>exact .nil|cons h1 _ ih=>exact .cons (h1.mono hu) ih
theorem RIs.snoc {U h Rs S}(H:RIs U h Rs S){R X}(h1:RIu U h R X):RIs U h (Rs++[R]) (S++[X]):=by induction H with|nil=>exact .cons h1 .nil|cons h2 _ ih=>exact .cons h2 ih
theorem RIs.len {U h Rs S}(H:RIs U h Rs S):Rs.length=S.length:=by induction H<;>simp_all
structure ScM (U:Nat→Prop) (h:Trie VObj) (m:Nat) (F:Nat→List (Value×Value)):Prop where
 hm:U m
 es:∃ es,h.get m=some (.map es)∧∀ k,k<9→∃ kb ko kg ds cur2 ro2 n nm m2,Y9 (.int .i64 (.ofNat k)) es=some (some (.pointer (some ⟨kb,ko,some kg⟩)))∧U kb∧h.get kb=some (.cells ds cur2 ro2)∧A7 kg (F8 ds ko) 3=some [n,nm,.map (some m2)]∧U m2∧h.get m2=some (.map (F k))
 good:∀ k,k<9→∀ T:List UInt8,(∃ n,Y9 (.string ⟨⟨T⟩⟩) (F k)=some (some (.int .i64 (.ofNat n))))∨Y9 (.string ⟨⟨T⟩⟩) (F k)=some none
theorem ScM.mono {U U' h h' m F}(H:ScM U h m F)(hu:∀i,U i->U' i/\h'.get i=h.get i):ScM U' h' m F:=by refine⟨(hu _ H.hm).1,?_,H.good⟩;obtain⟨es,h1,h2⟩:=H.es;refine⟨es,(hu _ H.hm).2.trans h1,λk hk=>?_⟩;grind
structure Dp (G:PG) (d:PD):Prop where
 p:G.ap<d.c
 s:G.sb<d.c
 ne:G.ap≠G.sb
 hp:d.h.get G.ap=some (.cells (H7 G.sv G.fo d.P) 0 false)
 hs:d.h.get G.sb=some (.cells [(.map (some G.m), 0),(.slice d.la.a d.la.n d.la.e, 0)] 0 false)
 la:R7 1 d.c d.h d.la (d.L.map a1R)
 lo:∀ i,d.la.own i→i≠G.ap∧i≠G.sb∧¬ d.oa.own i
 oa:∃ Rs,R7 9 d.c d.h d.oa (Rs.flatMap a0Y)∧RIs d.V d.h Rs d.S
 oo:∀ i,d.oa.own i→i≠G.ap∧i≠G.sb
 vf:∀ i,d.V i→Frz G d i
 pc:d.V G.pc
 hpc:d.h.get G.pc=some (.cells [(.pointer (some ⟨G.ap, 0,some 0⟩), 0)] 0 false)
 sc:ScM d.V d.h G.m G.F
 sm:d.L.length<1800000∧d.S.length<900000000∧d.lb<4294967296
structure PU (G:PG) (d d':PD):Prop where
 le:d.c≤d'.c
 fr:∀ i,d.V i→d'.h.get i=d.h.get i
 la:∀ i,i<d.c→d'.la.own i→d.la.own i
 oa:∀ i,i<d.c→d'.oa.own i→d.oa.own i
 vm:∀ i,d.V i→d'.V i
 vn:∀ i,d'.V i→d.V i∨(d.c≤i∧i<d'.c∧¬ d'.la.own i∧¬ d'.oa.own i)
theorem PU.vf {G d d'}(H:PU G d d')(D:Dp G d){i}(hi:d'.V i):Frz G d' i:=by have hp:=D.p;have hs:=D.s;rcases H.vn i hi with h|⟨h1,h2,h3,h4⟩;have hf:=D.vf i h;exact⟨wY hf.1 H.le,hf.2.1,hf.2.2.1,λho=>hf.2.2.2.1 (H.la i hf.1 ho),λho=>hf.2.2.2.2 (H.oa i hf.1 ho)⟩;exact⟨h2,zy,zy,h3,h4⟩
theorem PU.stp {G d d'}(H:PU G d d')(fr:∀i,Frz G d i->d'.h.get i=d.h.get i):Stp G d d':=⟨H.le,λi hi=>⟨⟨wY hi.1 H.le,hi.2.1,hi.2.2.1,λh=>hi.2.2.2.1 (H.la i hi.1 h),λh=>hi.2.2.2.2 (H.oa i hi.1 h)⟩,fr i hi⟩,λi hi=>by rcases H.vn i hi with h|h;grind;omega,H.vm⟩
theorem Dp.go {G d d'}(H:Dp G d)(U:PU G d d')(hp:d'.h.get G.ap=some (.cells (H7 G.sv G.fo d'.P) 0 false))(hs:d'.h.get G.sb=some (.cells [(.map (some G.m),0),(.slice d'.la.a d'.la.n d'.la.e,0)] 0 false))(la:R7 1 d'.c d'.h d'.la (d'.L.map a1R))(lo:∀i,d'.la.own i->i≠G.ap/\i≠G.sb/\¬d'.oa.own i)(oa:∃Rs,R7 9 d'.c d'.h d'.oa (Rs.flatMap a0Y)/\RIs d'.V d'.h Rs d'.S)(oo:∀i,d'.oa.own i->i≠G.ap/\i≠G.sb)(sm:d'.L.length<1800000/\d'.S.length<900000000/\d'.lb<4294967296):Dp G d':=⟨wY H.p U.le,wY H.s U.le,H.ne,hp,hs,la,lo,oa,oo,λi hi=>U.vf H hi,U.vm _ H.pc,(U.fr _ H.pc).trans H.hpc,H.sc.mono λi hi=>⟨U.vm i hi,U.fr i hi⟩,sm⟩
def Rdb (G:PG)(d:PD)(i:Nat):Prop:=Frz G d i\/i=G.sb\/d.la.own i
theorem Dp.rdb {G d}(H:Dp G d){i}(hi:Rdb G d i):i<d.c/\i≠G.ap:=by rcases hi with h|rfl|h;exact⟨h.1,h.2.1⟩;exact⟨H.s,λe=>H.ne e.symm⟩;exact⟨H.la.own_lt h,(H.lo i h).1⟩
theorem Dp.env {G d}(H:Dp G d):Env (Rdb G d) d.h G.sv G.F d.L:=by
 refine⟨λk hk=>?_,H.sc.good,⟨?_,H.sm.1⟩⟩;obtain⟨es,h1,h2⟩:=H.sc.es;obtain⟨kb,ko,kg,ds,cur2,ro2,n,nm,m2,a1,a2,a3,a4,a5,a6⟩:=h2 k hk;exact⟨G.sb,0,0,_,0,false,G.m,_,es,kb,ko,kg,ds,cur2,ro2,n,nm,m2,rfl,Or.inr (Or.inl rfl),H.hs,rfl,Or.inl (H.vf _ H.sc.hm),h1,a1,Or.inl (H.vf _ a2),a3,a4,Or.inl (H.vf _ a5),a6⟩;refine⟨G.sb,0,0,_,0,false,G.m,d.la,rfl,Or.inr (Or.inl rfl),H.hs,rfl,?_⟩;obtain⟨h1,h2|⟨ab,g,cs,h2,h3,h4,h5,h6,h7⟩⟩:=H.la;refine⟨by rw[h1,vQ],Or.inl ?_⟩;have:(d.L.map a1R).length=0:=by rw[h1,h2];rfl
 simp_all;exact⟨by rw[h1,vQ],Or.inr ⟨ab,0,g,cs,g,false,h2,h3,Or.inr (Or.inr ⟨_,h2,rfl⟩),h5,by rw[Y7];exact h7⟩⟩
theorem Dp.pt {G d}(H:Dp G d):Pt (Rdb G d) d.h G.sv G.fo G.ap d.c d.h d.P:=⟨λi hi=>⟨(H.rdb hi).1,(H.rdb hi).2,rfl⟩,H.p,H.hp⟩
theorem Dp.lan {G d}(H:Dp G d):d.la.n=d.L.length:=by have:=H.la.1;rw[wK,vQ]at this;omega
theorem c3E:∀Rs:List RV,(Rs.flatMap a0Y).length=Rs.length*9:=by intro Rs;induction Rs with|nil=>rfl|cons R Rs ih=>rw[vU,wW,ih,wU];show 9+_=_;omega
theorem Dp.oan {G d}(H:Dp G d):d.oa.n=d.S.length:=by obtain⟨Rs,h1,h2⟩:=H.oa;have:=h1.1;rw[c3E,h2.len]at this;omega
theorem Dp.rd {G d}(H:Dp G d){c' p e h'}(hc:d.c<=c')(hs:∀i,i<d.c->i≠G.ap->h'.get i=d.h.get i)(hp:h'.get G.ap=some (.cells (H7 G.sv G.fo ⟨d.oa,d.lb,p,e⟩) 0 false)):Dp G {d with c:=c',h:=h',p:=p,e:=e,V:=λi=>d.V i\/d.c<=i/\i<c'}/\Stp G d {d with c:=c',h:=h',p:=p,e:=e,V:=λi=>d.V i\/d.c<=i/\i<c'}:=by obtain⟨Rs,h1,h2⟩:=H.oa;have U:PU G d {d with c:=c',h:=h',p:=p,e:=e,V:=λi=>d.V i\/d.c<=i/\i<c'}:=⟨hc,λi hi=>hs i (H.vf i hi).1 (H.vf i hi).2.1,λ_ _ h=>h,λ_ _ h=>h,λi hi=>Or.inl hi,λi hi=>by rcases hi with h|⟨h,h'⟩;grind;exact Or.inr ⟨h,h',λho=>by have:=H.la.own_lt ho;omega,λho=>by have:=h1.own_lt ho;omega⟩⟩;refine⟨H.go U hp ((hs _ H.s (λe=>H.ne e.symm)).trans H.hs) (H.la.mono hc λb hb ho=>hs b hb (H.lo b ho).1) H.lo ?_ H.oo H.sm,U.stp λi hi=>hs i hi.1 hi.2.1⟩;exact⟨Rs,h1.mono hc λb hb ho=>hs b hb (H.oo b ho).1,h2.mono λi hi=>⟨Or.inl hi,U.fr i hi⟩⟩
theorem Dp.wr {G d}(H:Dp G d){c' h'}{O:Nat->Prop}(hO:∀i,O i->Frz G d i/\¬d.V i)(hc:d.c<=c')(hs:∀i,i<d.c->¬O i->h'.get i=d.h.get i):Dp G {d with c:=c',h:=h'}:=by obtain⟨Rs,h1,h2⟩:=H.oa;have U:PU G d {d with c:=c',h:=h'}:=⟨hc,λi hi=>hs i (H.vf i hi).1 λho=>(hO i ho).2 hi,λ_ _ h=>h,λ_ _ h=>h,λi hi=>hi,λi hi=>Or.inl hi⟩;refine H.go U ((hs _ H.p λho=>(hO _ ho).1.2.1 rfl).trans H.hp) ((hs _ H.s λho=>(hO _ ho).1.2.2.1 rfl).trans H.hs) (H.la.mono hc λb hb ho=>hs b hb λhb'=>(hO b hb').1.2.2.2.1 ho) H.lo ?_ H.oo H.sm;exact⟨Rs,h1.mono hc λb hb ho=>hs b hb λhb'=>(hO b hb').1.2.2.2.2 ho,h2.mono λi hi=>⟨hi,U.fr i hi⟩⟩
theorem Stp.wr {G d0 d}(H:Stp G d0 d){c' h'}(hc:d.c<=c')(hs:∀i,i<d0.c->h'.get i=d.h.get i):Stp G d0 {d with c:=c',h:=h'}:=⟨wL H.le hc,λi hi=>⟨⟨wY (H.fz i hi).1.1 hc,(H.fz i hi).1.2⟩,(hs i hi.1).trans (H.fz i hi).2⟩,H.vn,H.vm⟩
theorem RIat.u {d:PD}{c' h' R X}(h:RIat d.c c' h' R X):RIu (λi=>d.V i\/d.c<=i/\i<c') h' R X:=⟨h.e,h.ts.mono λi hi=>⟨Or.inr hi,rfl⟩,h.ls.mono λi hi=>⟨Or.inr hi,rfl⟩⟩
theorem b3S (n a):o8 A9 (n+1) 79 [a]=b1E o9 NN (o8 A9 n) a:=a1j (q:=b1E) (N:=NN) zw n a
theorem d5h (n a b):o8 A9 (n+1) 69 [a,b]=c2X o9 NN (o8 A9 n) a b:=a0Z (q:=c2X) (N:=NN) zw n a b
theorem d4I (n a):o8 A9 (n+1) 77 [a]=c6A o9 NN (o8 A9 n) a:=a1j (q:=c6A) (N:=NN) zw n a
theorem d9G (n a b):o8 A9 (n+1) 111 [a,b]=b9w o9 NN (o8 A9 n) a b:=a0Z (q:=b9w) (N:=NN) zw n a b
theorem e2g (n a):o8 A9 (n+1) 112 [a]=c0W o9 NN (o8 A9 n) a:=a1j (q:=c0W) (N:=NN) zw n a
theorem a1u (n)(h:n<4294967296):N8 .i64 (Int.ofNat (n+1)-Int.ofNat 1)=Int.ofNat n:=by have e:(Int.ofNat (n+1)-Int.ofNat 1:Int)=Int.ofNat n:=zm;rw[e];exact b0r .i64 n (by show n<9223372036854775808;omega)
theorem e7W {α β}(x:Option (α×V.S))(f k k'):R9 (U3 x f) k k'=U3 x λa=>o9.bc β (f a) k k':=by cases x with|none=>rfl|some y=>exact(c3M _ _ _ _).symm
structure Nx (G:PG) (d:PD) (s:V.S) (d':PD):Prop where
 c:s.c=d'.c
 h:s.h=d'.h
 dp:Dp G d'
 st:Stp G d d'
theorem c6l {G d}(H:Dp G d)(m nm)(hL:d.L.length+1<1800000)(hb:d.lb+1<4294967296)(r w):l9 (go (o8 A9 (m+3) 111 [.pointer (some ⟨G.ap,0,some 0⟩),.string ⟨⟨nm⟩⟩]) ⟨d.c,d.h,r,w⟩) λx s=>x=.ret (.tuple ⟨[]⟩)/\∃d',Nx G d s d'/\d'.L=d.L++[nm]/\d'.lb=d.lb+1/\d'.S=d.S/\d'.p=d.p/\d'.e=d.e:=by
 obtain⟨c,h,la,oa,lb,p,e,L,S,VV⟩:=d;have hp:=H.hp;have hs:=H.hs;have a1:=H.p;have a2:=H.s;have a3:=H.ne;have a4:G.ap≠c:=zu;have a5:G.sb≠c:=zu;have a6:G.sb≠G.ap:=λe=>a3 e.symm;simp only at hp hs a1 a2 hL hb;have hlan:=H.lan;simp only at hlan;have hinc:=G9 lb zy;obtain⟨Rs,o1,o2⟩:=H.oa;simp only at o1 o2;have hla:R7 1 c h la (L.map a1R):=H.la;have hlt:=λ{i:Nat} (hi:la.own i)=>H.la.own_lt hi;rw[d9G];simp(disch:=try exact dz)only[e9s,hp,H7,PD.P,PG.sv,d5h,G69,b3S,G79,hs,e7W,b0S,b0X,↓gP,gY];refine l9.bindS (a0M (x:=⟨some ⟨c,0,some 0⟩,1,1⟩) (xs:=[a1R nm]) b4E zq b4t (hla.mono (wZ c) λb k1 k2=>?_) ⟨rfl,Or.inr ⟨c,0,0,[(a1R nm,0)],0,false,rfl,rfl,wu _,o7 _ _ _,rfl⟩⟩ rfl ?_ _ _) λy s hq=>?_;grind[d9];grind;obtain⟨c',h',r',w'⟩:=s;obtain⟨u',rfl,hn',hg,hc,hs2,hown,hww⟩:=hq;simp only at hg hc hs2 hn';have hs3:∀i,i<c->¬la.own i->h'.get i=h.get i:=λi k1 k2=>by have:=hs2 i zy k2;grind[d9]
 have hown':∀i,u'.own i->la.own i\/c<=i:=λi k=>zu;have hs':=(hs3 _ a2 λk=>(H.lo _ k).2.1 rfl).trans hs;have hp':=(hs3 _ a1 λk=>(H.lo _ k).1 rfl).trans hp;have a1':G.ap<c':=zy;have a2':G.sb<c':=zy;simp(disch:=try exact dz)only[hs',hp',H7,PD.P,hinc,↓gP,gY];refine l9.done ?_;have U:PU G ⟨c,h,la,oa,lb,p,e,L,S,VV⟩ ⟨c',V.upd (V.upd h' G.sb (.cells [(.map (some G.m),0),(.slice u'.a u'.n u'.e,0)] 0 false)) G.ap (.cells (H7 G.sv G.fo ⟨oa,lb+1,p,e⟩) 0 false),u',oa,lb+1,p,e,L++[nm],S,VV⟩:=by refine⟨zu,λi k=>?_,λi k1 k2=>?_,λi k1 k2=>k2,λi k=>k,λi k=>Or.inl k⟩;obtain⟨k1,k2,k3,k4,k5⟩:=H.vf i k;grind[d9];grind
 refine⟨rfl,_,⟨rfl,rfl,H.go U ?_ ?_ ?_ ?_ ?_ H.oo ?_,U.stp λi k=>?_⟩,rfl,rfl,rfl,rfl,rfl⟩;exact o7 _ _ _;grind[d9,o7];refine(ut▸hg:R7 1 c' h' u' ((L++[nm]).map a1R)).mono (xD _) λb k1 k2=>?_;have k3:b≠G.ap/\b≠G.sb:=by rcases hown' b k2 with k|k;exact⟨(H.lo b k).1,(H.lo b k).2.1⟩;omega
 grind[d9];intro i k;dsimp only at k;rcases hown' i k with k1|k1;exact H.lo i k1;exact⟨zy,zy,λho=>by have:=o1.own_lt ho;omega⟩;refine⟨Rs,o1.mono (wL (wZ c) hc) λb k1 k2=>?_,o2.mono λi k=>⟨k,?_⟩⟩;have k3:=(H.oo b k2).1;have k4:=(H.oo b k2).2;simp(disch:=try exact xE)only[d9];exact hs3 b k1 λk=>(H.lo b k).2.2 k2;obtain⟨k1,k2,k3,k4,k5⟩:=H.vf i k;grind[d9];have:=H.sm;simp_all;obtain⟨k1,k2,k3,k4,k5⟩:=k;grind[d9]
theorem d8G {G d}(H:Dp G d)(m)(hL:d.L≠[])(hb:0<d.lb)(r w):l9 (go (o8 A9 (m+3) 112 [.pointer (some ⟨G.ap,0,some 0⟩)]) ⟨d.c,d.h,r,w⟩) λx s=>x=.ret (.tuple ⟨[]⟩)/\∃d',Nx G d s d'/\d'.L=d.L.dropLast/\d'.lb+1=d.lb/\d'.S=d.S/\d'.p=d.p/\d'.e=d.e/\d'.V=d.V:=by
 obtain⟨c,h,la,oa,lb,p,e,L,S,VV⟩:=d;have hp:=H.hp;have hs:=H.hs;have a1:=H.p;have a2:=H.s;have a3:=H.ne;have a6:G.sb≠G.ap:=λe=>a3 e.symm;simp only at hp hs a1 a2 hL hb;have hlan:=H.lan;simp only at hlan;have hsm:=H.sm;simp only at hsm;obtain⟨lb,rfl⟩:∃k,lb=k+1:=⟨lb-1,zy⟩;have hdec:=a1u lb zy;obtain⟨j,hj⟩:∃j,L.length=j+1:=⟨L.length-1,by have:=qh.2 hL;omega⟩;have hdec2:=a1u j zy;obtain⟨la,ln,le⟩:=la;simp only at hlan;rw[hj]at hlan;subst hlan;obtain⟨hl1,hor⟩:=H.la;rcases hor with h0|⟨ab,g,cs,h2,h3,h4,h5,h6,h7⟩;simp_all;simp only at h2 h3 h4 h5;subst h2;subst h3;rw[e2g];have e0:decide (Int.ofNat 0<Int.ofNat (j+1))=true:=ww (vv.2 (qw j));have e1:=λk=>a9M 1 ab 0 g (j+1) j k (wZ j) zq;simp(disch:=try exact dz)only[e9v,hp,H7,PD.P,PG.sv,d4I,G77,b3S,G79,hs,hdec,hdec2,b0S,b0X,e0,e1,↓gP,gY,Nat.reduceEqDiff];refine l9.done ?_;have U:PU G ⟨c,h,⟨some ⟨ab,0,some g⟩,j+1,1⟩,oa,lb+1,p,e,L,S,VV⟩ ⟨c,V.upd (V.upd h G.sb (.cells [(.map (some G.m),0),(.slice (some ⟨ab,0,some g⟩) j 1,0)] 0 false)) G.ap (.cells (H7 G.sv G.fo ⟨oa,lb,p,e⟩) 0 false),⟨some ⟨ab,0,some g⟩,j,1⟩,oa,lb,p,e,L.dropLast,S,VV⟩:=by refine⟨xD _,λi k=>?_,λi k1 k2=>k2,λi k1 k2=>k2,λi k=>k,λi k=>Or.inl k⟩;obtain⟨k1,k2,k3,k4,k5⟩:=H.vf i k;grind[d9]
 obtain⟨Rs,o1,o2⟩:=H.oa;refine⟨rfl,_,⟨rfl,rfl,H.go U ?_ ?_ ?_ H.lo ?_ H.oo ?_,U.stp λi k=>?_⟩,rfl,rfl,rfl,rfl,rfl,rfl⟩;exact o7 _ _ _;grind[d9,o7];have hg:=(H.la.cut (j:=j) (wu j)).mono (h':=V.upd (V.upd h G.sb (.cells [(.map (some G.m),0),(.slice (some ⟨ab,0,some g⟩) j 1,0)] 0 false)) G.ap (.cells (H7 G.sv G.fo ⟨oa,lb,p,e⟩) 0 false)) (xD _) λb k1 k2=>by have k3:=(H.lo b k2).1;have k4:=(H.lo b k2).2.1;grind[d9]
 rw[<-List.map_take,vQ]at hg;have e2:L.take j=L.dropLast:=by rw[sV,hj];rfl
 simp_all;refine⟨Rs,o1.mono (xD _) λb k1 k2=>?_,o2.mono λi k=>⟨k,?_⟩⟩;have k3:=(H.oo b k2).1;have k4:=(H.oo b k2).2;grind[d9];obtain⟨k1,k2,k3,k4,k5⟩:=H.vf i k;grind[d9];grind;obtain⟨k1,k2,k3,k4,k5⟩:=k;grind[d9]
end
inductive Ps where
 | ok (T:List AI)
 | er (p e:Nat)
structure Bk where
 p:Nat
 op:Nat
 el:Bool
def aiE (op:Nat):AI:=⟨op,0,0,0,0,0,0,[],[]⟩
def a3f (T:List UInt8):Bool:=beqBytes T [101,108,115,101]
def isEn (T:List UInt8):Bool:=beqBytes T [101,110,100]
def blkB (op:Nat):Bool:=decide (op=2)||(decide (op=3)||decide (op=4))
def a2b (fold:List (List UInt8)->Nd->Ps)(F:Nat->List (Value×Value))(l:List Nd):Nat->Nat->List Bk->List (List UInt8)->List AI->Ps
 |0,_,_,_,_=>.er 0 1|k+1,i,bs,L,T=>match l[i]? with
  |none=>match bs with|[]=>.ok T|b::_=>.er b.p 3
  |some n=>bcase (decide (n.k=0)) (match fold L n with|.ok T1=>a2b fold F l k (i+1) bs L (T++T1)|.er p e=>.er p e) (bcase (decide (n.k=2)) (bcase (a3f n.t||isEn n.t) (match bs with|[]=>.er n.p 16|b::bs'=>bcase (a3f n.t) (bcase (decide (b.op=4)&& !b.el) (a2b fold F l k (i+1) (⟨b.p,b.op,true⟩::bs') L (T++[aiE 5])) (.er n.p 16)) (a2b fold F l k (i+1) bs' L.dropLast (T++[aiE 11]))) (match a1N F L l i n with|.er p e=>.er p e|.ok X nm nx=>bcase (blkB X.op) (a2b fold F l k nx (⟨n.p,X.op,false⟩::bs) (L++[nm]) (T++[X])) (a2b fold F l k nx bs L (T++[X])))) (.er n.p 4))
def a1x (fold:List (List UInt8)->Nd->Ps)(F:Nat->List (Value×Value))(L:List (List UInt8))(l:List Nd):Ps:=a2b fold F l (l.length+1) 0 [] L []
def a3r (fold:Nd->Ps):List Nd->List AI->Ps|[],T=>.ok T|y::ys,T=>bcase (decide (y.k=0)) (match fold y with|.ok T1=>a3r fold ys (T++T1)|.er p e=>.er p e) (.er y.p 4)
def b2a (row:List Nd->Ps)(T:List AI):List Nd->Ps|[]=>.ok (T++[aiE 11])|z::zs=>bcase (Z4 z.k (a0f z.l) [101,108,115,101]) (match row z.l.tail with|.ok T2=>(match zs with|[]=>.ok (T++[aiE 5]++T2++[aiE 11])|u::_=>.er u.p 4)|.er p e=>.er p e) (.er z.p 4)
def ifS (fold:Nd->Ps)(row:List Nd->Ps)(q:Nat)(X:AI):List Nd->List AI->Ps|[],_=>.er q 4|y::ys,T=>bcase (Z4 y.k (a0f y.l) [116,104,101,110]) (match row y.l.tail with|.ok T1=>b2a row (T++[X]++T1) ys|.er p e=>.er p e) (bcase (decide (y.k=0)) (match fold y with|.ok T1=>ifS fold row q X ys (T++T1)|.er p e=>.er p e) (.er y.p 4))
def a9n (row:List Nd->Ps)(X:AI)(l:List Nd):Ps:=match row l with|.ok T=>.ok ([X]++T++[aiE 11])|.er p e=>.er p e
def b2v (fold:Nd->Ps)(X:AI)(l:List Nd):Ps:=match a3r fold l []with|.ok T=>.ok (T++[X])|.er p e=>.er p e
def I8 (F:Nat->List (Value×Value)):Nat->List (List UInt8)->Nd->Ps|0,_,_=>.er 0 1|n+1,L,x=>match x.l with|[]=>.er x.p 4|w::_=>bcase (decide (w.k=2)) (bcase (a3f w.t||isEn w.t) (.er w.p 16) (match a1N F L x.l 0 w with|.er p e=>.er p e|.ok X nm nx=>bcase (decide (X.op=2)||decide (X.op=3)) (a9n (a1x (I8 F n) F (L++[nm])) X (x.l.drop nx)) (bcase (decide (X.op=4)) (ifS (I8 F n L) (a1x (I8 F n) F (L++[nm])) w.p X (x.l.drop nx) []) (b2v (I8 F n L) X (x.l.drop nx))))) (.er x.p 4)
def Nd.z:Nd->Nat:=Nd.rec (motive_1:=λ_=>Nat) (motive_2:=λ_=>Nat) (λ_ _ _ _ n=>4+n) 0 (λ_ _ a b=>a+b)
def zs:List Nd->Nat|[]=>0|x::l=>x.z+zs l
theorem a3X (x:Nd):x.z=4+zs x.l:=by obtain⟨k,p,t,l⟩:=x;show 4+Nd.rec_1 (motive_1:=λ_=>Nat) (motive_2:=λ_=>Nat) (λ_ _ _ _ n=>4+n) 0 (λ_ _ a b=>a+b) l=4+zs l;congr 1;induction l with|nil=>rfl|cons y l ih=>show y.z+_=y.z+zs l;rw[ih]
theorem a4j {l:List Nd}{i x}(h:l[i]?=some x):zs (l.drop i)=x.z+zs (l.drop (i+1)):=by induction l generalizing i with|nil=>cases h|cons y l ih=>cases i with|zero=>cases h;rfl|succ i=>exact ih h
theorem c6t (l:List Nd):∀i j,i<=j->zs (l.drop j)<=zs (l.drop i):=by
 intro i j h;induction j with
  |zero=>have:i=0:=zy;simp_all|succ j ih=>
   rcases Nat.lt_or_eq_of_le h with h1|h1;have h2:=ih zy;cases e:l[j]? with|none=>have:=uX.1 e;have e2:l.drop (j+1)=[]:=vH zy;rw[e2];exact vY _|some x=>have:=a4j e;omega
   simp_all
theorem c7J {l:List Nd}{i j}(h:i<j)(hl:i<l.length):zs (l.drop j)+4<=zs (l.drop i):=by have h1:=a4j (wz hl);have h2:=c6t l (i+1) j h;have h3:=a3X l[i];omega
theorem b6a {l x}{i:Nat}(h:l[i]?=some x):x.z<=zs l:=by have h1:=a4j h;have h2:=c6t l 0 i (vY _);rw[ug]at h2;omega
theorem a8i (l i):zs (l.drop i)<=zs l:=by have h2:=c6t l 0 i (vY _);rwa[ug]at h2
section
attribute [local congr] q9 x8 A8 z8 D5 x9 D6 D8 D7
def rvE (op:Nat):RV:=⟨0,op,0,0,0,0,0,0,⟨none,0,0⟩,⟨none,0,0⟩,[]⟩
theorem riE (U h op):RIu U h (rvE op) (aiE op):=⟨⟨rfl,rfl,rfl,rfl,rfl,rfl,rfl⟩,⟨rfl,Or.inl rfl⟩,⟨rfl,Or.inl rfl⟩⟩
theorem Dp.oan' {G d}(H:Dp G d){i}(h:d.oa.own i):i<d.c:=by obtain⟨Rs,h1,_⟩:=H.oa;exact h1.own_lt h
theorem d2X {G d}(H:Dp G d){R X}(hR:RIu d.V d.h R X)(hS:d.S.length+1<900000000){c1 b h1 cs}(hc:d.c<=c1)(hh:∀i,i<d.c->h1.get i=d.h.get i)(b2:b<c1)(hb:h1.get b=some (.cells cs 0 false))(ht:A7 0 cs 9=some (a0Y R))(r w):l9 (go (a3G a6j (.slice d.oa.a d.oa.n d.oa.e) (.slice (some ⟨b,0,some 0⟩) 1 9)) ⟨c1,h1,r,w⟩) λy s=>∃u',y=.slice u'.a u'.n u'.e/\c1<=s.c/\(∀i,i<d.c->¬d.oa.own i->s.h.get i=d.h.get i)/\(∀i,d.c<=i->i<c1->s.h.get i=h1.get i)/\(∀i∈s.w,i∈w\/d.oa.own i\/d.c<=i)/\∀h2,(∀i,i≠G.ap->h2.get i=s.h.get i)->h2.get G.ap=some (.cells (H7 G.sv G.fo ⟨u',d.lb,d.p,d.e⟩) 0 false)->Dp G {d with c:=s.c,h:=h2,oa:=u',S:=d.S++[X]}/\Stp G d {d with c:=s.c,h:=h2,oa:=u',S:=d.S++[X]}:=by
 obtain⟨Rs,o1,o2⟩:=H.oa;have hoan:=H.oan;refine(a0M (x:=⟨some ⟨b,0,some 0⟩,1,9⟩) (xs:=a0Y R) c2C zq c2b (o1.mono hc λi k1 k2=>hh i k1) ⟨rfl,Or.inr ⟨b,0,0,_,0,false,rfl,rfl,b2,hb,?_⟩⟩ rfl ?_ r w).mono ?_;rw[Y7];exact ht;grind;rintro y s ⟨u',rfl,hn',hg,hc2,hs2,hown,hww⟩;have hs3:∀i,i<d.c->¬d.oa.own i->s.h.get i=d.h.get i:=λi k1 k2=>(hs2 i zy k2).trans (hh i k1);have hown':∀i,u'.own i->d.oa.own i\/d.c<=i:=λi k=>zu;refine⟨u',rfl,hc2,hs3,λi k1 k2=>hs2 i k2 λho=>by have:=H.oan' ho;omega,λi hi=>?_,λh2 q1 q2=>?_⟩;grind;have hp:=H.p;have hs:=H.s;have key:∀i,i<d.c->¬d.oa.own i->i≠G.ap->h2.get i=d.h.get i:=λi k1 k2 k3=>(q1 i k3).trans (hs3 i k1 k2);have U:PU G d {d with c:=s.c,h:=h2,oa:=u',S:=d.S++[X]}:=by refine⟨zu,λi k=>?_,λi k1 k2=>k2,λi k1 k2=>?_,λi k=>k,λi k=>Or.inl k⟩;obtain⟨k1,k2,k3,k4,k5⟩:=H.vf i k;simp_all;grind
 refine⟨H.go U q2 ?_ ?_ ?_ ?_ ?_ ?_,U.stp λi k=>key i k.1 k.2.2.2.2 k.2.1⟩;exact(key _ hs (λho=>(H.oo _ ho).2 rfl) λe=>H.ne e.symm).trans H.hs;exact H.la.mono zu λi k1 k2=>key i k1 (H.lo i k2).2.2 (H.lo i k2).1;intro i k;refine⟨(H.lo i k).1,(H.lo i k).2.1,λho=>?_⟩;rcases hown' i ho with k1|k1;exact(H.lo i k).2.2 k1;have:=H.la.own_lt k;omega;refine⟨Rs++[R],?_,?_⟩;rw[uZ,ui];exact hg.mono (xD _) λi k1 k2=>q1 i λe=>by subst e;rcases hown' _ k2 with k|k;exact(H.oo _ k).1 rfl;omega
 refine(o2.snoc hR).mono λi k=>⟨k,?_⟩;obtain⟨k1,k2,k3,k4,k5⟩:=H.vf i k;simp_all;intro i k;rcases hown' i k with k|k;exact H.oo i k;omega;have:=H.sm;simp_all
def a0q (b:Bk):List Value:=[.int .i64 (.ofNat b.p),.int .i64 (.ofNat b.op),.bool b.el]
theorem a7p {l m}(h:∀i,i∈l->i∉m):Y3 l m=true:=(a6z l m).2 h
def a3K (G:PG)(d:PD)(z:Nat)(ps:Ps)(x:Value)(s:V.S):Prop:=∃d',Nx G d s d'/\((∃T,ps=.ok T/\x=.bool true/\d'.L=d.L/\d'.lb=d.lb/\d'.S=d.S++T/\d'.p=d.p/\d'.e=d.e/\T.length<=z)\/(∃p e X,ps=.er p e/\x=.bool false/\d'.p=p/\d'.e=e/\d'.L=d.L++X/\d'.lb=d.lb+X.length))
def b2O (G:PG)(d:PD)(z:Nat)(ps:Ps)(x:CR)(s:V.S):Prop:=∃v,x=.ret v/\a3K G d z ps v s
def Sml (d:PD)(z:Nat):Prop:=d.S.length+z<800000000/\d.L.length+z<1600000/\d.lb+z<4000000000
def a2o (G:PG)(n K:Nat):Prop:=∀(d:PD) (x:Nd) (lv:Sl) (m:Nat) (r w:List Nat),Dp G d->x.z<=n->x.k=0->NdL (Frz G d) d.h lv x.l->Sml d x.z->l9 (go (o8 A9 (m+K) 71 [ndV x lv,.pointer (some ⟨G.pc,0,some 0⟩)]) ⟨d.c,d.h,r,w⟩) (b2O G d x.z (I8 G.F n d.L x))
theorem b3i (G:PG)(v k):c4Z G.fo [v] k=k 71 [v,.pointer (some ⟨G.pc,0,some 0⟩)]:=wm rfl rfl
theorem d0z {G d z ps x}(h:l9 x (b2O G d z ps)):l9 (R9 x M.pure λ_=>M.fail) (a3K G d z ps):=by refine l9.bindC h λx s hq=>?_;obtain⟨v,rfl,hq⟩:=hq;exact⟨v,s,rfl,hq⟩
theorem e4G (n a b):o8 A9 (n+1) 76 [a,b]=c6z o9 NN (o8 A9 n) a b:=a0Z (q:=c6z) (N:=NN) zw n a b
structure RI (G:PG) (d0 d:PD) (l:List Nd) (i:Nat) (bs:List Bk) (bl:Sl) (T:List AI):Prop where
 dp:Dp G d
 st:Stp G d0 d
 gb:R7 3 d.c d.h bl (bs.reverse.flatMap a0q)
 own:∀ j,bl.own j→d0.c≤j∧Frz G d j∧¬ d.V j
 S:d.S=d0.S ++ T
 L:∃ X,X.length=bs.length∧d.L=d0.L ++ X
 lb:d.lb=d0.lb+bs.length
 p:d.p=d0.p
 e:d.e=d0.e
 z1:T.length+zs (l.drop i)≤zs l
 z2:bs.length+zs (l.drop i)≤zs l
theorem a2W:∀bs:List Bk,(bs.flatMap a0q).length=bs.length*3:=yJ
theorem RI.bln {G d0 d l i bs bl T}(H:RI G d0 d l i bs bl T):bl.n=bs.length:=by have:=H.gb.1;rw[a2W,vo]at this;omega
theorem RI.to {G d0 d l i bs bl T}(H:RI G d0 d l i bs bl T){c' h'}(hc:d.c<=c')(hs:∀j,j<d.c->h'.get j=d.h.get j):RI G d0 {d with c:=c',h:=h'} l i bs bl T:=⟨H.dp.wr (O:=λ_=>False) (λ_ h=>h.elim) hc λj k _=>hs j k,H.st.wr hc λj k=>hs j (wY k H.st.le),H.gb.mono hc λb k _=>hs b k,λj k=>⟨(H.own j k).1,⟨wY (H.own j k).2.1.1 hc,(H.own j k).2.1.2⟩,(H.own j k).2.2⟩,H.S,H.L,H.lb,H.p,H.e,H.z1,H.z2⟩
theorem RI.step {G d0 d d' l i i' bs bl T T1}(H:RI G d0 d l i bs bl T)(D:Dp G d')(st:Stp G d d')(hL:d'.L=d.L)(hb:d'.lb=d.lb)(hS:d'.S=d.S++T1)(hp:d'.p=d.p)(he:d'.e=d.e)(hz:T1.length+zs (l.drop i')<=zs (l.drop i)):RI G d0 d' l i' bs bl (T++T1):=by refine⟨D,H.st.trans st,H.gb.mono st.le λb k1 k2=>(st.fz b (H.own b k2).2.1).2,λj k=>⟨(H.own j k).1,(st.fz j (H.own j k).2.1).1,λhv=>?_⟩,?_,?_,hb.trans H.lb,hp.trans H.p,he.trans H.e,?_,?_⟩;rcases st.vn j hv with k1|k1;exact(H.own j k).2.2 k1;have:=(H.own j k).2.1.1;omega;rw[hS,H.S,vT];rw[hL];exact H.L;have:=H.z1;rw[wW];omega;have:=H.z2;omega
theorem RI.sml {G d0 d l i bs bl T}(H:RI G d0 d l i bs bl T)(hs:Sml d0 (zs l)):Sml d (zs (l.drop i)):=by obtain⟨s1,s2,s3⟩:=hs;obtain⟨X,hX,hL⟩:=H.L;have h1:=H.z1;have h2:=H.z2;have h3:=H.lb;refine⟨?_,?_,?_⟩;rw[H.S,wW];omega;rw[hL,wW];omega;omega
theorem Sml.le {d z z'}(h:Sml d z)(hz:z'<=z):Sml d z':=by obtain⟨s1,s2,s3⟩:=h;exact⟨zy,zy,zy⟩
theorem RI.er {G d0 d d' l i bs bl T}(H:RI G d0 d l i bs bl T){s p e z X}(N:Nx G d s d')(hp:d'.p=p)(he:d'.e=e)(hL:d'.L=d.L++X)(hb:d'.lb=d.lb+X.length):a3K G d0 z (.er p e) (.bool false) s:=by obtain⟨Y,hY,hL0⟩:=H.L;refine⟨d',⟨N.c,N.h,N.dp,H.st.trans N.st⟩,Or.inr ⟨p,e,Y++X,rfl,rfl,hp,he,?_,?_⟩⟩;rw[hL,hL0,vT];rw[hb,H.lb,wW,hY];omega
def a8K (G:PG)(d0 d:PD)(n:Nat)(l:List Nd)(i:Nat)(bs:List Bk)(bl:Sl)(T:List AI)(y:Xc×List Value)(s:V.S):Prop:=(∃xs' d' i' bs' bl' T',y=(.normal,xs')/\s.c=d'.c/\s.h=d'.h/\i<i'/\C8 xs' 148=.int .i64 (.ofNat i')/\C8 xs' 143=.slice bl'.a bl'.n bl'.e/\C8 xs' 111=.bool false/\RI G d0 d' l i' bs' bl' T'/\∀k,a2b (I8 G.F n) G.F l (k+1) i bs d.L T=a2b (I8 G.F n) G.F l k i' bs' d'.L T')\/(∃xs' ps,y=(.ret,xs')/\(∀k,a2b (I8 G.F n) G.F l (k+1) i bs d.L T=ps)/\a3K G d0 (zs l) ps (C8 xs' 111) s)
section
variable {G:PG}{d0 d:PD}{n K:Nat}{lv:Sl}{l:List Nd}{i:Nat}{bs:List Bk}{bl:Sl}{T:List AI}{x:Nd}{xs:List Value}
theorem d3l (hF:a2o G n K)(H:RI G d0 d l i bs bl T)(hn:NdL (Frz G d0) d0.h lv l)(hz:zs l<=n)(hs:Sml d0 (zs l))(hi:l[i]?=some x)(hk:x.k=0)(h1:C8 xs 148=.int .i64 (.ofNat i))(h2:C8 xs 143=.slice bl.a bl.n bl.e)(h3:C8 xs 111=.bool false)(m)(r w):l9 (go (a5x o9 NN (o8 A9 (m+K)) (.slice lv.a lv.n lv.e) (.pointer (some ⟨G.ap,0,some 0⟩)) xs) ⟨d.c,d.h,r,w⟩) (a8K G d0 d n l i bs bl T):=by
 have hN:=hn.mono H.st.fz;have hp:=H.dp.hp;have a1:=H.dp.p;have a2:G.ap≠d.c:=zy;have hlen:=hn.len.1;obtain⟨la,ln,le⟩:=lv;simp only at hlen;subst hlen;have hll:=hn.len.2;have hlt:i<l.length:=(xC.1 hi).1;have hinc:=G9 i zy;obtain⟨b,p,g,cs,cur,ro,nl,hb,hg,hNn,hT,e1,e2,e3,e4,e5,e6⟩:=hN.get hi;have hb1:=hb.1;have hb2:b≠d.c:=zy;simp only at e1;have e0:decide (Int.ofNat i<Int.ofNat l.length)=true:=ww (vv.2 hlt);simp(disch:=try exact dz)only[b0W,G76,h1,h2,h3,e1,e2,hg,e0,hk,hp,H7,b3i,↓gP,gY,gT];have H1:=H.to (c':=d.c+1) (h':=V.upd (V.upd d.h d.c (.cells [(.int .i64 (.ofNat 0),0),(.int .i64 (.ofNat 0),0),(.string ⟨⟨[]⟩⟩,0),(.slice none 0 0,0)] 0 false)) d.c (.cells [(.int .i64 (.ofNat 0),0),(.int .i64 (.ofNat x.p),0),(.string ⟨⟨x.t⟩⟩,0),(.slice nl.a nl.n nl.e,0)] 0 false)) (wZ _) λj k=>by have k1:j≠d.c:=zy;grind[d9]
 have hzi:=a4j hi;have hcall:=hF _ x nl m [] [] H1.dp (wL (b6a hi) hz) hk (hNn.mono λj k=>⟨⟨sZ k.1,k.2⟩,by have k1:=k.1;have k2:j≠d.c:=zy;grind[d9]⟩) ((H1.sml hs).le zy);unfold ndV at hcall;rw[hk]at hcall;refine l9.footS (d0z hcall) λa s hq=>?_;obtain⟨c',h',r',w'⟩:=s;obtain⟨d',N,⟨T1,eS,rfl,hL,hb2,hS,hp2,he2,hz2⟩|⟨p2,e2,X,eS,rfl,hp2,he2,hL,hb2⟩⟩:=hq;simp(disch:=try exact dz)only[hinc,↓gP,gY,gT];refine l9.done ?_;exact Or.inl ⟨_,d',i+1,bs,bl,T++T1,rfl,N.c,N.h,wu i,rfl,rfl,rfl,H1.step N.dp N.st hL hb2 hS hp2 he2 zy,λk=>by show(match l[i]? with|none=>_|some n=>_)=_;rw[hi];grind[G6]⟩;simp(disch:=try exact dz)only[hinc,↓gP,gY,gT];refine l9.done ?_;exact Or.inr ⟨_,_,rfl,λk=>by show(match l[i]? with|none=>_|some n=>_)=_;rw[hi];grind[G6],H1.er ⟨N.c,N.h,N.dp,N.st⟩ hp2 he2 hL hb2⟩
end
theorem di (a b):decide (Int.ofNat a=Int.ofNat b)=decide (a=b):=sN.2 ⟨λh=>Int.ofNat.inj h,λh=>by rw[h]⟩
theorem b0x:beqBytes [101,108,115,101] [101,108,115,101]=true:=wm rfl rfl
theorem b5L:beqBytes [101,108,115,101] [101,110,100]=false:=wm rfl rfl
theorem b9u:beqBytes [101,110,100] [101,108,115,101]=false:=wm rfl rfl
theorem c0h:beqBytes [101,110,100] [101,110,100]=true:=wm rfl rfl
theorem e0h:decide (N8 .i64 (Int.ofNat 0-Int.ofNat 1)<Int.ofNat 0)=true:=wm rfl rfl
theorem RI.fail {G d0 d l i bs bl T}(H:RI G d0 d l i bs bl T){c' p e z h' r w}(hc:d.c<=c')(hs:∀j,j<d.c->j≠G.ap->h'.get j=d.h.get j)(hp:h'.get G.ap=some (.cells (H7 G.sv G.fo ⟨d.oa,d.lb,p,e⟩) 0 false)):a3K G d0 z (.er p e) (.bool false) ⟨c',h',r,w⟩:=by obtain⟨D,S⟩:=H.dp.rd hc hs hp;exact H.er (X:=[]) ⟨rfl,rfl,D,S⟩ rfl rfl (wR _).symm rfl
section
variable {G:PG}{d0 d:PD}{n K:Nat}{lv:Sl}{l:List Nd}{i:Nat}{bs:List Bk}{bl:Sl}{T:List AI}{x:Nd}{xs:List Value}
theorem d1H (H:RI G d0 d l i bs bl T)(hn:NdL (Frz G d0) d0.h lv l)(hz:zs l<=n)(hs:Sml d0 (zs l))(hi:l[i]?=some x)(hk0:x.k≠0)(hk2:x.k≠2)(h1:C8 xs 148=.int .i64 (.ofNat i))(h2:C8 xs 143=.slice bl.a bl.n bl.e)(h3:C8 xs 111=.bool false)(m)(r w):l9 (go (a5x o9 NN (o8 A9 (m+K+12)) (.slice lv.a lv.n lv.e) (.pointer (some ⟨G.ap,0,some 0⟩)) xs) ⟨d.c,d.h,r,w⟩) (a8K G d0 d n l i bs bl T):=by have hN:=hn.mono H.st.fz;have hp:=H.dp.hp;have a1:=H.dp.p;have a2:G.ap≠d.c:=zy;have hlen:=hn.len.1;obtain⟨la,ln,le⟩:=lv;simp only at hlen;subst hlen;have hll:=hn.len.2;have hlt:i<l.length:=(xC.1 hi).1;have hinc:=G9 i zy;obtain⟨b,p,g,cs,cur,ro,nl,hb,hg,hNn,hT,e1,e2,e3,e4,e5,e6⟩:=hN.get hi;have hb1:=hb.1;have hb2:b≠d.c:=zy;simp only at e1;have e0:decide (Int.ofNat i<Int.ofNat l.length)=true:=ww (vv.2 hlt);have q0:decide (x.k=0)=false:=wy hk0;have q2:decide (x.k=2)=false:=wy hk2;simp(disch:=try exact dz)only[b0W,G76,h1,h2,h3,e1,e2,hg,e0,hp,H7,di,q0,q2,X5,G72,↓gP,gY,gT];refine l9.done ?_;refine Or.inr ⟨_,.er x.p 4,rfl,λk=>by show(match l[i]? with|none=>_|some n=>_)=_;rw[hi];grind[G5],H.fail zy (λj k1 k2=>?_) ?_⟩;have k3:j≠d.c:=zy;grind[d9];exact o7 _ _ _
theorem b9m (H:RI G d0 d l i bs bl T)(hn:NdL (Frz G d0) d0.h lv l)(hz:zs l<=n)(hs:Sml d0 (zs l))(hi:l[i]?=some x)(hk:x.k=2)(ht:x.t=[101,108,115,101])(hb0:bs=[])(h1:C8 xs 148=.int .i64 (.ofNat i))(h2:C8 xs 143=.slice bl.a bl.n bl.e)(h3:C8 xs 111=.bool false)(m)(r w):l9 (go (a5x o9 NN (o8 A9 (m+K+12)) (.slice lv.a lv.n lv.e) (.pointer (some ⟨G.ap,0,some 0⟩)) xs) ⟨d.c,d.h,r,w⟩) (a8K G d0 d n l i bs bl T):=by have hN:=hn.mono H.st.fz;have hp:=H.dp.hp;have a1:=H.dp.p;have a2:G.ap≠d.c:=zy;have hlen:=hn.len.1;obtain⟨la,ln,le⟩:=lv;simp only at hlen;subst hlen;have hll:=hn.len.2;have hlt:i<l.length:=(xC.1 hi).1;have hinc:=G9 i zy;obtain⟨b,p,g,cs,cur,ro,nl,hb,hg,hNn,hT,e1,e2,e3,e4,e5,e6⟩:=hN.get hi;have hb1:=hb.1;have hb2:b≠d.c:=zy;simp only at e1;have e0:decide (Int.ofNat i<Int.ofNat l.length)=true:=ww (vv.2 hlt);subst hb0;have hbl:bl=⟨none,0,0⟩\/bl.n=0:=Or.inr H.bln;have hbn:bl.n=0:=H.bln;simp(disch:=try exact dz)only[b0W,G76,h1,h2,h3,e1,e2,hg,e0,hp,H7,di,hk,ht,hbn,X5,G72,b0x,e0h,↓gP,gY,gT,Nat.reduceEqDiff];refine l9.done ?_;refine Or.inr ⟨_,.er x.p 16,rfl,λk=>by show(match l[i]? with|none=>_|some n=>_)=_;rw[hi];simp only[hk,ht,G5,G6,Nat.reduceEqDiff,vD,uh,a3f,isEn,b0x,b5L,vP],H.fail zy (λj k1 k2=>?_) ?_⟩;have k3:j≠d.c:=zy;grind[d9];exact o7 _ _ _
theorem c1M (H:RI G d0 d l i bs bl T)(hn:NdL (Frz G d0) d0.h lv l)(hz:zs l<=n)(hs:Sml d0 (zs l))(hi:l[i]?=some x)(hk:x.k=2)(ht:x.t=[101,110,100])(hb0:bs=[])(h1:C8 xs 148=.int .i64 (.ofNat i))(h2:C8 xs 143=.slice bl.a bl.n bl.e)(h3:C8 xs 111=.bool false)(m)(r w):l9 (go (a5x o9 NN (o8 A9 (m+K+12)) (.slice lv.a lv.n lv.e) (.pointer (some ⟨G.ap,0,some 0⟩)) xs) ⟨d.c,d.h,r,w⟩) (a8K G d0 d n l i bs bl T):=by have hN:=hn.mono H.st.fz;have hp:=H.dp.hp;have a1:=H.dp.p;have a2:G.ap≠d.c:=zy;have hlen:=hn.len.1;obtain⟨la,ln,le⟩:=lv;simp only at hlen;subst hlen;have hll:=hn.len.2;have hlt:i<l.length:=(xC.1 hi).1;have hinc:=G9 i zy;obtain⟨b,p,g,cs,cur,ro,nl,hb,hg,hNn,hT,e1,e2,e3,e4,e5,e6⟩:=hN.get hi;have hb1:=hb.1;have hb2:b≠d.c:=zy;simp only at e1;have e0:decide (Int.ofNat i<Int.ofNat l.length)=true:=ww (vv.2 hlt);subst hb0;have hbl:bl=⟨none,0,0⟩\/bl.n=0:=Or.inr H.bln;have hbn:bl.n=0:=H.bln;simp(disch:=try exact dz)only[b0W,G76,h1,h2,h3,e1,e2,hg,e0,hp,H7,di,hk,ht,hbn,X5,G72,b9u,c0h,e0h,↓gP,gY,gT,Nat.reduceEqDiff];refine l9.done ?_;refine Or.inr ⟨_,.er x.p 16,rfl,λk=>by show(match l[i]? with|none=>_|some n=>_)=_;rw[hi];simp only[hk,ht,G5,G6,Nat.reduceEqDiff,vD,uh,a3f,isEn,b9u,c0h,qB],H.fail zy (λj k1 k2=>?_) ?_⟩;have k3:j≠d.c:=zy;grind[d9];exact o7 _ _ _
end
end
end Go.Proofs.YtmomonnlmbljoaaGreatDoor
