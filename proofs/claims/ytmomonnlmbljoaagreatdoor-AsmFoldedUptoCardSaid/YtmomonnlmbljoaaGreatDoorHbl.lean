/- AsmFolded: for every instruction and every list of instructions the law returns true: the row (upto), and its tied card. Conditions: those of the given row alone (the listed package variables hold what the program's text lays; at most so much data as the row allows). The folder's other texts: an evaluator of the model's code, proved sound; the functions' plain forms; their contracts; the reading back of printed text. Made short by a program (names, blanks). -/
import Derived.Test.YtmomonnlmbljoaaGreatDoorTie
import Derived.Test.YtmomonnlmbljoaaGreatDoorCards
import Derived.Test.YtmomonnlmbljoaaGreatDoorHay
import Derived.Test.YtmomonnlmbljoaaGreatDoorHaz
import Derived.Test.YtmomonnlmbljoaaGreatDoorHbk
set_option maxRecDepth 1000000
set_option maxHeartbeats 4000000
set_option linter.unusedVariables false
set_option linter.unusedSimpArgs false
section
namespace Go.Proofs.YtmomonnlmbljoaaGreatDoor
open Go.V Go.RowKit Go.Shelf Go.Proofs
variable {mL:Int}
attribute [local congr] m0 l9 n8 n9 q9 m8 s9 A1 A0
structure FI (c1 b:Nat) (h1:Trie VObj) (Zs:List S.IR) (i c:Nat) (h:Trie VObj) (u:Sl) (Ws:List S.IR) (ps:List (AI×List It)):Prop where
 cc:c1≤c
 hh:∀ i,i<c1→i≠b→h.get i=h1.get i
 g:K9 9 c h u (Ws.flatMap S.a2M)
 o:∀ i,u.own i→i=b∨c1≤i
 m:∀ x∈Ws,x∈Zs
 e:Ws.map (·.1)=ps.reverse.map fun p=>a1g p.1
 f:∀ p∈ps,Fd p
 t:j9 (Y1 ps)≤270 * i
 l:ps.length≤i
theorem FI.skip {c1 b h1 Zs i c h u Ws ps}(H:FI c1 b h1 Zs i c h u Ws ps):FI c1 b h1 Zs (i+1) c h u Ws ps:=⟨H.cc,H.hh,H.g,H.o,H.m,H.e,H.f,by have:=H.t;omega,by have:=H.l;omega⟩
theorem d5H {X}(hp:S.a1o X=true)(hN:X.N<18446744073709551616):S.b6U X=some (.string ⟨⟨S.W8 X⟩⟩):=by unfold S.b6U;rw[hp,A5 hN];rfl
theorem d9T {z}(h:B3 z=true)(h1:w6 z=1):z=.ofNat 2\/z=.ofNat 3\/z=.ofNat 4:=by
 have hall:A9 (λr:a1U=>!(Nat.beq r.2.2 1)||(Nat.beq r.1 2||(Nat.beq r.1 3||Nat.beq r.1 4))) D8=true:=zw;unfold B3 at h;cases e:G7 z D8 with
  |none=>rw[e]at h;cases h|some r=>
   obtain⟨q1,q2⟩:=a1w _ _ _ e;have h3:=(C9 _ _).1 hall r q1;have e1:w6 z=r.2.2:=by unfold w6;rw[e]
   rw[e1]at h1;rw[h1]at h3;simp only[uL]at h3;rcases h3 with k|k|k|k;cases k;rw[q2,xS k];exact Or.inl rfl;rw[q2,xS k];exact Or.inr (Or.inl rfl);rw[q2,xS k];exact Or.inr (Or.inr rfl)
theorem n5 {c1 b h1 v Zs z0 z1 z2 z3 z4 z5}(hL:LO c1 b h1 v Zs)(hf:S.c4l Zs=true)(hN:∀x∈Zs,x.1.N<18446744073709551616)(M):∀(k e i c) (h) (u) (Ws) (ps) (xs) (r w),Zs.length=i+k->FI c1 b h1 Zs i c h u Ws ps->r6 xs 57=.int .i64 (.ofNat i)->r6 xs 46=.string ⟨⟨Y1 ps⟩⟩->r6 xs 54=.slice u.a u.n u.e->d8 (go (I9 (d1H i7 NN (j0 r7 (M+1)) [z0,z1,z2,z3,z4,z5,v]) (k+1+e) xs) ⟨c,h,r,w⟩) λy s=>∃xs' u Ws ps,y=(.exit 0,xs')/\r6 xs' 46=.string ⟨⟨Y1 ps⟩⟩/\r6 xs' 54=.slice u.a u.n u.e/\FI c1 b h1 Zs Zs.length s.c s.h u Ws ps:=by
 obtain⟨hz,hsm⟩:=S.e6r hf;intro k;induction k with
  |zero=>intro e i c h u Ws ps xs r w hk H h1' h2 h3;rw[wm 0 1 e,N7];have hI:=hL c h H.cc H.hh;have hlen:=hI.len;have e0:decide (i<Zs.length)=false:=xO zy;simp(disch:=try exact dz)only[GL5,h1',dL,e0,hlen,↓gP,gY];obtain rfl:i=Zs.length:=zy;exact d8.done ⟨_,u,Ws,ps,rfl,h2,h3,H⟩|succ k ih=>
   intro e i c h u Ws ps xs r w hk H h1' h2 h3;rw[wm (k+1) 1 e,N7];have hI:=hL c h H.cc H.hh;have hlen:=hI.len;have hlt:i<Zs.length:=zy;obtain⟨z,hzi⟩:∃z,Zs[i]?=some z:=⟨_,xP hlt⟩;have hmem:=we hzi;obtain⟨X,tv,lv⟩:=z;obtain⟨b1,p1,p0,_,_,v1,v2,v3,_,_,v4,v5,_⟩:=hI.read (xR _) (λ_ _=>rfl) hzi;have e0:decide (i<Zs.length)=true:=xL hlt;have hinc:=B8 i zy;simp only at v4 v5;obtain⟨s1,s2⟩:=hsm _ hmem;have hat:S.InsAt c h X (S.o8 X tv lv):=⟨⟨tv,lv,rfl,(hI.each _ hmem).1,(hI.each _ hmem).2⟩,by simp only at s2;omega,by simp only at s1;omega⟩;obtain⟨zz,hzz⟩:=S.d6J (q:=λX=>some (.bool (S.a1o X))) hat (xR _) (λ_ _=>rfl) rfl;have hcall19:∀r w,go (j0 r7 (M+1) 19 [S.o8 X tv lv]) ⟨c,h,r,w⟩=some (.ret (.bool (S.a1o X)),⟨c,h,zz r,w⟩):=λr w=>S.d1a zw M (hzz r w);cases hp:S.a1o X with
    |false=>rw[hp]at hcall19;simp(disch:=try exact dz)only[GL5,h1',dL,e0,hlen,v2,v3,v4,v5,hcall19,hinc,↓gP,gY,gT];refine ih e (i+1) c h u Ws ps _ _ _ zy H.skip ?_ h2 h3;rfl|true=>
     rw[hp]at hcall19;obtain⟨z2,hz2⟩:=S.d6J (q:=S.b6U) hat (xR _) (λ_ _=>rfl) (d5H hp (hN _ hmem));have hcall12:∀r w,go (j0 r7 (M+1) 12 [S.o8 X tv lv]) ⟨c,h,r,w⟩=some (.ret (.string ⟨⟨S.W8 X⟩⟩),⟨c,h,z2 r,w⟩):=λr w=>S.d1a zw M (hz2 r w);simp(disch:=try exact dz)only[GL5,h1',dL,e0,hlen,v2,v3,v4,v5,hcall19,hinc,↓gP,gY,gT];cases hop:(decide (X.op=Int.ofNat 2)||decide (X.op=Int.ofNat 3)||decide (X.op=Int.ofNat 4)||decide (X.op=Int.ofNat 5)||decide (X.op=Int.ofNat 11))with
      |true=>simp(disch:=try exact dz)only[N8,↓gP,gY];refine ih e (i+1) c h u Ws ps _ _ _ zy H.skip ?_ h2 h3;rfl|false=>
       have hln:=S.e6e X hp (hN _ hmem) s1;have hft:=H.t;have ha1:∀t x y,R9 Tryz.prog tab .add t x y (.string ⟨⟨[40]⟩⟩) (.string ⟨⟨S.W8 X⟩⟩)=Go.V.M.pure (.string ⟨⟨m9 [40] (S.W8 X)⟩⟩):=λt x y=>X9 _ _ t x y ⟨⟨[40]⟩⟩ ⟨⟨S.W8 X⟩⟩ (by show 1+j9 (S.W8 X)<_;omega);have l1:j9 (m9 [40] (S.W8 X))=1+j9 (S.W8 X):=by rw[P1];rfl
       have ha2:∀t x y,R9 Tryz.prog tab .add t x y (.string ⟨⟨m9 [40] (S.W8 X)⟩⟩) (.string ⟨⟨[32]⟩⟩)=Go.V.M.pure (.string ⟨⟨m9 (m9 [40] (S.W8 X)) [32]⟩⟩):=λt x y=>X9 _ _ t x y ⟨⟨m9 [40] (S.W8 X)⟩⟩ ⟨⟨[32]⟩⟩ (by show j9 (m9 [40] (S.W8 X))+1<_;omega);have l2:j9 (m9 (m9 [40] (S.W8 X)) [32])=2+j9 (S.W8 X):=by rw[P1,l1];show 1+_+1=_;omega
       have ha3:∀t x y,R9 Tryz.prog tab .add t x y (.string ⟨⟨m9 (m9 [40] (S.W8 X)) [32]⟩⟩) (.string ⟨⟨Y1 ps⟩⟩)=Go.V.M.pure (.string ⟨⟨m9 (m9 (m9 [40] (S.W8 X)) [32]) (Y1 ps)⟩⟩):=λt x y=>X9 _ _ t x y ⟨⟨m9 (m9 [40] (S.W8 X)) [32]⟩⟩ ⟨⟨Y1 ps⟩⟩ (by show j9 (m9 (m9 [40] (S.W8 X)) [32])+j9 (Y1 ps)<_;omega);have l3:j9 (m9 (m9 (m9 [40] (S.W8 X)) [32]) (Y1 ps))=2+j9 (S.W8 X)+j9 (Y1 ps):=by rw[P1,l2]
       have ha4:∀t x y,R9 Tryz.prog tab .add t x y (.string ⟨⟨m9 (m9 (m9 [40] (S.W8 X)) [32]) (Y1 ps)⟩⟩) (.string ⟨⟨[41]⟩⟩)=Go.V.M.pure (.string ⟨⟨m9 (m9 (m9 (m9 [40] (S.W8 X)) [32]) (Y1 ps)) [41]⟩⟩):=λt x y=>X9 _ _ t x y ⟨⟨m9 (m9 (m9 [40] (S.W8 X)) [32]) (Y1 ps)⟩⟩ ⟨⟨[41]⟩⟩ (by show j9 (m9 (m9 (m9 [40] (S.W8 X)) [32]) (Y1 ps))+1<_;omega);have l4:j9 (m9 (m9 (m9 (m9 [40] (S.W8 X)) [32]) (Y1 ps)) [41])=3+j9 (S.W8 X)+j9 (Y1 ps):=by rw[P1,l3];show 2+_+_+1=_;omega
       simp only[vE,wu]at hop;obtain⟨⟨⟨⟨o2,o3⟩,o4⟩,o5⟩,o11⟩:=hop;have hk:B3 X.op=true:=by have hp':=hp;unfold S.a1o at hp';cases hk:B3 X.op with|false=>rw[hk]at hp';cases hp'|true=>rfl
       obtain⟨Y,its,y1,y2,y3,y4⟩:=d4R hp (hN _ hmem) (λh6=>by rcases d9T hk h6 with k|k|k;exact o2 k;exact o3 k;exact o4 k);have hYop:X.op=.ofNat Y.op:=by rw[y4];rfl
       have hFd:Fd (Y,its):=⟨y1,y2,λk=>o5 (by rw[hYop];exact xC Int.ofNat k),λk=>o11 (by rw[hYop];exact xC Int.ofNat k)⟩;have hT:Y1 ((Y,its)::ps)=m9 (m9 (m9 (m9 [40] (S.W8 X)) [32]) (Y1 ps)) [41]:=by show 40::(U5 Y.op++(its.flatMap It.b++32::(Y1 ps++[41])))=_;rw[y3];simp[v8]
       have hX1:∀x∈[((X,tv,lv):S.IR)],Sv c h x:=λx hx=>by rw[wx]at hx;subst hx;exact hI.each _ hmem
       have h1c:A9 D5 (S.a2M (X,tv,lv))=true:=by have:=b4S [(X,tv,lv)] hX1;rwa[wW,uh,xJ]at this
       have hfill:a3a [(0,9)] [S.o8 X tv lv] [.int .i64 (.ofNat 0),.int .i64 (.ofNat 0),.int .i64 (.ofNat 0),.int .u64 (.ofNat 0),.int .i64 (.ofNat 0),.int .i64 (.ofNat 0),.int .i64 (.ofNat 0),.slice none 0 0,.slice none 0 0]=some (S.a2M (X,tv,lv)):=rfl;have hbuild:∀c h r w,go (a7O 9 1 [(0,9)] [S.o8 X tv lv] [.int .i64 (.ofNat 0),.int .i64 (.ofNat 0),.int .i64 (.ofNat 0),.int .u64 (.ofNat 0),.int .i64 (.ofNat 0),.int .i64 (.ofNat 0),.int .i64 (.ofNat 0),.slice none 0 0,.slice none 0 0]) ⟨c,h,r,w⟩=some (.slice (some ⟨c,0,some 0⟩) 1 9,⟨c+1,V.O2 h c (.cells (G4 (λv=>(v,0)) (S.a2M (X,tv,lv))) 0 false),r,c::w⟩):=λc h r w=>by rw[a4n,hfill,U8,h1c];rfl
       have htk:j8 0 (G4 (λv=>(v,0)) (S.a2M (X,tv,lv))) 9=some (S.a2M (X,tv,lv)):=rfl;have hcc:=H.cc;have hgn:=H.g.1;rw[b6T]at hgn;have hWl:Ws.length<=i:=by have:=xC List.length H.e;rw[xF,xF,wA]at this;have:=H.l;omega
       have ob:(decide (X.op=Int.ofNat 2)||decide (X.op=Int.ofNat 3)||decide (X.op=Int.ofNat 4)||decide (X.op=Int.ofNat 5)||decide (X.op=Int.ofNat 11))=false:=by rw[xO o2,xO o3,xO o4,xO o5,xO o11];rfl
       simp(disch:=try exact dz)only[h2,h3,hcall12,P6,v4,ha1,hbuild,↓gP,gY];refine d8.bindS (a0V (x:=⟨some ⟨c,0,some 0⟩,1,9⟩) (xs:=S.a2M (X,tv,lv)) a9v zv a9i (H.g.mono (c':=c+1) (wy _) λb hb _=>c9 (show b≠c fromλk=>wD _ (k▸hb))) ⟨rfl,Or.inr ⟨c,0,0,_,0,false,rfl,rfl,xG _,d9 _ _ _,yB⟩⟩ h1c zc _ _) λy s hq=>?_;obtain⟨c2,h2',r2,w2⟩:=s;obtain⟨u',rfl,un',ug,uc,us,uo,uw⟩:=hq;have uc:c+1<=c2:=uc;have us:∀i,i<c->¬u.own i->h2'.get i=h.get i:=λi hi ho=>(us i zy ho).trans (c9 zy);have uo:∀i,i<c+1->u'.own i->u.own i:=uo;simp(disch:=try exact dz)only[↓gP,gY];refine ih e (i+1) c2 h2' u' (Ws++[(X,tv,lv)]) ((Y,its)::ps) _ _ _ zy ⟨zy,λj k1 k2=>(us j zy λho=>?_).trans (H.hh j k1 k2),?_,λj ho=>?_,λx hx=>?_,?_,λp hp'=>?_,?_,?_⟩ ?_ ?_ ?_;have:=H.o j ho;omega;rw[vv,wW,uh,xJ];exact ug;rcases wK j (c+1)with k|k;exact H.o j (uo j k ho);exact Or.inr zy;rcases wU.1 hx with k|k;exact H.m x k;rw[wx]at k;subst k;exact hmem;rw[wJ,uI,wJ,H.e,y4];rfl;rcases wG.1 hp' with rfl|k;exact hFd;exact H.f p k;rw[hT,l4];omega;rw[xH];have:=H.l;omega;rfl;rw[hT];rfl;rfl
theorem c6D {U h v}{l:List Nat}{c}(H:SlU U h v (l.map iV))(hU:∀i,U i->i<c):C0 c h (.slice v.a v.n v.e) (S.A7 (l.map Int.ofNat)):=by
 have e:l.map iV=S.A7 (l.map Int.ofNat):=by unfold S.A7;rw[vG];rfl
 rw[e]at H;obtain⟨h1,h2⟩:=H;refine⟨v.a,v.e,by rw[h1],?_⟩;rcases h2 with h2|⟨b,o,g,cs,cur,ro,e1,e2,e3,e4,e5⟩;exact Or.inl h2;exact Or.inr ⟨b,o,g,cs,cur,ro,e1,e2,hU b e3,e4,e5⟩
theorem d5T {U h Rs Y c}(H:RIs U h Rs Y)(hU:∀i,U i->i<c):∃Cs:List S.IR,Cs.map (·.1)=Y.map a1g/\Rs.flatMap a0y=Cs.flatMap S.a2M/\∀x∈Cs,Sv c h x:=by induction H with|nil=>exact⟨[],rfl,rfl,λx hx=>by cases hx⟩| @cons R X Rs Y h1 h2 ih=>obtain⟨Cs,e1,e2,e3⟩:=ih;obtain⟨i,op,A,B,N,k,v,bi,ts,ls⟩:=R;obtain⟨⟨rfl,rfl,rfl,rfl,rfl,rfl,rfl⟩,h3,h4⟩:=h1;refine⟨(a1g X,.slice ts.a ts.n ts.e,.slice ls.a ls.n ls.e)::Cs,by rw[vh,vh,e1],by rw[wW,wW,e2];rfl,λx hx=>?_⟩;rcases wG.1 hx with rfl|k;exact⟨c6D h3 hU,c6D h4 hU⟩;exact e3 x k
theorem e4H {c1 b h1} (Zs) (hb:b<c1) (hg:h1.get b=some (.cells [] 0 false)):FI c1 b h1 Zs 0 c1 h1 ⟨some ⟨b, 0,some 0⟩, 0, 9⟩ [] [] where
 cc:=xR _
 hh:=fun _ _ _=>rfl
 g:=⟨rfl,Or.inr ⟨b, 0, [],rfl,rfl,hb,hg,xR _,rfl⟩⟩
 o:=fun i ho=>by
   obtain ⟨_,k,k2⟩:=ho
   cases k
   exact Or.inl k2.symm
 m:=fun x hx=>nomatch hx
 e:=rfl
 f:=fun p hp=>nomatch hp
 t:=xR _
 l:=xR _
theorem k14 {c1 b h1}{u:Sl}{Zs z0 z1 z2 z3 z4 z5}(hb:b<c1)(hg:h1.get b=some (.cells [] 0 false))(hL:LO c1 b h1 (.slice u.a u.n u.e) Zs)(hf:S.c4l Zs=true)(hN:∀x∈Zs,x.1.N<18446744073709551616)(M)(hM:300000<=M)(r w):d8 (go (K5 (j0 r7 (M+1)) [z0,z1,z2,z3,z4,z5,.slice u.a u.n u.e] (.slice (some ⟨b,0,some 0⟩) 0 9)) ⟨c1,h1,r,w⟩) λx s=>x=.ret (.bool true):=by
 obtain⟨hz,hsm⟩:=S.e6r hf;have hNN:90001<=NN:=zv;obtain⟨n1,hn1⟩:∃e,NN=Zs.length+1+e:=⟨NN-(Zs.length+1),zy⟩;have lp:=λxs r w e1 e2 e3=>n5 (z0:=z0) (z1:=z1) (z2:=z2) (z3:=z3) (z4:=z4) (z5:=z5) hL hf hN M Zs.length n1 0 c1 h1 ⟨some ⟨b,0,some 0⟩,0,9⟩ [] [] xs r w zy (e4H Zs hb hg) e1 e2 e3;rw[<-hn1]at lp;simp(disch:=try exact dz)only[gK5,↓gP,gY];refine d8.bindJ (lp _ _ _ rfl rfl rfl) λy xs' s hq=>?_;obtain⟨xs1,u1,Ws,ps,q1,q2,q3,H⟩:=hq;cases q1;obtain⟨c2,h2,r2,w2⟩:=s;have H:FI c1 b h1 Zs Zs.length c2 h2 u1 Ws ps:=H;obtain⟨M1,rfl⟩:∃k,M=k+1:=⟨M-1,zy⟩;simp(disch:=try exact dz)only[q2,q3,a1d,↓gP,gY];refine d8.bindC (t21 (c0:=c2) (h0:=h2) (M1+1) _ _) λx s hq=>?_;obtain⟨c3,h3,r3,w3⟩:=s;obtain⟨rfl,d1,d2,d3⟩:=hq;have d1:c2+1<c3:=d1;simp(disch:=try exact dz)only[↓gP,gY];have hTl:(Y1 ps).length<19000:=by have:=H.t;rw[y9]at this;omega
 have hpl:=H.l;refine d8.bindC (t20 d3 hTl (by show 0<100;decide) (M1+1) hM _ _) λx s hq=>?_;obtain⟨c4,h4,r4,w4⟩:=s;obtain⟨e1,e2,_,hor⟩:=hq;have e1:c3<=c4:=e1;have hsame:∀i,i<c2->h4.get i=h2.get i:=λi hi=>(e2 i ⟨zy,zy⟩).trans (d2 i hi);obtain⟨l,j,f1,f2⟩:=c4k ps H.f zy;have f3:=c8W (λ_=>[]) [] ps H.f l f2 (zs l) (xR _);rcases hor with⟨p,e,k1,_⟩|⟨l',j',k1,_,k2⟩;rw[f1]at k1;cases k1;rw[f1]at k1;cases k1;rcases k2 with⟨Y,u2,Rs,U',k3,rfl,k4,k5,k6,k7⟩|⟨p,e,k3,_⟩;rotate_left;rw[f3]at k3;cases k3;rw[f3]at k3;cases k3;obtain⟨Cs,m1,m2,m3⟩:=d5T k5 k6;rw[m2]at k4;have hI1:=a9k k4 m3;have hW:=a9k (H.g.mono (c':=c4) (h':=h4) zy λi k _=>hsame i k) λx hx=>((hL c2 h2 H.cc H.hh).each x (H.m x hx)).imp (λk=>k.mono zy hsame) λk=>k.mono zy hsame;have he:Cs.map (·.1)=Ws.map (·.1):=by rw[m1,H.e,vG];rfl
 have hCl:Cs.length=Ws.length:=xf;have hWl:Ws.length=ps.length:=by have:=xC List.length H.e;rwa[xF,xF,wA]at this
 have h22:=t22 hI1 hW he zy (λx hx=>by
  have h1:x.1∈Ws.map (·.1):=by rw[<-he];exact List.mem_map_of_mem hx
  obtain⟨y,hy,hxy⟩:=uy.1 h1;obtain⟨s1,s2⟩:=hsm y (H.m y hy);rw[<-hxy];exact⟨zy,zy⟩) M1;simp(disch:=try exact dz)only[↓gP,gY,gT];refine d8.bindC (h22 _ _) λx s hq=>?_;obtain⟨c5,h5,r5,w5⟩:=s;subst hq;simp(disch:=try exact dz)only[c5t,↓gP,gY];exact d8.done rfl
theorem c4m {c h v Xs x0}(H:S.InsL c h v Xs)(hx0:Sv c h x0)(hl:(Xs.length+1)*4<4294967296)(hN:∀x∈Xs++[x0],x.1.N<18446744073709551616)(M)(hM:300000<=M)(r w):d8 (go (j0 r7 (M+1+1) 5 [S.o8 x0.1 x0.2.1 x0.2.2,v]) ⟨c,h,r,w⟩) λx s=>x=.ret (.bool true):=t5 H hx0 hl (M+1) zy r w λc1 h1 b r w u z0 z1 z2 z3 z4 z5 hf _ hb hg _ hL=>k14 hb hg hL hf hN M hM r w
end Go.Proofs.YtmomonnlmbljoaaGreatDoor
end
section
namespace Go.Proofs.YtmomonnlmbljoaaGreatDoor.S
open Go.V Go.RowKit Go.Shelf Go.Proofs
variable {mL:Int}
theorem d3Q {W mL}(hL:LaidV (A2 mL) W)(a)(ha:a.block<W.heap.size)(Ys)(hY:∀i y,Ys[i]?=some y->HandI W a i y):∀p∈a3L (a.block,a.off) Ys,p.1<W.heap.size:=by
 have hsz:0<W.heap.size:=xI (show 0<(A2 mL).length from by show 0<7;decide) hL.size;have hb:∀j,j<7->j<W.heap.size:=λj hj=>xI hj (show 7<=W.heap.size from hL.size);intro p hp;obtain⟨k,hk⟩:=uv.1 hp;rcases wK k 8 with q|q;rcases k with _|_|_|_|_|_|_|_|k;cases hk;exact hb 0 zv;cases hk;exact hb 1 zv;cases hk;exact hb 2 zv;cases hk;exact hb 3 zv;cases hk;exact hb 4 zv;cases hk;exact hb 5 zv;cases hk;exact hb 6 zv;cases hk;exact ha;omega;obtain⟨k,rfl⟩:∃m,k=8+m:=⟨k-8,zy⟩;rw[b3W]at hk;rcases c8c k with e|e;rw[e,(a6X Ys (k/2)).1]at hk;cases q2:Ys[k/2]? with|none=>rw[q2]at hk;cases hk|some y=>rw[q2]at hk;cases hk;exact c1Q hsz (hY _ y q2).t
 rw[e,(a6X Ys (k/2)).2]at hk;cases q2:Ys[k/2]? with|none=>rw[q2]at hk;cases hk|some y=>rw[q2]at hk;cases hk;exact c1Q hsz (hY _ y q2).l
theorem c6h {W mL}(hL:LaidV (A2 mL) W)(a)(ha:a.block<W.heap.size)(Ys)(hY:∀i y,Ys[i]?=some y->HandI W a i y):∀(b:Nat) (p) (l),(a3L (a.block,a.off) Ys)[b]?=some p->(N9 mL Ys)[b]?=some l->∀(off) (x),l[off]?=some x->∃x',W.cell? ⟨p.1,p.2+off,none⟩=some x'/\VR (a2I (a3L (a.block,a.off) Ys)) x' x:=by
 intro b p l hp hl off x hx;rcases wK b 7 with q|q;·
  have hv':∀g l,(A2 mL)[g]?=some l->∀off x,l[off]?=some x->W.cell? ⟨g,0+off,none⟩=some x/\plain x=true:=λg l hl off x hx=>⟨by rw[wt];exact hL.cell g l hl off x hx,a0O l (we hl) x (we hx)⟩;have hl':(A2 mL)[b]?=some l:=by have:(N9 mL Ys)[b]?=(A2 mL)[b]?:=wh (by show b<7;exact q);rw[<-this];exact hl
  have hp':p=(b,0):=by rcases b with _|_|_|_|_|_|_|b;all_goals first|(cases hp;rfl)|omega
  subst hp';obtain⟨e1,e2⟩:=hv' b l hl' off x hx;exact⟨x,e1,VR.plain e2⟩
 rcases Nat.eq_or_lt_of_le q with q|q;obtain rfl:=q.symm;rw[d5k]at hp;rw[b7R]at hl;cases hp;cases hl;have ho:off=off/9*9+off%9:=zy;have hi:off/9<(a4a Ys).length:=by have:=(xQ.1 hx).1;rw[b9K]at this;omega
 cases q2:Ys[off/9]? with|none=>rw[b8z]at hi;rw[xP hi]at q2;cases q2|some y=>rw[ho,b8Y _ _ _ _ (b8t q2) zy]at hx;obtain⟨x',e1,e2⟩:=c8N (p:=(a.block,a.off)) q2 (hY _ y q2) _ x hx;refine⟨x',?_,e2⟩;have:=(hY _ y q2).cells _ x' e1;rw[<-ho]at this;exact this
 obtain⟨k,rfl⟩:∃m,b=8+m:=⟨b-8,zy⟩;rw[b3W]at hp;rw[b9f]at hl;rcases c8c k with e|e;rw[e,(a6X Ys (k/2)).1]at hp;rw[e,(a9j Ys (k/2)).1]at hl;cases q2:Ys[k/2]? with|none=>rw[q2]at hp;cases hp|some y=>rw[q2]at hp hl;cases hp;cases hl;obtain⟨e1,e2⟩:=b3X (hY _ y q2).t off x hx;exact⟨x,e1,VR.plain e2⟩
 rw[e,(a6X Ys (k/2)).2]at hp;rw[e,(a9j Ys (k/2)).2]at hl;cases q2:Ys[k/2]? with|none=>rw[q2]at hp;cases hp|some y=>rw[q2]at hp hl;cases hp;cases hl;obtain⟨e1,e2⟩:=b3X (hY _ y q2).l off x hx;exact⟨x,e1,VR.plain e2⟩
theorem c7W (l m):(a2I l).le (a2I (l++m)):=by intro b g x h;obtain⟨p,h1,h2,h3⟩:=a0T h;subst h2 h3;exact a4Y (by rw[wh (xQ.1 h1).1];exact h1)
theorem c9g (mL p Ys):(a3L p Ys).length=(N9 mL Ys).length:=by have h7:(A2 mL).length=7:=rfl;unfold a3L N9;simp only[xE,xH,wF,d0i,h7]
theorem b6k {W mL}(hL:LaidV (A2 mL) W)(a)(ha:a.block<W.heap.size)(Ys)(hY:∀i y,Ys[i]?=some y->HandI W a i y)(hlen:(Ys.length+1)*4<4294967296)(op A B N)(hN:N<18446744073709551616)(k v i tv lv lt ll)(Ht:b6G W tv lt)(Hl:b6G W lv ll)(v0 v1)(hv:v1=.slice (some ⟨7,0,some 0⟩) Ys.length 9\/(Ys=[]/\∃o e,v1=.slice o 0 e))(hr:∀L,L[7]?=some (a.block,a.off)->VR (a2I L) v0 v1):Calls Tryz.prog 5 #[.agg #[.int .i64 op,.int .i64 A,.int .i64 B,.int .u64 (.ofNat N),.int .i64 k,.int .i64 v,.int .i64 i,tv,lv],v0] W λe W'=>e=.returned (.bool true)/\Below W.heap.size W W':=by
 have hsz:0<W.heap.size:=xI (show 0<(A2 mL).length from by show 0<7;decide) hL.size;have hn:=c9g mL (a.block,a.off) Ys;have hr7:8<=(N9 mL Ys).length:=by have h7:(A2 mL).length=7:=rfl;unfold N9;simp only[xE,xH,h7];omega
 have e1:(N9 mL Ys++[A7 lt,A7 ll])[(N9 mL Ys).length]?=some (A7 lt):=by rw[wo (xR _),Nat.sub_self];rfl
 have e2:(N9 mL Ys++[A7 lt,A7 ll])[(N9 mL Ys).length+1]?=some (A7 ll):=by rw[wo zy,show(N9 mL Ys).length+1-(N9 mL Ys).length=1 by omega];rfl
 obtain⟨tv',pt,q1,q2,q3,q4⟩:=c0e hsz Ht _ _ e1;obtain⟨lv',pl,r1,r2,r3,r4⟩:=c0e hsz Hl _ _ e2;have f1:(a3L (a.block,a.off) Ys++[pt,pl])[(N9 mL Ys).length]?=some pt:=by rw[wo zy,hn,Nat.sub_self];rfl
 have f2:(a3L (a.block,a.off) Ys++[pt,pl])[(N9 mL Ys).length+1]?=some pl:=by rw[wo zy,hn,show(N9 mL Ys).length+1-(N9 mL Ys).length=1 by omega];rfl
 have f7:(a3L (a.block,a.off) Ys++[pt,pl])[7]?=some (a.block,a.off):=rfl;have hI:InsL (Go.V.a1e (N9 mL Ys++[A7 lt,A7 ll])).c (Go.V.a1e (N9 mL Ys++[A7 lt,A7 ll])).h v1 (a4a Ys):=(c4L mL W a Ys hY v1 hv).mono (by show j9 (N9 mL Ys)<=j9 (N9 mL Ys++[A7 lt,A7 ll]);rw[y9,y9,xE];omega) λb hb=>by
  have hb':b<(N9 mL Ys).length:=by have:b<j9 (N9 mL Ys):=hb;rwa[y9]at this
  rw[S4,S4,wh hb']
 have hx0:Sv (Go.V.a1e (N9 mL Ys++[A7 lt,A7 ll])).c (Go.V.a1e (N9 mL Ys++[A7 lt,A7 ll])).h (⟨op,A,B,N,k,v,i,lt,ll⟩,tv',lv'):=⟨q4,r4⟩;obtain⟨M,hM⟩:∃M,300000<=M:=⟨300000,xR _⟩;obtain⟨x,s,hrun,hx⟩:=c4m hI hx0 (by rw[b8z];exact hlen) (λx hx=>by
  rcases wU.1 hx with hx|hx;obtain⟨i,hi⟩:=uv.1 hx;cases q:Ys[i]? with
   |none=>
    have:(a4a Ys)[i]?=none:=by unfold a4a;rw[tS,q];rfl
    rw[this]at hi;cases hi|some y=>rw[b8t q]at hi;cases hi;exact(hY i y q).N
  rw[wx]at hx;subst hx;exact hN) M hM [] [];subst hx;have hrun':j0 r7 (M+1+1) 5 [o8 ⟨op,A,B,N,k,v,i,lt,ll⟩ tv' lv',v1] (Go.V.a1e (N9 mL Ys++[A7 lt,A7 ll]))=some (.ret (.bool true),s):=hrun;refine b4C (vs:=A2 mL) (rows:=N9 mL Ys++[A7 lt,A7 ll]) (args':=[.agg #[.int .i64 op,.int .i64 A,.int .i64 B,.int .u64 (.ofNat N),.int .i64 k,.int .i64 v,.int .i64 i,tv,lv],v0]) J6 D7 (a3L (a.block,a.off) Ys++[pt,pl]) ?_ ?_ ?_ ?_ hL (pL5 (mL:=mL)).e (pL5 (mL:=mL)).s Tryz.func5 zw rfl ?_ rfl hrun';rw[xE,xE,hn];rfl;intro p hp;rcases wU.1 hp with hp|hp;exact d3Q hL a ha Ys hY p hp;simp only[wG,sk,or_false]at hp;rcases hp with rfl|rfl;exact q1;exact r1;intro b p l hp hl off x hx;rcases wK b (N9 mL Ys).length with hb|hb;rw[wh zy]at hp;rw[wh hb]at hl;obtain⟨x',g1,g2⟩:=c6h hL a ha Ys hY b p l hp hl off x hx;exact⟨x',g1,g2.mono (c7W _ _)⟩;obtain⟨m,rfl⟩:∃m,b=(N9 mL Ys).length+m:=⟨b-(N9 mL Ys).length,zy⟩;have hpl:∀(l:List Int) (x:Value),x∈A7 l->plain x=true:=λl x hx=>by unfold A7 at hx;obtain⟨z,_,rfl⟩:=uy.1 hx;rfl
 rcases m with _|_|m;rw[wV]at hp hl;rw[f1]at hp;rw[e1]at hl;cases hp;cases hl;exact⟨x,q2 off x hx,VR.plain (hpl _ x (we hx))⟩;rw[f2]at hp;rw[e2]at hl;cases hp;cases hl;exact⟨x,r2 off x hx,VR.plain (hpl _ x (we hx))⟩;rw[wo zy,hn]at hp;rw[show(N9 mL Ys).length+(m+1+1)-(N9 mL Ys).length=m+2 by omega]at hp;cases hp;·intro g hg;have hg':g<7:=hg;rcases g with _|_|_|_|_|_|_|g;all_goals first|rfl|omega
 refine VRL.cons (VR.agg rfl λj x' x hx' hx=>?_) (VRL.cons (hr _ f7) (VRL.nil _));rcases j with _|_|_|_|_|_|_|_|_|j;cases hx';cases hx;exact VR.plain rfl;cases hx';cases hx;exact VR.plain rfl;cases hx';cases hx;exact VR.plain rfl;cases hx';cases hx;exact VR.plain rfl;cases hx';cases hx;exact VR.plain rfl;cases hx';cases hx;exact VR.plain rfl;cases hx';cases hx;exact VR.plain rfl;cases hx';cases hx;exact q3 _ f1;cases hx';cases hx;exact r3 _ f2;cases hx'
theorem c9V {H}{enc:TypeId×Value->H}{P w b sp held n t e k fuel cs}{zs:List Int}{p}(ht:P.underlying t=some (.array n e))(he:P.underlying e=some (.int k))(hc:P.cellsOf e=1)(hct:P.cellsOf t=n)(h:DataW.trod enc P w b sp held fuel t cs=some (.agg (zs.map λz=>.lit (.int k z)),p)):cs=zs.map λz=>.int k z:=by
 obtain⟨xs,m,_,hx,hl,hlen,hf⟩:=DataW.trod_array ht h;have hx1:zs.map (λz=>(DataW.lit (.int k z):DataW H))=xs.map (·.1):=by have:=xC Prod.fst hx;simpa using this
 have hzs:zs.length=n:=by have:=xC List.length hx1;simpa[hlen]using this
 rw[hct]at hl;refine wE λi=>?_;by_cases hi:i<n;have h1:=hf i hi;rw[hc,wI,xP zy]at h1;obtain⟨z,e1,e2,_⟩:=vC he h1;have e3:(xs.map (·.1))[i]?=some (DataW.lit (.int k z)):=by rw[wc,xP zy,tY,e2]
 rw[<-hx1,wc,xP zy,tY]at e3;have e4:zs[i]=z:=by simpa using e3
 have e5:(cs.drop i)[0]?=some (.int k z):=by have:=xC (λl=>l[0]?) e1;simpa[vY]using this
 rw[vr,wV]at e5;rw[e5,wc,xP zy,e4];rfl;rw[ww zy,ww zo]
theorem b0q {W name G T e n k}{zs:List Int}(hG:Tryz.prog.globalNamed name=some G)(hT:(Tryz.prog.globals[G]?).map (·.type)=some T)(ht:Tryz.prog.underlying T=some (.array n e))(he:Tryz.prog.underlying e=some (.int k))(hc:Tryz.prog.cellsOf e=1)(hct:Tryz.prog.cellsOf T=n){g}{t}{cs}{fuel}{p}(h1:Tryz.prog.globalNamed name=some g)(h2:(Tryz.prog.globals[g]?).map (·.type)=some t)(h3:W.var? Tryz.prog name=some cs)(h4:DataW.trod (λ_=>()) Tryz.prog W 0 (λ_=>true) false fuel t cs.toList=some (.agg (zs.map λz=>.lit (.int k z)),p)):∃ty fz,W.heap[G]?=some (.cells ⟨zs.map λz=>.int k z⟩ ty fz):=by
 obtain rfl:G=g:=vQ (hG.symm.trans h1);obtain rfl:T=t:=vQ (hT.symm.trans h2);have hcs:=c9V ht he hc hct h4;have ecs:cs=⟨zs.map λz=>.int k z⟩:=by obtain⟨l⟩:=cs;exact xC Array.mk hcs
 subst ecs;unfold World.var? at h3;rw[hG,Option.bind_some]at h3;split at h3;rename_i cs' ty fz hh;cases h3;exact⟨_,_,hh⟩;cases h3
theorem c7w {W}(h:laidMet Tryz.prog Rows.asmLinesRow.laid W):(∃ty fz,W.heap[5]?=some (.cells ⟨b0Q⟩ ty fz))/\(∃ty fz,W.heap[4]?=some (.cells ⟨b0x⟩ ty fz))/\(∃ty fz,W.heap[2]?=some (.cells ⟨a7P⟩ ty fz))/\∃ty fz,W.heap[0]?=some (.cells ⟨a1x⟩ ty fz):=by obtain⟨ps,hV,_⟩:=h;obtain⟨g1,t1,cs1,f1,p1,q1,a1,b1,c1,d1,hV,_⟩:=hV;obtain⟨g2,t2,cs2,f2,p2,q2,a2,b2,c2,d2,hV,_⟩:=hV;obtain⟨g3,t3,cs3,f3,p3,q3,a3,b3,c3,d3,hV,_⟩:=hV;obtain⟨g4,t4,cs4,f4,p4,q4,a4,b4,c4,d4,hV,_⟩:=hV;obtain⟨g5,t5,cs5,f5,p5,q5,a5,b5,c5,d5,hV,_⟩:=hV;have x1:(Rows.laid_math_bits_deBruijn32tab:DataW Unit)=.agg ((b0Q.map intOf).map λz=>.lit (.int .u8 z)):=zw;have x2:(Rows.laid_math_bits_deBruijn64tab:DataW Unit)=.agg ((b0x.map intOf).map λz=>.lit (.int .u8 z)):=zw;have x3:(Rows.laid_internal_strconv_uint64pow10:DataW Unit)=.agg ((a7P.map intOf).map λz=>.lit (.int .u64 z)):=zw;have x5:(Rows.laid_strings_asciiSpace:DataW Unit)=.agg ((a1x.map intOf).map λz=>.lit (.int .u8 z)):=zw;have y1:(b0Q.map intOf).map (λz=>Value.int .u8 z)=b0Q:=zw;have y2:(b0x.map intOf).map (λz=>Value.int .u8 z)=b0x:=zw;have y3:(a7P.map intOf).map (λz=>Value.int .u64 z)=a7P:=zw;have y5:(a1x.map intOf).map (λz=>Value.int .u8 z)=a1x:=zw;rw[x1]at d1;rw[x2]at d2;rw[x3]at d3;rw[x5]at d5;have z1:=b0q (G:=5) (T:=271) zw zw Tryz.underlying271 Tryz.underlying5 zw zw a1 b1 c1 d1;have z2:=b0q (G:=4) (T:=253) zw zw Tryz.underlying253 Tryz.underlying5 zw zw a2 b2 c2 d2;have z3:=b0q (G:=2) (T:=250) zw zw Tryz.underlying250 Tryz.underlying23 zw zw a3 b3 c3 d3;have z5:=b0q (G:=0) (T:=219) zw zw Tryz.underlying219 Tryz.underlying5 zw zw a5 b5 c5 d5;rw[y1]at z1;rw[y2]at z2;rw[y3]at z3;rw[y5]at z5;exact⟨z1,z2,z3,z5⟩
theorem e1f:((begin Tryz.prog (λ_ _=>0) default).world.heap[3]?).bind Obj.row?=some (#[.int .i64 0],3):=zw
theorem e1a:(((begin Tryz.prog (λ_ _=>0) default).world.heap[6]?).bind Obj.row?).isSome=true:=zw
theorem c9o {W}(h:laidMet Tryz.prog Rows.asmLinesRow.laid W)(hS:W.ShapedOpen Tryz.prog):∃mL,LaidV (A2 mL) W:=by
 obtain⟨⟨t5,z5,h5⟩,⟨t4,z4,h4⟩,⟨t2,z2,h2⟩,⟨t0,z0,h0⟩⟩:=c7w h;have hg:Tryz.prog.globals.size=7:=zw;obtain⟨cs,e3,hsz,hrow⟩:=hS.1 3 _ _ (by rw[hg];decide) e1f;obtain⟨⟨zero6,ty6⟩,e6⟩:=vI.1 e1a;obtain⟨cs6,e6',_,_⟩:=hS.1 6 _ _ (by rw[hg];decide) e6;obtain⟨ts,hts,_,hc⟩:=hrow zw;have ets:ts=[3]:=(vQ ((show Tryz.prog.cellTypes Tryz.prog.depth 3=some [3] by kernel_rfl).symm.trans hts)).symm;subst ets;obtain⟨l⟩:=cs;have hl:l.length=1:=hsz;obtain⟨x,rfl⟩:∃x,l=[x]:=by match l,hl with|[x],_=>exact⟨x,rfl⟩
 obtain⟨u,hu,hk⟩:=hc 0 x rfl;cases hu;unfold Cell.ok at hk;rw[Tryz.underlying3]at hk;obtain⟨m,rfl⟩:∃m,x=.int .i64 m:=by cases x with|int k n=>obtain⟨rfl,_⟩:=hk;exact⟨n,rfl⟩|_=>exact(hk:False).elim
 have hrows:∀(g:Nat) (l:List Value),(A2 m)[g]?=some l->l≠[]->∃t fz,W.heap[g]?=some (.cells ⟨l⟩ t fz):=by intro g l hl hne;rcases g with _|_|_|_|_|_|_|g;cases hl;exact⟨_,_,h0⟩;cases hl;exact absurd rfl hne;cases hl;exact⟨_,_,h2⟩;cases hl;exact⟨_,_,e3⟩;cases hl;exact⟨_,_,h4⟩;cases hl;exact⟨_,_,h5⟩;cases hl;exact absurd rfl hne;cases hl
 refine⟨m,?_,λg l hl off v hv=>?_,hrows⟩;rcases wK 6 W.heap.size with q|q;exact q;rw[uD q]at e6';cases e6';obtain⟨t,fz,hh⟩:=hrows g l hl (λe=>by rw[e]at hv;cases hv);simp only[World.cell?,hh];simpa using hv
end Go.Proofs.YtmomonnlmbljoaaGreatDoor.S
end
section
namespace Go
open Go.ChangeShapes
section
variable {H:Type}{enc:TypeId×Value->H}
end
end Go
end
section
namespace Go.Proofs.YtmomonnlmbljoaaGreatDoor.S
open Go.V Go.RowKit Go.ChangeShapes Go.WideShapes Go.ChangeAt
theorem c9u {H}(d:DataW H):1<=Rows.uptoBulk d:=by cases d with|lit l=>cases l<;>simp[Rows.uptoBulk]|nil=>simp[Rows.uptoBulk]|ptr d=>simp[Rows.uptoBulk]|slice elems spare=>simp[Rows.uptoBulk]|agg parts=>simp[Rows.uptoBulk]|iface t d=>simp[Rows.uptoBulk]|map a8U=>simp[Rows.uptoBulk]|held h=>simp[Rows.uptoBulk]
theorem d0z {H}(l:List (DataW H)):l.length<=Rows.uptoBulkAll l:=by induction l with|nil=>simp[Rows.uptoBulkAll]|cons x r ih=>have:=c9u x;simp only[Rows.uptoBulkAll,xH];omega
theorem b9D {H}{enc:TypeId×Value->H}{W base v0 v1 d0 d1 p0 p1 mL}(hL:LaidV (A2 mL) W)(hv0:Value.okWide Tryz.prog W .any base 30 v0)(hv1:Value.okWide Tryz.prog W .any base 32 v1)(h0:DataW.Trod enc Tryz.prog W 0 (λ_=>true) true 30 v0 d0 p0)(h1:DataW.Trod enc Tryz.prog W 0 (λ_=>true) true 32 v1 d1 p1)(hk:Rows.uptoBulkAll [d0,d1]<=1048576):Calls Tryz.prog 5 #[v0,v1] W λe W'=>e=.returned (.bool true)/\Below W.heap.size W W':=by
 have hsz:0<W.heap.size:=xI (show 0<(A2 mL).length from by show 0<7;decide) hL.size;obtain⟨cs,rfl,ht,hl⟩:=d6t hv0;obtain⟨f0,hf0⟩:=h0;obtain⟨f1,hf1⟩:=h1;obtain⟨op,A,B,N,k,v,i,tv,lv,n,x1,x2,hcs,wN,wi,t1,t2⟩:=b4m hf0;have ecs:cs=#[.int .i64 op,.int .i64 A,.int .i64 B,.int .u64 N,.int .i64 k,.int .i64 v,.int .i64 i,tv,lv]:=by obtain⟨l⟩:=cs;exact xC Array.mk hcs
 subst ecs;obtain⟨N,rfl,hN⟩:=c7K wN;obtain⟨lt,Ht⟩:=b6b Tryz.underlying27 Tryz.underlying24 zw (b5C Tryz.underlying27 (ht tv rfl)) t1;obtain⟨ll,Hl⟩:=b6b Tryz.underlying28 Tryz.underlying3 zw (b5C Tryz.underlying28 (hl lv rfl)) t2;rcases d0w Tryz.underlying32 hv1 with rfl|⟨a,len,cap,rfl,hs,hb⟩;exact b6k hL ⟨0,0,none⟩ hsz [] (λi y h=>zl) zv op A B N hN k v i tv lv lt ll Ht Hl _ (.slice none 0 0) (Or.inr ⟨rfl,_,_,rfl⟩) λ_ _=>VR.plain rfl;have hf:DataW.trod enc Tryz.prog W 0 (λ_=>true) true f1 32 [.slice (some a) len cap]=some (d1,p1):=hf1;have hlen:len<=1048576:=by rcases Go.Deep.open_slice Tryz.underlying32 hf with⟨e0,_⟩|⟨a',len',cap',m,n',D,Pl,e0,_,_,_,_,hx,_⟩;cases e0;cases e0;have hd:d1=.slice ((List.range len).map D) ((List.range (m-len)).map λj=>D (len+j)):=xC Prod.fst hx;have h2:=d0z ((List.range len).map D);rw[xF,List.length_range]at h2;rw[hd]at hk;simp only[Rows.uptoBulkAll,Rows.uptoBulk]at hk;omega
 rcases c0z hf with e|⟨a',cap',Ys,e,hle,hY⟩;cases e;cases e;refine b6k hL a hb Ys hY zy op A B N hN k v i tv lv lt ll Ht Hl _ (.slice (some ⟨7,0,some 0⟩) Ys.length 9) (Or.inl rfl) λL hL7=>?_;exact VR.slice (a4Y hL7) (xR _) zv hle (Or.inr hs) (Or.inr ⟨rfl,zu,λh=>zl⟩)
theorem Tryz.ownF:ownKnob Tryz.prog.godebug=none:=zw
theorem Tryz.laidOutF:laidOutB Tryz.prog=true:=zw
theorem c0v {H}{enc:TypeId×Value->H}{W base args ds gs before}(hval0:∀(j:Nat) t v,Tryz.f5.params[j]?=some t->args[j]?=some v->Value.okWide Tryz.prog W .any base t v)(hW:DataW.Whole enc Tryz.prog Tryz.f5.params.toList Rows.asmFoldedSpec.vars false W args.toList ds gs before)(hX:laidMet Tryz.prog Rows.asmFoldedUptoRow.laid W)(hS:W.ShapedOpen Tryz.prog)(hk:Rows.uptoBulkAll (ds++gs)<=1048576):Calls Tryz.prog 5 args W λe W'=>∃v,e=.returned v/\Rows.asmFoldedSpec.post enc Tryz.prog Tryz.f5 false true false false W args v W':=by
 have hval:=hval0;have hW':=hW;obtain⟨p,q,hA0,hV,rfl,hfz,hnd⟩:=hW;have hA:DataW.TrodAll enc Tryz.prog W 0 (λ_=>true) true Tryz.f5.params.toList args.toList ds p:=hA0;rw[Tryz.params5]at hA hval;obtain⟨v0,v1,d0,d1,p0,p1,rfl,rfl,rfl,h0,h1⟩:=trodAll_two hA;obtain⟨rfl,rfl⟩:=trodVars_none hV;obtain⟨mL,hL⟩:=c9o hX hS;refine(b9D hL (hval 0 30 v0 rfl rfl) (hval 1 32 v1 rfl rfl) h0 h1 (by simpa using hk)).mono λe W' ⟨he,hb⟩=>?_;subst he;have hlt:∀x∈p0++p1,x.block<W.heap.size:=λx hx=>by simpa using hW'.lt x (by simpa using hx)
 refine⟨_,rfl,_,_,_,[],p0++p1,[],hW',?_,?_,?_,hb.frame _,λh=>zl⟩;exact trodAll_mk1 (shut_bool Tryz.underlying4 true);exact trodAll_mk2 (Below.trod Tryz.laidOutF zw (wj zw) h0 hb (λx hx=>hlt x (List.mem_append_left _ hx))) (Below.trod Tryz.laidOutF zw (wj zw) h1 hb (λx hx=>hlt x (List.mem_append_right _ hx)));rfl
noncomputable def a6v:Array Value:=#[.agg #[.int .i64 0,.int .i64 0,.int .i64 0,.int .u64 0,.int .i64 0,.int .i64 0,.int .i64 0,.slice none 0 0,.slice none 0 0],.slice none 0 0]
theorem b9O (os args):laidMet Tryz.prog Rows.asmFoldedUptoRow.laid ((World.laidAll Tryz.prog os Rows.asmFoldedUptoRow.laid).forCall (λ_ _=>0) ⟨#[],args,[]⟩).memory:=laidMet_laidAll args zw zw
theorem b4c (os args):((World.laidAll Tryz.prog os Rows.asmFoldedUptoRow.laid).forCall (λ_ _=>0) ⟨#[],args,[]⟩).Shaped Tryz.prog:=World.shaped_of_ZipB zw zw
noncomputable def c1q {H:Type}:List (DataW H):=[.agg [.lit (.int .i64 0),.lit (.int .i64 0),.lit (.int .i64 0),.lit (.int .u64 0),.agg [.lit (.int .i64 0),.lit (.int .i64 0),.lit (.int .i64 0)],.nil,.nil],.nil]
theorem b8c (os){H}(enc:TypeId×Value->H):DataW.whole enc Tryz.prog ((World.laidAll Tryz.prog os Rows.asmFoldedUptoRow.laid).forCall (λ_ _=>0) ⟨#[],a6v,[]⟩).memory Tryz.f5.params.toList (Rows.OpenSpec.upto Rows.asmFoldedSpec).vars false a6v.toList 12=some (c1q,[],[]):=zw
theorem b9t {H}:Rows.uptoSmall H (c1q++[])=true:=zw
theorem b5Z (os):Input.okWideB Tryz.prog ((World.laidAll Tryz.prog os Rows.asmFoldedUptoRow.laid).forCall (λ_ _=>0) ⟨#[],a6v,[]⟩) 5 ⟨#[],a6v,[]⟩=true:=zw
theorem c0S (os){H}(enc:TypeId×Value->H):(Rows.OpenSpec.upto Rows.asmFoldedSpec).bare.sizedB enc Tryz.prog Tryz.f5 false ((World.laidAll Tryz.prog os Rows.asmFoldedUptoRow.laid).forCall (λ_ _=>0) ⟨#[],a6v,[]⟩).memory a6v 12=true:=zw
theorem b6z (os) (started:os.Started) (H) (enc:TypeId×Value→H) (F) :
 ReturnsInHanded {} Tryz.checked os 5 .any ((Rows.OpenSpec.upto Rows.asmFoldedSpec).preRow enc Tryz.prog Tryz.f5 Rows.asmFoldedUptoRow.domain false Rows.asmFoldedUptoRow.laid) (((Rows.OpenSpec.upto Rows.asmFoldedSpec).at F).post enc Tryz.prog Tryz.f5 false true false false):=by
 have hx:=b8c os enc
 refine returnsInHanded_of_row (C:=Tryz.checked) (s:=Rows.OpenSpec.upto Rows.asmFoldedSpec) Tryz.ownF started zw Tryz.func5
  ⟨World.laidAll Tryz.prog os Rows.asmFoldedUptoRow.laid,fun _ _=>0,⟨#[],a6v, []⟩,World.laidAll_os _ _ _,b4c os _,(si (base:=0) (b5Z os)).1,(si (b5Z os)).2,
   OpenSpec.preRow_of_cond 12 hx (show List.all [] _=true from rfl) (fun k hk=>by cases hk; exact b9t) (c0S os enc) (b9O os _),by
    simp only [Assume.holds]
    exact ⟨zu,zu,fun _=>Modest.zero,zu,zu⟩⟩ ?_
 intro W base args ds gs before hval hW _ hcond _ hL hS _
 exact c0v hval hW hL hS (wj (hcond _ rfl))
theorem c1e:Rows.AsmFoldedUptoSaid:=OpenClaim.holds_of_cond 5 Tryz.f5 rfl rfl rfl rfl rfl rfl rfl ⟨rfl,rfl,rfl,rfl,rfl⟩ rfl rfl rfl rfl rfl zw Tryz.func5 zw (wj zw) (by unfold Func.isWrapper;rw[wX (vp zw)];exact⟨rfl,rfl⟩) (λos started H enc _ F=>by rw[OpenClaim.pre_eq_preRow];exact b6z os started H enc F)
theorem asmFolded_holds:Rows.AsmFoldedUptoCardSaid:=Claim7.holds_tied_plain_at .later [] _ _ _ _ c1e (λ_ h=>zl) zw (λ_ h=>zl) asmFoldedUpto_row_tie rfl ⟨rfl,rfl⟩ zw rfl (λf fn hf hfn=>by
 obtain rfl:f=5:=vQ ((show Tryz.prog.funcNamed Rows.asmFoldedUptoRow.func=some 5 by kernel_rfl).symm.trans hf)|>.symm;obtain rfl:fn=Tryz.f5:=(vQ (Tryz.func5.symm.trans hfn)).symm;refine⟨zw,λj t ht=>?_⟩;rw[Tryz.params5]at ht;have h3:t=30\/t=32:=by simpa using Array.mem_of_getElem? ht
 rcases h3 with rfl|rfl;exact(show Tryz.prog.wantsStandIn 30=false by kernel_rfl);exact(show Tryz.prog.wantsStandIn 32=false by kernel_rfl)) zw
end Go.Proofs.YtmomonnlmbljoaaGreatDoor.S
end
