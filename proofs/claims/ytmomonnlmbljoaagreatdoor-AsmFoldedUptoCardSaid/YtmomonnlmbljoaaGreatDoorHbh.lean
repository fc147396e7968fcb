import Derived.Test.YtmomonnlmbljoaaGreatDoorHbg
set_option maxRecDepth 1000000
set_option maxHeartbeats 4000000
set_option linter.unusedVariables false
set_option linter.unusedSimpArgs false
section
namespace Go.Proofs.YtmomonnlmbljoaaGreatDoor
open Go.V Go.RowKit Go.Shelf Go.Proofs
variable {mL:Int}
attribute [local congr] m0 l9 n8 n9 q9 m8 s9 A1 A0
theorem d6l (G):∀n,a0r G n (3*n+12):=by intro n;induction n with|zero=>intro d x lv m r w _ hz;have:=a6x x;omega|succ n ih=>exact t71 (K:=3*n) ih
theorem e2o (n a b):j0 r7 (n+1) 29 [a,b]=c3K i7 NN (j0 r7 n) a b:=Z9 (q:=c3K) (N:=NN) zw n a b
theorem t77 {G d}(H:Dp G d)(m)(hL:d.L≠[])(r w):d8 (go (j0 r7 (m+2) 77 [.pointer (some ⟨G.sb,0,some 0⟩)]) ⟨d.c,d.h,r,w⟩) λx s=>x=.ret (.tuple ⟨[]⟩)/\∃d',Nx G d s d'/\d'.L=d.L.dropLast/\d'.lb=d.lb/\d'.S=d.S/\d'.p=d.p/\d'.e=d.e/\d'.V=d.V:=by
 obtain⟨c,h,la,oa,lb,p,e,L,S,VV⟩:=d;have hp:=H.hp;have hs:=H.hs;have a1:=H.p;have a2:=H.s;have a3:=H.ne;have a6:G.sb≠G.ap:=λe=>a3 e.symm;simp only at hp hs a1 a2 hL;have hlan:=H.lan;simp only at hlan;have hsm:=H.sm;simp only at hsm;obtain⟨j,hj⟩:∃j,L.length=j+1:=⟨L.length-1,by have:=List.length_pos_iff.2 hL;omega⟩;have hdec2:=a2s j zy;obtain⟨la,ln,le⟩:=la;simp only at hlan;rw[hj]at hlan;subst hlan;obtain⟨hl1,hor⟩:=H.la;rcases hor with h0|⟨ab,g,cs,h2,h3,h4,h5,h6,h7⟩;exfalso;cases h0;simp only at h2 h3 h4 h5;subst h2;subst h3;rw[d1w];have e0:decide (Int.ofNat 0<Int.ofNat (j+1))=true:=xL (wC.2 (tQ j));have e1:=λk=>b1z 1 ab 0 g (j+1) j k (wy j) zv;simp(disch:=try exact dz)only[G77,c4j,G79,hs,hdec2,b0B,b0G,e0,e1,↓gP,gY];refine d8.done ?_;have U:PU G ⟨c,h,⟨some ⟨ab,0,some g⟩,j+1,1⟩,oa,lb,p,e,L,S,VV⟩ ⟨c,V.O2 h G.sb (.cells [(.map (some G.m),0),(.slice (some ⟨ab,0,some g⟩) j 1,0)] 0 false),⟨some ⟨ab,0,some g⟩,j,1⟩,oa,lb,p,e,L.dropLast,S,VV⟩:=yf;obtain⟨Rs,o1,o2⟩:=H.oa;refine⟨rfl,_,⟨rfl,rfl,H.go U ?_ ?_ ?_ H.lo ?_ H.oo ?_,U.stp λi k=>?_⟩,rfl,rfl,rfl,rfl,rfl,rfl⟩;rw[c9 a3];exact hp;exact d9 _ _ _;have hg:=(H.la.cut (j:=j) (xG j)).mono (h':=V.O2 h G.sb (.cells [(.map (some G.m),0),(.slice (some ⟨ab,0,some g⟩) j 1,0)] 0 false)) (xR _) λb k1 k2=>xm;rw[<-sO,wI]at hg;have e2:L.take j=L.dropLast:=by rw[td,hj];rfl
 simp only[e2]at hg;exact hg;refine⟨Rs,o1.mono (xR _) λb k1 k2=>?_,o2.mono λi k=>⟨k,?_⟩⟩;have k3:=(H.oo b k2).1;have k4:=(H.oo b k2).2;simp(disch:=first|assumption|omega)only[c9];obtain⟨k1,k2,k3,k4,k5⟩:=H.vf i k;simp(disch:=first|assumption|omega)only[c9];dsimp only;rw[uj];exact⟨zy,hsm.2.1,hsm.2.2⟩;obtain⟨k1,k2,k3,k4,k5⟩:=k;simp(disch:=first|assumption|omega)only[c9]
theorem n29 {G d0 L0}(m q)(hq:q<4294967296):∀(k e i) (d) (Y) (xs) (r w),i+k=q->Y.length=k->d.L=L0++Y->Dp G d->Stp G d0 d->r6 xs 4=.int .i64 (.ofNat i)->d8 (go (I9 (d1d i7 NN (j0 r7 (m+2)) (.int .i64 (.ofNat q)) (.pointer (some ⟨G.sb,0,some 0⟩))) (k+1+e) xs) ⟨d.c,d.h,r,w⟩) λy s=>∃xs' d',y=(.exit 0,xs')/\s.c=d'.c/\s.h=d'.h/\Dp G d'/\Stp G d0 d'/\d'.L=L0/\d'.p=d.p/\d'.e=d.e/\d'.S=d.S:=by
 intro k;induction k with
  |zero=>intro e i d Y xs r w hi hY hL D S h1;rw[wm 0 1 e,N7];have e0:decide (Int.ofNat i<Int.ofNat q)=false:=xO (λh=>zU);have:Y=[]:=wP.1 hY;subst this;simp(disch:=try exact dz)only[d4l,h1,e0,↓gP,gY];exact d8.done ⟨_,d,rfl,rfl,rfl,D,S,hL.trans (xJ _),rfl,rfl,rfl⟩|succ k ih=>
   intro e i d Y xs r w hi hY hL D S h1;rw[wm (k+1) 1 e,N7];have e0:decide (Int.ofNat i<Int.ofNat q)=true:=xL (wC.2 zy);have hinc:=B8 i zy;have hne:Y≠[]:=λh=>by rw[h]at hY;cases hY
   simp(disch:=try exact dz)only[d4l,h1,e0,↓gP,gY];refine d8.bindC (t77 D m (by rw[hL];simp[hne]) _ _) λx s hq=>?_;obtain⟨rfl,d',N,f1,f2,f3,f4,f5,f6⟩:=hq;obtain⟨c',h',r',w'⟩:=s;have n1:c'=d'.c:=N.c;have n2:h'=d'.h:=N.h;subst n1;subst n2;simp(disch:=try exact dz)only[hinc,↓gP,gY];refine(ih e (i+1) d' Y.dropLast _ _ _ zy (by rw[uj];omega) (by rw[f1,hL,tP hne]) N.dp (S.trans N.st) rfl).mono ?_;rintro y s ⟨xs',d2,g1,g2,g3,g4,g5,g6,g7,g8,g9⟩;exact⟨xs',d2,g1,g2,g3,g4,g5,g6,g7.trans f4,g8.trans f5,g9.trans f3⟩
theorem e5t (t:Nat)(a):R9 Tryz.prog tab .eql 44 (.tmp t) (.const (.pointer none)) (.pointer (some a)) (.pointer none)=M.pure (.bool false):=zw
structure ScS (sb m:Nat) (F:Nat→List (Value×Value)) (L:List (List UInt8)) (c:Nat) (h:Trie VObj) (u:Sl) (U:Nat→Prop):Prop where
 s:sb<c
 hs:h.get sb=some (.cells [(.map (some m), 0),(.slice u.a u.n u.e, 0)] 0 false)
 la:K9 1 c h u (L.map a2O)
 lo:∀ i,u.own i→i≠sb
 sc:ScM U h m F
 u:∀ i,U i→i<c∧i≠sb∧¬ u.own i
theorem t29 {sb mm F L c h la U lv l n}(H:ScS sb mm F L c h la U)(hn:NdL U h lv l)(hz:zs l<=n)(hL:L.length+zs l<80000)(m r w):d8 (go (j0 r7 (m+3*n+14) 29 [.slice lv.a lv.n lv.e,.pointer (some ⟨sb,0,some 0⟩)]) ⟨c,h,r,w⟩) λx s=>c<=s.c/\(∀i,U i->s.h.get i=h.get i)/\(∃la' U',ScS sb mm F L s.c s.h la' U'/\(∀i,U i->U' i))/\((∃T u Rs U',W6 (C7 F n) F L l=.ok T/\x=.ret (.tuple ⟨[.slice u.a u.n u.e,.int .i64 (.ofNat 0),.int .i64 (.ofNat 0)]⟩)/\K9 9 s.c s.h u (Rs.flatMap a0y)/\RIs U' s.h Rs T/\(∀i,U' i->i<s.c)/\T.length<=zs l)\/(∃p e,W6 (C7 F n) F L l=.er p e/\x=.ret (.tuple ⟨[.slice none 0 0,.int .i64 (.ofNat p),.int .i64 (.ofNat e)]⟩))):=by
 rw[e2o];have a1:=H.s;have a2:sb≠c:=zy;have a3:sb≠c+1:=zy;have a4:c≠c+1:=zy;simp(disch:=try exact dz)only[G29,e5t,↓gP,gY];have hU:∀j,j<c->(V.O2 (V.O2 (V.O2 (V.O2 h c (.cells [(.pointer (some ⟨sb,0,some 0⟩),0),(.slice none 0 0,0),(.int .i64 (.ofNat 0),0),(.int .i64 (.ofNat 0),0),(.int .i64 (.ofNat 0),0),(.nilFunc,0)] 0 false)) (c+1) (.cells [(.pointer none,0)] 0 false)) (c+1) (.cells [(.pointer (some ⟨c,0,some 0⟩),0)] 0 false)) c (.cells [(.pointer (some ⟨sb,0,some 0⟩),0),(.slice none 0 0,0),(.int .i64 (.ofNat 0),0),(.int .i64 (.ofNat 0),0),(.int .i64 (.ofNat 0),0),(.func (.func 71) ⟨[]⟩ ⟨[.pointer (some ⟨c+1,0,some 0⟩)]⟩,0)] 0 false)).get j=h.get j:=λj k=>by have k1:j≠c:=zy;have k2:j≠c+1:=zy;simp(disch:=first|assumption|omega)only[c9]
 have D:Dp ⟨c,sb,c+1,mm,F⟩ ⟨c+1+1,(V.O2 (V.O2 (V.O2 (V.O2 h c (.cells [(.pointer (some ⟨sb,0,some 0⟩),0),(.slice none 0 0,0),(.int .i64 (.ofNat 0),0),(.int .i64 (.ofNat 0),0),(.int .i64 (.ofNat 0),0),(.nilFunc,0)] 0 false)) (c+1) (.cells [(.pointer none,0)] 0 false)) (c+1) (.cells [(.pointer (some ⟨c,0,some 0⟩),0)] 0 false)) c (.cells [(.pointer (some ⟨sb,0,some 0⟩),0),(.slice none 0 0,0),(.int .i64 (.ofNat 0),0),(.int .i64 (.ofNat 0),0),(.int .i64 (.ofNat 0),0),(.func (.func 71) ⟨[]⟩ ⟨[.pointer (some ⟨c+1,0,some 0⟩)]⟩,0)] 0 false)),la,⟨none,0,0⟩,0,0,0,L,[],λi=>U i\/i=c+1⟩:=by refine⟨zc,zc,λe=>a2 e.symm,d9 _ _ _,(hU sb a1).trans H.hs,H.la.mono zc λb k _=>hU b k,λi k=>⟨?_,H.lo i k,?_⟩,⟨[],K9.nil _ _ _,.nil⟩,?_,λi k=>?_,Or.inr rfl,?_,H.sc.mono λi k=>⟨Or.inl k,hU i (H.u i k).1⟩,?_⟩;have:=H.la.own_lt k;dsimp only;omega;rintro⟨a,h,_⟩;cases h;rintro i ⟨a,h,_⟩;cases h;rcases k with k|k;obtain⟨k1,k2,k3⟩:=H.u i k;exact⟨zc,zc,k2,k3,by rintro⟨a,h,_⟩;cases h⟩;subst k;refine⟨zc,zc,λe=>a3 e.symm,λho=>?_,by rintro⟨a,h,_⟩;cases h⟩;have:=H.la.own_lt ho;omega;have k1:c+1≠c:=zy;dsimp only;rw[c9 k1,d9];exact⟨zc,by show 0<900000000;omega,by show 0<4294967296;omega⟩
 have hN:NdL (Frz ⟨c,sb,c+1,mm,F⟩ ⟨c+1+1,(V.O2 (V.O2 (V.O2 (V.O2 h c (.cells [(.pointer (some ⟨sb,0,some 0⟩),0),(.slice none 0 0,0),(.int .i64 (.ofNat 0),0),(.int .i64 (.ofNat 0),0),(.int .i64 (.ofNat 0),0),(.nilFunc,0)] 0 false)) (c+1) (.cells [(.pointer none,0)] 0 false)) (c+1) (.cells [(.pointer (some ⟨c,0,some 0⟩),0)] 0 false)) c (.cells [(.pointer (some ⟨sb,0,some 0⟩),0),(.slice none 0 0,0),(.int .i64 (.ofNat 0),0),(.int .i64 (.ofNat 0),0),(.int .i64 (.ofNat 0),0),(.func (.func 71) ⟨[]⟩ ⟨[.pointer (some ⟨c+1,0,some 0⟩)]⟩,0)] 0 false)),la,⟨none,0,0⟩,0,0,0,L,[],λi=>U i\/i=c+1⟩) (V.O2 (V.O2 (V.O2 (V.O2 h c (.cells [(.pointer (some ⟨sb,0,some 0⟩),0),(.slice none 0 0,0),(.int .i64 (.ofNat 0),0),(.int .i64 (.ofNat 0),0),(.int .i64 (.ofNat 0),0),(.nilFunc,0)] 0 false)) (c+1) (.cells [(.pointer none,0)] 0 false)) (c+1) (.cells [(.pointer (some ⟨c,0,some 0⟩),0)] 0 false)) c (.cells [(.pointer (some ⟨sb,0,some 0⟩),0),(.slice none 0 0,0),(.int .i64 (.ofNat 0),0),(.int .i64 (.ofNat 0),0),(.int .i64 (.ofNat 0),0),(.func (.func 71) ⟨[]⟩ ⟨[.pointer (some ⟨c+1,0,some 0⟩)]⟩,0)] 0 false)) lv l:=hn.mono λi k=>⟨D.vf i (Or.inl k),hU i (H.u i k).1⟩;have hT:=t76 (d6l ⟨c,sb,c+1,mm,F⟩ n) D hN hz ⟨by show 0+zs l<_;omega,by show L.length+zs l<_;omega,by show 0+zs l<_;omega⟩ m;refine d8.bindC (hT _ _) λx s hq=>?_;obtain⟨v,rfl,d',N,hq⟩:=hq;obtain⟨c',h',r',w'⟩:=s;have n1:c'=d'.c:=N.c;have n2:h'=d'.h:=N.h;subst n1;subst n2;have hfr:∀d2,Stp ⟨c,sb,c+1,mm,F⟩ ⟨c+1+1,(V.O2 (V.O2 (V.O2 (V.O2 h c (.cells [(.pointer (some ⟨sb,0,some 0⟩),0),(.slice none 0 0,0),(.int .i64 (.ofNat 0),0),(.int .i64 (.ofNat 0),0),(.int .i64 (.ofNat 0),0),(.nilFunc,0)] 0 false)) (c+1) (.cells [(.pointer none,0)] 0 false)) (c+1) (.cells [(.pointer (some ⟨c,0,some 0⟩),0)] 0 false)) c (.cells [(.pointer (some ⟨sb,0,some 0⟩),0),(.slice none 0 0,0),(.int .i64 (.ofNat 0),0),(.int .i64 (.ofNat 0),0),(.int .i64 (.ofNat 0),0),(.func (.func 71) ⟨[]⟩ ⟨[.pointer (some ⟨c+1,0,some 0⟩)]⟩,0)] 0 false)),la,⟨none,0,0⟩,0,0,0,L,[],λi=>U i\/i=c+1⟩ d2->Dp ⟨c,sb,c+1,mm,F⟩ d2->d2.L=L->c<=d2.c/\(∀i,U i->d2.h.get i=h.get i)/\(∃la' U',ScS sb mm F L d2.c d2.h la' U'/\(∀i,U i->U' i)):=λd2 S D2 eL=>by have:=S.le;dsimp only at this;refine⟨zy,λi k=>((S.fz i (D.vf i (Or.inl k))).2).trans (hU i (H.u i k).1),d2.la,d2.V,⟨D2.s,D2.hs,?_,λi k=>(D2.lo i k).2.1,D2.sc,λi k=>?_⟩,λi k=>S.vm i (Or.inl k)⟩;rw[<-eL];exact D2.la;obtain⟨k1,k2,k3,k4,k5⟩:=D2.vf i k;exact⟨k1,k3,k4⟩
 have hp:=N.dp.hp;have b1:=N.dp.p;have hpc:=N.dp.hpc;have b3:=(N.dp.vf _ N.dp.pc).1;dsimp only at hp b1 hpc b3;obtain⟨Y,hY,hlb⟩:∃Y,d'.L=L++Y/\d'.lb=Y.length:=by rcases hq with⟨T1,f1,f2,f3,f4,f5,f6,f7,f8⟩|⟨p,e,X,f1,f2,f3,f4,f5,f6⟩;exact⟨[],f3.trans (xJ _).symm,f4⟩;exact⟨X,f5,by rw[f6];exact a7R _⟩
 have hYl:Y.length<90000:=by have:=N.dp.sm.1;rw[hY,xE]at this;omega
 have hNN:90001<=NN:=zv;obtain⟨e,hNe⟩:∃e,NN=d'.lb+1+e:=⟨NN-(d'.lb+1),zy⟩;simp(disch:=try exact dz)only[hpc,hp,w7,PD.P,↓gP,gY];have hloop:=n29 (m+3*n+11) d'.lb zy d'.lb e 0 d' Y [undef,undef,undef,undef,.int .i64 (.ofNat 0)] (c::(c+1)::r') w' zy hlb.symm hY N.dp N.st rfl;rw[<-hNe]at hloop;refine d8.bindJ hloop λy xs' s hq2=>?_;obtain⟨xs1,d2,g1,g2,g3,D2,S2,g6,g7,g8,g9⟩:=hq2;obtain⟨c'',h'',r'',w''⟩:=s;cases g1;have g2:c''=d2.c:=g2;have g3:h''=d2.h:=g3;subst g2;subst g3;have hp2:=D2.hp;have b12:=D2.p;have hpc2:=D2.hpc;have b32:=(D2.vf _ D2.pc).1;dsimp only at hp2 b12 hpc2 b32;obtain⟨u1,u2,u3⟩:=hfr d2 S2 D2 g6;rcases hq with⟨T1,f1,f2,f3,f4,f5,f6,f7,f8⟩|⟨p,e,X,f1,f2,f3,f4,f5,f6⟩;have e0:d2.e=0:=g8.trans f7;simp(disch:=try exact dz)only[G29,hpc2,hp2,w7,PD.P,e0,a1d,↓gP,gY,gT];refine d8.done ?_;obtain⟨Rs,o1,o2⟩:=D2.oa;have e9:d2.S=T1:=g9.trans (f5.trans (wQ _));rw[e9]at o2;exact⟨u1,u2,u3,Or.inl ⟨T1,d2.oa,Rs,d2.V,f1,rfl,o1,o2,λi k=>(D2.vf i k).1,f8⟩⟩;have e0:d2.e=e:=g8.trans f4;have e1:d2.p=p:=g7.trans f3;have hne:e≠0:=d2a _ _ _ _ _ _ f1;have hne':decide (e=0)=false:=xO hne;simp(disch:=try exact dz)only[G29,hpc2,hp2,w7,PD.P,e0,e1,hne',di,a1d,↓gP,gY,gT];refine d8.done ?_;exact⟨u1,u2,u3,Or.inr ⟨p,e,f1,rfl⟩⟩
end Go.Proofs.YtmomonnlmbljoaaGreatDoor
end
section
namespace Go.Proofs.YtmomonnlmbljoaaGreatDoor
open Go.V Go.RowKit Go.Shelf Go.Proofs
variable {mL:Int}
attribute [local congr] m0 l9 n8 n9 q9 m8 s9 A1 A0
noncomputable def U0 (p:Nat->Bool):List UInt8->Nat|[]=>0|b::t=>bcase (p b.toNat) (U0 p t+1) 0
theorem a3I {T t:List UInt8}{a b}(h:T.drop a=b::t):T[a]?=some b/\T.drop (a+1)=t/\a<T.length:=by
 have h1:T[a]?=some b:=by have:=xC (λl=>l[0]?) h;simpa using this
 refine⟨h1,?_,(xQ.1 h1).1⟩;have:=xC List.tail h;simpa using this
theorem a1y {T:List UInt8}{a}(h:T.drop a=[]):T.length<=a:=by simpa[tZ]using h
theorem d4q (n a b):j0 r7 (n+1) 133 [a,b]=b7l i7 NN (j0 r7 n) a b:=Z9 (q:=b7l) (N:=NN) zw n a b
section
variable {T:List UInt8}{c:Nat}{h:Trie VObj}
theorem e5U (hT:T.length<90000)(call):∀(t) (a k) (xs) (r w),T.drop a=t->t.length<k->a<=T.length->r6 xs 12=.int .i64 (.ofNat a)->d8 (go (I9 (c6I i7 NN call (.string ⟨⟨T⟩⟩)) k xs) ⟨c,h,r,w⟩) λy s=>s.c=c/\s.h=h/\∃xs',y=(.exit 0,xs')/\r6 xs' 12=.int .i64 (.ofNat (a+U0 (λb=>!decide (b=10)) t)):=by
 intro t;induction t with
  |nil=>intro a k xs r w hd hk ha h1;obtain⟨k,rfl⟩:∃m,k=m+1:=⟨k-1,zb⟩;have hl:=a1y hd;have e0:decide (Int.ofNat a<Int.ofNat T.length)=false:=xO (λh=>zU);rw[N7];simp(disch:=try exact dz)only[c3W,h1,e0,↓gP,gY];exact d8.done ⟨rfl,rfl,_,rfl,rfl⟩|cons b t ih=>
   intro a k xs r w hd hk ha h1;obtain⟨k,rfl⟩:∃m,k=m+1:=⟨k-1,zb⟩;obtain⟨d1,d2,d3⟩:=a3I hd;have e0:decide (Int.ofNat a<Int.ofNat T.length)=true:=xL (wC.2 d3);have hx:=a0n ⟨⟨T⟩⟩ a b d1;have hinc:=B8 a zy;rw[N7];cases q:decide (b.toNat=10)with
    |true=>simp(disch:=try exact dz)only[c3W,h1,e0,hx,di,q,↓gP,gY,gT];refine d8.done ⟨rfl,rfl,_,rfl,?_⟩;unfold U0;rw[q];rfl|false=>
     simp(disch:=try exact dz)only[c3W,h1,e0,hx,di,q,hinc,↓gP,gY,gT];refine(ih (a+1) k _ _ _ d2 zb zy rfl).mono ?_;rintro y s ⟨f1,f2,xs',f3,f4⟩;refine⟨f1,f2,xs',f3,?_⟩;rw[f4];conv=>rhs;unfold U0
     rw[q];show _=Value.int .i64 (.ofNat (a+(U0 _ t+1)));rw[uq,Nat.add_comm 1]
theorem e5r (hT:T.length<90000)(m){a}(ha:a<=T.length)(r w):d8 (go (j0 r7 (m+1) 133 [.string ⟨⟨T⟩⟩,.int .i64 (.ofNat a)]) ⟨c,h,r,w⟩) λx s=>s.c=c/\s.h=h/\x=.ret (.int .i64 (.ofNat (a+U0 (λb=>!decide (b=10)) (T.drop a)))):=by rw[d4q];have hNN:90001<=NN:=zv;simp(disch:=try exact dz)only[e4Q,↓gP];refine d8.bindJ (e5U hT (j0 r7 m) (T.drop a) a NN [undef,undef,undef,undef,undef,undef,undef,undef,undef,undef,undef,undef,.int .i64 (.ofNat a)] r w rfl (by rw[wM];omega) ha rfl) λy xs' s hq=>?_;obtain⟨c',h',r',w'⟩:=s;obtain⟨f1,f2,xs1,f3,f4⟩:=hq;cases f3;simp(disch:=try exact dz)only[f4,a1d,↓gP,gY];exact d8.done ⟨f1,f2,rfl⟩
end
end Go.Proofs.YtmomonnlmbljoaaGreatDoor
end
section
namespace Go.Proofs.YtmomonnlmbljoaaGreatDoor
open Go.V Go.RowKit Go.Shelf Go.Proofs
variable {mL:Int}
attribute [local congr] m0 l9 n8 n9 q9 m8 s9 A1 A0
theorem b9R (i)(h:i<4294967296):G8 .i64 (Int.ofNat i+Int.ofNat 2)=Int.ofNat (i+2):=a5o .i64 (i+2) (by show i+2<9223372036854775808;omega)
theorem dL (a b):decide (Int.ofNat a<Int.ofNat b)=decide (a<b):=sn.2 wC
theorem dE (a b):decide (Int.ofNat a<=Int.ofNat b)=decide (a<=b):=sn.2 tO
noncomputable def a9U:Nat->List UInt8->Nat->Option Nat|0,_,_=>none|k+1,t,d=>match t with|b0::b1::t'=>bcase (beqBytes [b0,b1] [40,59]) ((a9U k t' (d+1)).map (2+·)) (bcase (beqBytes [b0,b1] [59,41]) (bcase (decide (d=1)) (some 2) ((a9U k t' (d-1)).map (2+·))) ((a9U k (b1::t') d).map (1+·)))|_=>none
noncomputable def c8j:List UInt8->Bool|[]=>false|b::_=>decide (32<=b.toNat)&& !decide (b.toNat=127)
noncomputable def a0a (q:Nat):Nat->List UInt8->Nat->Nat×Nat|0,_,_=>(q,3)|k+1,t,a=>match t with|[]=>(q,3)|b::t=>bcase (decide (b.toNat<32)||decide (b.toNat=127)) (a,4) (bcase (decide (b.toNat=34)) (a+1,0) (bcase (decide (b.toNat=92)&&c8j t) (a0a q k t.tail (a+2)) (a0a q k t (a+1))))
theorem d8h (n a b):j0 r7 (n+1) 134 [a,b]=b7x i7 NN (j0 r7 n) a b:=Z9 (q:=b7x) (N:=NN) zw n a b
theorem d4B (n a b):j0 r7 (n+1) 135 [a,b]=b7u i7 NN (j0 r7 n) a b:=Z9 (q:=b7u) (N:=NN) zw n a b
section
variable {T:List UInt8}{c:Nat}{h:Trie VObj}
theorem e4T (hT:T.length<90000)(call):∀(k e a d) (t) (xs) (r w),T.drop a=t->t.length<=k->a<=T.length->d<90000+a->(d=0->∃t',t=40::59::t')->r6 xs 26=.int .i64 (.ofNat a)->r6 xs 21=.int .i64 (.ofNat d)->d8 (go (I9 (c7d i7 NN call (.string ⟨⟨T⟩⟩)) (k+1+e) xs) ⟨c,h,r,w⟩) λy s=>s.c=c/\s.h=h/\((a9U k t d=none/\∃xs',y=(.exit 0,xs'))\/∃n xs',a9U k t d=some n/\n<=t.length/\y=(.ret,xs')/\r6 xs' 30=.int .i64 (.ofNat (a+n))):=by
 intro k;induction k with
  |zero=>intro e a d t xs r w hd hk ha hd9 hd0 h1 h2;have ht:t=[]:=wP.1 zy;subst ht;have hl:=a1y hd;rw[wm 0 1 e,N7];have hinc:=B8 a zy;have e0:decide (a+1<T.length)=false:=xO zy;simp(disch:=try exact dz)only[b0d,h1,h2,hinc,dL,e0,↓gP,gY];exact d8.done ⟨rfl,rfl,Or.inl ⟨rfl,_,rfl⟩⟩|succ k ih=>
   intro e a d t xs r w hd hk ha hd9 hd0 h1 h2;rw[wm (k+1) 1 e,N7];have hinc:=B8 a zy;match t,hd,hk,hd0 with
    |[],hd,hk,hd0=>have hl:=a1y hd;have e0:decide (a+1<T.length)=false:=xO zy;simp(disch:=try exact dz)only[b0d,h1,h2,hinc,dL,e0,↓gP,gY];exact d8.done ⟨rfl,rfl,Or.inl ⟨rfl,_,rfl⟩⟩|[b0],hd,hk,hd0=>obtain⟨d1,d2,d3⟩:=a3I hd;have hl:=a1y d2;have e0:decide (a+1<T.length)=false:=xO zy;simp(disch:=try exact dz)only[b0d,h1,h2,hinc,dL,e0,↓gP,gY];exact d8.done ⟨rfl,rfl,Or.inl ⟨rfl,_,rfl⟩⟩|b0::b1::t,hd,hk,hd0=>
     obtain⟨d1,d2,d3⟩:=a3I hd;obtain⟨d4,d5,d6⟩:=a3I d2;have e0:decide (a+1<T.length)=true:=xL d6;have htw:=b9R a zy;have hsl:∀kl kh,a4w (.string ⟨⟨T⟩⟩) (some (.int kl (.ofNat a))) (some (.int kh (.ofNat (a+2))))=M.pure (.string ⟨⟨[b0,b1]⟩⟩):=λkl kh=>by
      rw[a3h ⟨⟨T⟩⟩ kl kh a (a+2) zy (by rw[y9];show a+2<=T.length;omega),vi];have e1:z7 T a=b0::b1::t:=by rw[Q8];exact hd
      show M.pure (Value.string ⟨⟨Q2 (z7 T a) 2⟩⟩)=_;rw[e1,a0k];rfl
     simp only[xH]at hk;unfold a9U;cases q1:beqBytes [b0,b1] [40,59]with
      |true=>have hdi:=B8 d zy;have e1:decide (d+1=0)=false:=xO zy;simp(disch:=try exact dz)only[b0d,h1,h2,hinc,htw,hsl,dL,di,e0,q1,hdi,↓gP,gY,gT,Nat.reduceEqDiff];refine(ih e (a+2) (d+1) t _ _ _ d5 zy zy zy zy rfl rfl).mono ?_;rintro y s ⟨f1,f2,⟨f3,f4⟩|⟨n,xs',f3,f4,f5,f6⟩⟩;exact⟨f1,f2,Or.inl ⟨by rw[f3];rfl,f4⟩⟩;exact⟨f1,f2,Or.inr ⟨2+n,xs',by rw[f3];rfl,zo,f5,by rw[f6,uq]⟩⟩|false=>
       have hd1:d≠0:=λe=>by obtain⟨t',ht'⟩:=hd0 e;cases ht';cases q1
       cases q2:beqBytes [b0,b1] [59,41]with
        |true=>obtain⟨d,rfl⟩:∃j,d=j+1:=⟨d-1,zy⟩;have hdd:=a2s d zy;cases q3:decide (d=0)with|true=>have q4:decide (d+1=1)=true:=xL (by have:=wj q3;omega);simp(disch:=try exact dz)only[b0d,h1,h2,hinc,htw,hsl,dL,di,e0,q1,q2,hdd,q3,↓gP,gY,Nat.reduceEqDiff];refine d8.done ⟨rfl,rfl,Or.inr ⟨2,_,?_,zu,rfl,rfl⟩⟩;rfl|false=>have q5:d≠0:=vp q3;have q4:decide (d+1=1)=false:=xO zy;simp(disch:=try exact dz)only[b0d,h1,h2,hinc,htw,hsl,dL,di,e0,q1,q2,hdd,q3,↓gP,gY,Nat.reduceEqDiff];refine(ih e (a+2) d t _ _ _ d5 zy zy zy zy rfl rfl).mono ?_;rw[tD];rintro y s ⟨f1,f2,⟨f3,f4⟩|⟨n,xs',f3,f4,f5,f6⟩⟩;exact⟨f1,f2,Or.inl ⟨by rw[f3];rfl,f4⟩⟩;exact⟨f1,f2,Or.inr ⟨2+n,xs',by rw[f3];rfl,zo,f5,by rw[f6,uq]⟩⟩
        |false=>have q3:decide (d=0)=false:=xO hd1;simp(disch:=try exact dz)only[b0d,h1,h2,hinc,htw,hsl,dL,di,e0,q1,q2,q3,↓gP,gY];refine(ih e (a+1) d (b1::t) _ _ _ d2 zo zy zy (λe=>absurd e hd1) rfl rfl).mono ?_;rintro y s ⟨f1,f2,⟨f3,f4⟩|⟨n,xs',f3,f4,f5,f6⟩⟩;exact⟨f1,f2,Or.inl ⟨by rw[f3];rfl,f4⟩⟩;exact⟨f1,f2,Or.inr ⟨1+n,xs',by rw[f3];rfl,by simp at f4⊢;omega,f5,by rw[f6,uq]⟩⟩
theorem e5a (hT:T.length<90000)(call q):∀(k e a) (t) (xs) (r w),T.drop a=t->t.length<=k->a<=T.length->r6 xs 48=.int .i64 (.ofNat a)->d8 (go (I9 (b4X i7 NN call (.string ⟨⟨T⟩⟩)) (k+1+e) xs) ⟨c,h,r,w⟩) λy s=>s.c=c/\s.h=h/\((a0a q (k+1) t a=(q,3)/\∃xs',y=(.exit 0,xs'))\/∃xs',y=(.ret,xs')/\r6 xs' 19=.int .i64 (.ofNat (a0a q (k+1) t a).1)/\r6 xs' 20=.int .i64 (.ofNat (a0a q (k+1) t a).2)/\((a0a q (k+1) t a).2=0->a<(a0a q (k+1) t a).1/\(a0a q (k+1) t a).1<=T.length)):=by
 intro k;induction k with
  |zero=>intro e a t xs r w hd hk ha h1;have ht:t=[]:=wP.1 zy;subst ht;have hl:=a1y hd;rw[wm 0 1 e,N7];have e0:decide (a<T.length)=false:=xO zy;simp(disch:=try exact dz)only[a6I,h1,dL,e0,↓gP,gY];exact d8.done ⟨rfl,rfl,Or.inl ⟨rfl,_,rfl⟩⟩|succ k ih=>
   intro e a t xs r w hd hk ha h1;rw[wm (k+1) 1 e,N7];cases t with
    |nil=>have hl:=a1y hd;have e0:decide (a<T.length)=false:=xO zy;simp(disch:=try exact dz)only[a6I,h1,dL,e0,↓gP,gY];exact d8.done ⟨rfl,rfl,Or.inl ⟨rfl,_,rfl⟩⟩|cons b t=>
     obtain⟨d1,d2,d3⟩:=a3I hd;have e0:decide (a<T.length)=true:=xL d3;have hx:=a0n ⟨⟨T⟩⟩ a b d1;have hinc:=B8 a zy;simp only[xH]at hk;have eS:a0a q (k+1+1) (b::t) a=bcase (decide (b.toNat<32)||decide (b.toNat=127)) (a,4) (bcase (decide (b.toNat=34)) (a+1,0) (bcase (decide (b.toNat=92)&&c8j t) (a0a q (k+1) t.tail (a+2)) (a0a q (k+1) t (a+1)))):=rfl;rw[eS];have tl:∀{t':List UInt8} {a':Nat} {xs'':List Value} {r' w':List Nat},T.drop a'=t'->t'.length<=k->a<a'->a'<=T.length->r6 xs'' 48=.int .i64 (.ofNat a')->d8 (go (I9 (b4X i7 NN call (.string ⟨⟨T⟩⟩)) (k+1+e) xs'') ⟨c,h,r',w'⟩) λy s=>s.c=c/\s.h=h/\((a0a q (k+1) t' a'=(q,3)/\∃xs',y=(.exit 0,xs'))\/∃xs',y=(.ret,xs')/\r6 xs' 19=.int .i64 (.ofNat (a0a q (k+1) t' a').1)/\r6 xs' 20=.int .i64 (.ofNat (a0a q (k+1) t' a').2)/\((a0a q (k+1) t' a').2=0->a<(a0a q (k+1) t' a').1/\(a0a q (k+1) t' a').1<=T.length)):=λ{t' a' xs'' r' w'} u1 u2 u3 u4 u5=>by refine(ih e a' t' xs'' r' w' u1 u2 u4 u5).mono ?_;rintro y s ⟨f1,f2,f3|⟨xs',f3,f4,f5,f6⟩⟩;exact⟨f1,f2,Or.inl f3⟩;exact⟨f1,f2,Or.inr ⟨xs',f3,f4,f5,λh=>⟨vF u3 (f6 h).1,(f6 h).2⟩⟩⟩
     cases q1:decide (b.toNat<32)||decide (b.toNat=127)with
      |true=>cases q2:decide (b.toNat<32)with|true=>simp(disch:=try exact dz)only[a6I,h1,dL,di,e0,hx,q2,↓gP,gY,gT,Nat.reduceEqDiff];exact d8.done ⟨rfl,rfl,Or.inr ⟨_,rfl,rfl,rfl,λh=>zl⟩⟩|false=>rw[q2,wZ]at q1;simp(disch:=try exact dz)only[a6I,h1,dL,di,e0,hx,q2,q1,↓gP,gY,gT,Nat.reduceEqDiff];exact d8.done ⟨rfl,rfl,Or.inr ⟨_,rfl,rfl,rfl,λh=>zl⟩⟩
      |false=>rw[vE]at q1;obtain⟨q1,q2⟩:=q1;rw[m7];cases q3:decide (b.toNat=34)with|true=>simp(disch:=try exact dz)only[a6I,h1,dL,di,e0,hx,q1,q2,q3,hinc,↓gP,gY,gT];exact d8.done ⟨rfl,rfl,Or.inr ⟨_,rfl,rfl,rfl,λ_=>⟨xG a,d3⟩⟩⟩|false=>rw[m7];cases q4:decide (b.toNat=92)with|false=>simp(disch:=try exact dz)only[a6I,h1,dL,di,e0,hx,q1,q2,q3,q4,hinc,↓gP,gY,gT];exact tl d2 zy (xG a) zy rfl|true=>cases t with|nil=>have hl:=a1y d2;have e1:decide (a+1<T.length)=false:=xO zy;simp(disch:=try exact dz)only[a6I,h1,dL,di,e0,e1,hx,q1,q2,q3,q4,hinc,↓gP,gY,gT];exact tl d2 zy (xG a) zy rfl|cons b1 t1=>obtain⟨d4,d5,d6⟩:=a3I d2;have e1:decide (a+1<T.length)=true:=xL d6;have hx1:=a0n ⟨⟨T⟩⟩ (a+1) b1 d4;have hinc1:=B8 (a+1) zy;simp only[xH]at hk;have eE:c8j (b1::t1)=(decide (32<=b1.toNat)&& !decide (b1.toNat=127)):=rfl;rw[eE];cases q5:decide (32<=b1.toNat)with|false=>simp(disch:=try exact dz)only[a6I,h1,dL,dE,di,e0,e1,hx,hx1,q1,q2,q3,q4,q5,hinc,↓gP,gY,gT];exact tl d2 zo (xG a) zy rfl|true=>cases q6:decide (b1.toNat=127)with|true=>simp(disch:=try exact dz)only[a6I,h1,dL,dE,di,e0,e1,hx,hx1,q1,q2,q3,q4,q5,q6,hinc,↓gP,gY,gT];exact tl d2 zo (xG a) zy rfl|false=>simp(disch:=try exact dz)only[a6I,h1,dL,dE,di,e0,e1,hx,hx1,q1,q2,q3,q4,q5,q6,hinc,hinc1,↓gP,gY,gT];exact tl d5 (by show t1.length<=k;omega) zy zy rfl
end
end Go.Proofs.YtmomonnlmbljoaaGreatDoor
end
section
namespace Go.Proofs.YtmomonnlmbljoaaGreatDoor
open Go.V Go.RowKit Go.Shelf Go.Proofs
variable {mL:Int}
attribute [local congr] m0 l9 n8 n9 q9 m8 s9 A1 A0
def b9N (a:Nat):Option Nat->Value|none=>.int .i64 (.negSucc 0)|some n=>.int .i64 (.ofNat (a+n))
noncomputable def nlB (b:Nat):Bool:=!decide (b=10)
noncomputable def wsB (b:Nat):Bool:=decide (b=32)||(decide (b=9)||(decide (b=10)||decide (b=13)))
noncomputable def a4Q:List UInt8->Option Nat|[]=>some 0|b::t=>bcase (wsB b.toNat) (some 1) (match t with|[]=>some 0|b1::t1=>bcase (beqBytes [b,b1] [59,59]) (some (U0 nlB (b::b1::t1))) (bcase (beqBytes [b,b1] [40,59]) (a9U (t1.length+2) (b::b1::t1) 0) (some 0)))
inductive Tk where
 | ok (k:Nat) (W:List UInt8) (e:Nat)
 | er (p e:Nat)
noncomputable def a3M (a:Nat):List UInt8->Tk|[]=>.er a 4|b::t=>bcase (decide (b.toNat=40)) (.ok 0 [] (a+1)) (bcase (decide (b.toNat=41)) (.ok 1 [] (a+1)) (bcase (decide (b.toNat=34)) (bcase (decide ((a0a a (t.length+1) t (a+1)).2=0)) (.ok 3 (t.take ((a0a a (t.length+1) t (a+1)).1-1-(a+1))) (a0a a (t.length+1) t (a+1)).1) (.er (a0a a (t.length+1) t (a+1)).1 (a0a a (t.length+1) t (a+1)).2)) (bcase (decide (U0 sgN (b::t)=0)) (.er a 4) (.ok 2 ((b::t).take (U0 sgN (b::t))) (a+U0 sgN (b::t))))))
theorem b7L (p):∀t,U0 p t<=t.length:=by intro t;induction t with|nil=>exact xR _|cons b t ih=>unfold U0;cases p b.toNat with|true=>exact Nat.succ_le_succ ih|false=>exact wR _
theorem d8Y (n a b):j0 r7 (n+1) 104 [a,b]=b7a i7 NN (j0 r7 n) a b:=Z9 (q:=b7a) (N:=NN) zw n a b
theorem d6v (n a b):j0 r7 (n+1) 105 [a,b]=b6H i7 NN (j0 r7 n) a b:=Z9 (q:=b6H) (N:=NN) zw n a b
theorem c5N (n)(b:UInt8):j0 r7 (n+1) 136 [.int .u8 (.ofNat b.toNat)]=M.pure (.ret (.bool (sgN b.toNat))):=U7 (q:=a3b qSg) zw n (b2p qSg b)
section
variable {T:List UInt8}{c:Nat}{h:Trie VObj}
theorem e5w (hT:T.length<90000)(m){a t1}(hd:T.drop a=40::59::t1)(r w):d8 (go (j0 r7 (m+1) 134 [.string ⟨⟨T⟩⟩,.int .i64 (.ofNat a)]) ⟨c,h,r,w⟩) λx s=>s.c=c/\s.h=h/\x=.ret (b9N a (a9U (t1.length+2) (40::59::t1) 0))/\∀n,a9U (t1.length+2) (40::59::t1) 0=some n->a+n<=T.length:=by rw[d8h];obtain⟨d1,d2,d3⟩:=a3I hd;have hNN:90002<=NN:=zv;have hlen:=xC List.length hd;simp only[wM,xH]at hlen;obtain⟨e,hNe⟩:∃e,NN=(t1.length+2)+1+e:=⟨NN-((t1.length+2)+1),zy⟩;simp(disch:=try exact dz)only[e5E,↓gP];have hloop:=e4T (c:=c) (h:=h) hT (j0 r7 m) (t1.length+2) e a 0 (40::59::t1) [undef,undef,undef,undef,undef,undef,undef,undef,undef,undef,undef,undef,undef,undef,undef,undef,undef,undef,undef,undef,undef,.int .i64 (.ofNat 0),undef,undef,undef,undef,.int .i64 (.ofNat a),undef,undef,undef,.int .i64 (.ofNat 0)] r w hd zu zy zy (λ_=>⟨_,rfl⟩) rfl rfl;rw[<-hNe]at hloop;refine d8.bindJ hloop λy xs' s hq=>?_;obtain⟨c',h',r',w'⟩:=s;obtain⟨f1,f2,⟨f3,xs1,f4⟩|⟨n,xs1,f3,f4,f5,f6⟩⟩:=hq;cases f4;rw[f3];simp(disch:=try exact dz)only[a1d,↓gP,gY];exact d8.done ⟨f1,f2,rfl,λn h=>zl⟩;cases f5;rw[f3];simp(disch:=try exact dz)only[f6,↓gP,gY];exact d8.done ⟨f1,f2,rfl,λn' h=>by cases h;simp only[xH]at f4;omega⟩
theorem e4A (hT:T.length<90000)(m){a t}(hd:T.drop (a+1)=t)(ha:a<T.length)(r w):d8 (go (j0 r7 (m+1) 135 [.string ⟨⟨T⟩⟩,.int .i64 (.ofNat a)]) ⟨c,h,r,w⟩) λx s=>s.c=c/\s.h=h/\x=.ret (.tuple ⟨[.int .i64 (.ofNat (a0a a (t.length+1) t (a+1)).1),.int .i64 (.ofNat (a0a a (t.length+1) t (a+1)).2)]⟩)/\((a0a a (t.length+1) t (a+1)).2=0->a+1<(a0a a (t.length+1) t (a+1)).1/\(a0a a (t.length+1) t (a+1)).1<=T.length):=by rw[d4B];have hNN:90002<=NN:=zv;have hlen:=xC List.length hd;simp only[wM]at hlen;obtain⟨e,hNe⟩:∃e,NN=t.length+1+e:=⟨NN-(t.length+1),zy⟩;have hinc:=B8 a zy;simp(disch:=try exact dz)only[e5h,hinc,↓gP,gY];have hloop:=e5a (c:=c) (h:=h) hT (j0 r7 m) a t.length e (a+1) t [undef,undef,undef,undef,undef,undef,undef,undef,undef,undef,undef,undef,undef,undef,undef,undef,undef,undef,undef,.int .i64 (.ofNat 0),.int .i64 (.ofNat 0),undef,undef,undef,undef,undef,undef,undef,undef,undef,undef,undef,undef,undef,undef,undef,undef,undef,undef,undef,undef,undef,undef,undef,undef,undef,undef,undef,.int .i64 (.ofNat (a+1))] r w hd (xR _) zy rfl;rw[<-hNe]at hloop;refine d8.bindJ hloop λy xs' s hq=>?_;obtain⟨c',h',r',w'⟩:=s;obtain⟨f1,f2,⟨f3,xs1,f4⟩|⟨xs1,f3,f4,f5,f6⟩⟩:=hq;cases f4;rw[f3];simp(disch:=try exact dz)only[a1d,↓gP,gY,Nat.reduceEqDiff];exact d8.done ⟨f1,f2,rfl,λh=>zl⟩;cases f3;simp(disch:=try exact dz)only[f4,f5,↓gP,gY];exact d8.done ⟨f1,f2,rfl,f6⟩
theorem e4W (hT:T.length<90000)(m){a b t}(hd:T.drop a=b::t)(r w):d8 (go (j0 r7 (m+2) 104 [.string ⟨⟨T⟩⟩,.int .i64 (.ofNat a)]) ⟨c,h,r,w⟩) λx s=>s.c=c/\s.h=h/\x=.ret (b9N a (a4Q (b::t)))/\∀n,a4Q (b::t)=some n->a+n<=T.length:=by
 rw[d8Y];obtain⟨d1,d2,d3⟩:=a3I hd;have hx:=a0n ⟨⟨T⟩⟩ a b d1;have hinc:=B8 a zy;have htw:=b9R a zy;have one:∀n,some 1=some n->a+n<=T.length:=λn h=>by cases h;omega
 have zero:∀n,some 0=some n->a+n<=T.length:=λn h=>by cases h;omega
 unfold a4Q wsB;cases q1:decide (b.toNat=32)with
  |true=>simp(disch:=try exact dz)only[b1o,hx,hinc,di,q1,↓gP,gY,gT];exact d8.done ⟨rfl,rfl,rfl,one⟩|false=>
   cases q2:decide (b.toNat=9)with
    |true=>simp(disch:=try exact dz)only[b1o,hx,hinc,di,q1,q2,↓gP,gY,gT];exact d8.done ⟨rfl,rfl,rfl,one⟩|false=>
     cases q3:decide (b.toNat=10)with
      |true=>simp(disch:=try exact dz)only[b1o,hx,hinc,di,q1,q2,q3,↓gP,gY,gT];exact d8.done ⟨rfl,rfl,rfl,one⟩|false=>
       cases q4:decide (b.toNat=13)with
        |true=>simp(disch:=try exact dz)only[b1o,hx,hinc,di,q1,q2,q3,q4,↓gP,gY,gT];exact d8.done ⟨rfl,rfl,rfl,one⟩|false=>
         cases t with
          |nil=>have hl:=a1y d2;have e1:decide (a+1<T.length)=false:=xO zy;simp(disch:=try exact dz)only[b1o,hx,hinc,di,dL,q1,q2,q3,q4,e1,↓gP,gY,gT];exact d8.done ⟨rfl,rfl,rfl,zero⟩|cons b1 t1=>
           obtain⟨d4,d5,d6⟩:=a3I d2;have e1:decide (a+1<T.length)=true:=xL d6;have hsl:∀kl kh,a4w (.string ⟨⟨T⟩⟩) (some (.int kl (.ofNat a))) (some (.int kh (.ofNat (a+2))))=M.pure (.string ⟨⟨[b,b1]⟩⟩):=λkl kh=>by
            rw[a3h ⟨⟨T⟩⟩ kl kh a (a+2) zy (by rw[y9];show a+2<=T.length;omega),vi];have e1:z7 T a=b::b1::t1:=by rw[Q8];exact hd
            show M.pure (Value.string ⟨⟨Q2 (z7 T a) 2⟩⟩)=_;rw[e1,a0k];rfl
           cases q5:beqBytes [b,b1] [59,59]with|true=>simp(disch:=try exact dz)only[b1o,hx,hinc,htw,hsl,di,dL,q1,q2,q3,q4,e1,q5,↓gP,gY,gT];refine d8.bindC (e5r hT m zy _ _) λx s hq=>?_;obtain⟨f1,f2,rfl⟩:=hq;obtain⟨c',h',r',w'⟩:=s;simp(disch:=try exact dz)only[gY];refine d8.done ⟨f1,f2,?_,λn h=>?_⟩;rw[hd];rfl;cases h;have h7:=b7L nlB (b::b1::t1);have hlen:=xC List.length hd;simp only[wM,xH]at hlen h7;omega|false=>cases q6:beqBytes [b,b1] [40,59]with|true=>have hb:=a2Q q6;cases hb;simp(disch:=try exact dz)only[b1o,hx,hinc,htw,hsl,di,dL,q1,q2,q3,q4,e1,q5,q6,↓gP,gY,gT];refine d8.bindC (e5w hT m hd _ _) λx s hq=>?_;obtain⟨f1,f2,rfl,f4⟩:=hq;obtain⟨c',h',r',w'⟩:=s;simp(disch:=try exact dz)only[gY];exact d8.done ⟨f1,f2,rfl,f4⟩|false=>simp(disch:=try exact dz)only[b1o,hx,hinc,htw,hsl,di,dL,q1,q2,q3,q4,e1,q5,q6,↓gP,gY,gT];exact d8.done ⟨rfl,rfl,rfl,zero⟩
end
end Go.Proofs.YtmomonnlmbljoaaGreatDoor
end
section
namespace Go.Proofs.YtmomonnlmbljoaaGreatDoor
open Go.V Go.RowKit Go.Shelf Go.Proofs
attribute [local congr] m0 l9 n8 n9 q9 m8 s9 A1 A0
section
variable {T:List UInt8}{c:Nat}{h:Trie VObj}
theorem e5N (hT:T.length<90000)(m):∀(t) (a k) (xs) (c) (h) (r w),T.drop a=t->t.length<k->a<=T.length->r6 xs 12=.int .i64 (.ofNat a)->d8 (go (I9 (c5Q i7 NN (j0 r7 (m+1)) (.string ⟨⟨T⟩⟩)) k xs) ⟨c,h,r,w⟩) λy s=>s.c=c/\s.h=h/\∃xs',y=(.exit 0,xs')/\r6 xs' 12=.int .i64 (.ofNat (a+U0 sgN t)):=by
 intro t;induction t with
  |nil=>intro a k xs c h r w hd hk ha h1;obtain⟨k,rfl⟩:∃m,k=m+1:=⟨k-1,zb⟩;have hl:=a1y hd;have e0:decide (a<T.length)=false:=xO zy;rw[N7];simp(disch:=try exact dz)only[c4p,h1,dL,e0,↓gP,gY];exact d8.done ⟨rfl,rfl,_,rfl,rfl⟩|cons b t ih=>
   intro a k xs c h r w hd hk ha h1;obtain⟨k,rfl⟩:∃m,k=m+1:=⟨k-1,zb⟩;obtain⟨d1,d2,d3⟩:=a3I hd;have e0:decide (a<T.length)=true:=xL d3;have hx:=a0n ⟨⟨T⟩⟩ a b d1;have hinc:=B8 a zy;rw[N7];cases q:sgN b.toNat with
    |false=>simp(disch:=try exact dz)only[c4p,h1,dL,e0,hx,c5N,q,↓gP,gY];refine d8.done ⟨rfl,rfl,_,rfl,?_⟩;unfold U0;rw[q];rfl|true=>
     simp(disch:=try exact dz)only[c4p,h1,dL,e0,hx,c5N,q,hinc,↓gP,gY];refine(ih (a+1) k _ c h _ _ d2 zb zy rfl).mono ?_;rintro y s ⟨f1,f2,xs',f3,f4⟩;refine⟨f1,f2,xs',f3,?_⟩;rw[f4];conv=>rhs;unfold U0
     rw[q];show _=Value.int .i64 (.ofNat (a+(U0 _ t+1)));rw[uq,Nat.add_comm 1]
def tkV (a:Nat):Tk->List Value|.ok k W e=>[.agg ⟨[.int .i64 (.ofNat k),.int .i64 (.ofNat a),.string ⟨⟨W⟩⟩]⟩,.int .i64 (.ofNat e),.int .i64 (.ofNat 0)]|.er p e=>[.agg ⟨[.int .i64 (.ofNat 0),.int .i64 (.ofNat 0),.string ⟨⟨[]⟩⟩]⟩,.int .i64 (.ofNat p),.int .i64 (.ofNat e)]
def Tk.fine (a n:Nat):Tk->Prop|.ok k W e=>a<e/\e<=n/\k<4|.er _ e=>e≠0
theorem e5Y (hT:T.length<90000)(m){a b t}(hd:T.drop a=b::t)(r w):d8 (go (j0 r7 (m+2) 105 [.string ⟨⟨T⟩⟩,.int .i64 (.ofNat a)]) ⟨c,h,r,w⟩) λx s=>c<=s.c/\(∀i,i<c->s.h.get i=h.get i)/\x=.ret (.tuple ⟨tkV a (a3M a (b::t))⟩)/\(a3M a (b::t)).fine a T.length:=by
 rw[d6v];obtain⟨d1,d2,d3⟩:=a3I hd;have hx:=a0n ⟨⟨T⟩⟩ a b d1;have hinc:=B8 a zy;have hlen:=xC List.length hd;simp only[wM,xH]at hlen;unfold a3M;cases q1:decide (b.toNat=40)with
  |true=>simp(disch:=try exact dz)only[c4V,hx,hinc,di,q1,↓gP,gY];refine d8.done ⟨wy c,λi hi=>?_,rfl,xG a,d3,zv⟩;have k1:i≠c:=zy;simp(disch:=first|assumption|omega)only[c9]|false=>
   cases q2:decide (b.toNat=41)with
    |true=>simp(disch:=try exact dz)only[c4V,hx,hinc,di,q1,q2,↓gP,gY];refine d8.done ⟨wy c,λi hi=>?_,rfl,xG a,d3,zv⟩;have k1:i≠c:=zy;simp(disch:=first|assumption|omega)only[c9]|false=>
     cases q3:decide (b.toNat=34)with
      |true=>
       simp(disch:=try exact dz)only[c4V,hx,hinc,di,q1,q2,q3,↓gP,gY];refine d8.bindC (e4A hT m d2 d3 _ _) λx s hq=>?_;obtain⟨f1,f2,rfl,f4⟩:=hq;obtain⟨c',h',r',w'⟩:=s;simp only at f1 f2;subst f1;subst f2;cases q4:decide ((a0a a (t.length+1) t (a+1)).2=0)with
        |true=>
         have q5:=wj q4;obtain⟨f5,f6⟩:=f4 q5;obtain⟨z,hz⟩:∃z,(a0a a (t.length+1) t (a+1)).1=z+1:=⟨(a0a a (t.length+1) t (a+1)).1-1,zy⟩;have hdec:=a2s z zy;have hsl:∀kl kh,a4w (.string ⟨⟨T⟩⟩) (some (.int kl (.ofNat (a+1)))) (some (.int kh (.ofNat z)))=M.pure (.string ⟨⟨t.take (z-(a+1))⟩⟩):=λkl kh=>by
          rw[a3h ⟨⟨T⟩⟩ kl kh (a+1) z zy (by rw[y9];show z<=T.length;omega)];have e1:z7 T (a+1)=t:=by rw[Q8];exact d2
          show M.pure (Value.string ⟨⟨Q2 (z7 T (a+1)) (z-(a+1))⟩⟩)=_;rw[e1,a0k]
         simp(disch:=try exact dz)only[q5,hz,hdec,hsl,↓gP,gY,gT];refine d8.done ⟨wy c,λi hi=>?_,?_,?_⟩;have k1:i≠c:=zy;simp(disch:=first|assumption|omega)only[c9];rfl;exact⟨zy,zy,zv⟩|false=>have q5:=vp q4;simp(disch:=try exact dz)only[di,q4,↓gP,gY,gT];refine d8.done ⟨wy c,λi hi=>?_,rfl,q5⟩;have k1:i≠c:=zy;simp(disch:=first|assumption|omega)only[c9]
      |false=>
       have hNN:90002<=NN:=zv;simp(disch:=try exact dz)only[c4V,hx,hinc,di,q1,q2,q3,↓gP,gY];refine d8.bindJ (e5N hT m (b::t) a NN _ _ _ _ _ hd (by simp only[xH];omega) zy rfl) λy xs' s hq=>?_;obtain⟨c',h',r',w'⟩:=s;obtain⟨f1,f2,xs1,f3,f4⟩:=hq;cases f3;simp only at f1 f2;subst f1;subst f2;have h7:=b7L sgN (b::t);simp only[xH]at h7;cases q4:decide (U0 sgN (b::t)=0)with
        |true=>have q5:decide (a+U0 sgN (b::t)=a)=true:=xL (by have:=wj q4;omega);simp(disch:=try exact dz)only[f4,di,q5,a1d,↓gP,gY];refine d8.done ⟨wy c,λi hi=>?_,rfl,by show 4≠0;decide⟩;have k1:i≠c:=zy;simp(disch:=first|assumption|omega)only[c9]|false=>
         have q6:=vp q4;have q5:decide (a+U0 sgN (b::t)=a)=false:=xO zy;have hsl:∀kl kh,a4w (.string ⟨⟨T⟩⟩) (some (.int kl (.ofNat a))) (some (.int kh (.ofNat (a+U0 sgN (b::t)))))=M.pure (.string ⟨⟨(b::t).take (U0 sgN (b::t))⟩⟩):=λkl kh=>by
          rw[a3h ⟨⟨T⟩⟩ kl kh a (a+U0 sgN (b::t)) zy (by rw[y9];show a+U0 sgN (b::t)<=T.length;omega),vi];have e1:z7 T a=b::t:=by rw[Q8];exact hd
          show M.pure (Value.string ⟨⟨Q2 (z7 T a) (U0 sgN (b::t))⟩⟩)=_;rw[e1,a0k]
         simp(disch:=try exact dz)only[f4,di,q5,a1d,hsl,↓gP,gY];refine d8.done ⟨wy c,λi hi=>?_,rfl,?_⟩;have k1:i≠c:=zy;simp(disch:=first|assumption|omega)only[c9];exact⟨zy,zy,zv⟩
end
end Go.Proofs.YtmomonnlmbljoaaGreatDoor
end
section
namespace Go.Proofs.YtmomonnlmbljoaaGreatDoor
open Go.V Go.RowKit Go.Shelf Go.Proofs
variable {mL:Int}
attribute [local congr] m0 l9 n8 n9 q9 m8 s9 A1 A0
theorem d4e:b4i.size=3:=zw
theorem d2R:Nat.blt b4i.bytes 4096=true:=zw
structure Tok where
 k:Nat
 p:Nat
 t:List UInt8
def b2A (x:Tok):List Value:=[.int .i64 (.ofNat x.k),.int .i64 (.ofNat x.p),.string ⟨⟨x.t⟩⟩]
inductive Lx where
 | ok (l:List Tok)
 | er (p e:Nat)
noncomputable def a3Z (T:List UInt8):Nat->Nat->List Tok->Lx|0,_,_=>.er 0 1|k+1,a,l=>match T.drop a with|[]=>.ok (l++[⟨4,T.length,[]⟩])|b::t=>match a4Q (b::t)with|none=>.er a 3|some (n+1)=>a3Z T k (a+(n+1)) l|some 0=>match a3M a (b::t)with|.er p e=>.er p e|.ok q W e=>a3Z T k e (l++[⟨q,a,W⟩])
theorem b6j:∀bs:List Tok,(bs.flatMap b2A).length=bs.length*3:=yN
theorem e2u (n a):j0 r7 (n+1) 64 [a]=c3r i7 NN (j0 r7 n) a:=O0 (q:=c3r) (N:=NN) zw n a
structure LI (c0:Nat) (h0:Trie VObj) (c:Nat) (h:Trie VObj) (u:Sl) (l:List Tok):Prop where
 le:c0≤c
 fr:∀ i,i<c0→h.get i=h0.get i
 g:K9 3 c h u (l.flatMap b2A)
 o:∀ i,u.own i→c0≤i
theorem LI.n {c0 c h0 h u l}(H:LI c0 h0 c h u l):u.n=l.length:=by have:=H.g.1;rw[b6j]at this;omega
theorem LI.app {β c0 c h0 h u l x b}{f:Value->M β}{Q r w}(H:LI c0 h0 c h u l)(hl:l.length<100000)(b2:b<c)(hb:h.get b=some (.cells [(.int .i64 (.ofNat x.k),0),(.int .i64 (.ofNat x.p),0),(.string ⟨⟨x.t⟩⟩,0)] 0 false))(k:∀(u') (c') (h') (r' w'),LI c0 h0 c' h' u' (l++[x])->d8 (go (f (.slice u'.a u'.n u'.e)) ⟨c',h',r',w'⟩) Q):d8 (H7 (go (a2B b4i (.slice u.a u.n u.e) (.slice (some ⟨b,0,some 0⟩) 1 3)) ⟨c,h,r,w⟩) f) Q:=by have hn:=H.n;refine d8.bindS (a0V (x:=⟨some ⟨b,0,some 0⟩,1,3⟩) (xs:=b2A x) d4e zv d2R H.g ⟨rfl,Or.inr ⟨b,0,0,_,0,false,rfl,rfl,b2,hb,rfl⟩⟩ rfl zc r w) λy s hq=>?_;obtain⟨c',h',r',w'⟩:=s;obtain⟨u',rfl,hn',hg,hc,hs1,hown,hww⟩:=hq;have hc:c<=c':=hc;have le:=H.le;refine k u' c' h' r' w' ⟨zy,λi hi=>?_,?_,λi hi=>?_⟩;exact(hs1 i zy λho=>by have:=H.o i ho;omega).trans (H.fr i hi);rw[vv,vA];exact hg;rcases wK i c with k1|k1;exact H.o i (hown i k1 hi);omega
theorem LI.to {c0 c h0 h u l}(H:LI c0 h0 c h u l){c' h'}(hc:c<=c')(hs:∀i,i<c->h'.get i=h.get i):LI c0 h0 c' h' u l:=⟨wg H.le hc,λi hi=>(hs i (xI hi H.le)).trans (H.fr i hi),H.g.mono hc λb k _=>hs b k,H.o⟩
section
variable {T:List UInt8}{c0:Nat}{h0:Trie VObj}
def e6q (c0:Nat)(h0:Trie VObj)(T:List UInt8)(lx:Lx)(y:Xc×List Value)(s:V.S):Prop:=(∃xs' u l,y=(.exit 0,xs')/\r6 xs' 36=.slice u.a u.n u.e/\LI c0 h0 s.c s.h u l/\l.length<=T.length/\lx=.ok (l++[⟨4,T.length,[]⟩]))\/(∃xs' p e,y=(.ret,xs')/\r6 xs' 29=.slice none 0 0/\r6 xs' 30=.int .i64 (.ofNat p)/\r6 xs' 31=.int .i64 (.ofNat e)/\c0<=s.c/\(∀i,i<c0->s.h.get i=h0.get i)/\lx=.er p e/\e≠0)
theorem n64 (hT:T.length<90000)(m):∀(k e a) (c) (h) (u) (l) (xs) (r w),T.length-a<k->a<=T.length->l.length<=a->LI c0 h0 c h u l->r6 xs 38=.int .i64 (.ofNat a)->r6 xs 36=.slice u.a u.n u.e->d8 (go (I9 (d1p i7 NN (j0 r7 (m+2)) (.string ⟨⟨T⟩⟩)) (k+e) xs) ⟨c,h,r,w⟩) (e6q c0 h0 T (a3Z T k a l)):=by
 intro k;induction k with
  |zero=>intro e a c h u l xs r w hk;omega|succ k ih=>
   intro e a c h u l xs r w hk ha hla H h1 h2;rw[wm k 1 e,N7];cases hd:T.drop a with
    |nil=>
     have hl:=a1y hd;have e0:decide (a<T.length)=false:=xO zy;have eS:a3Z T (k+1) a l=.ok (l++[⟨4,T.length,[]⟩]):=by show(match T.drop a with|[]=>_|b::t=>_)=_;rw[hd]
     rw[eS];simp(disch:=try exact dz)only[d7w,h1,h2,dL,e0,↓gP,gY];exact d8.done (Or.inl ⟨_,u,l,rfl,rfl,H,zy,rfl⟩)|cons b t=>
     obtain⟨d1,d2,d3⟩:=a3I hd;have e0:decide (a<T.length)=true:=xL d3;have eS:a3Z T (k+1) a l=(match a4Q (b::t)with|none=>.er a 3|some (n+1)=>a3Z T k (a+(n+1)) l|some 0=>match a3M a (b::t)with|.er p e=>.er p e|.ok q W e=>a3Z T k e (l++[⟨q,a,W⟩])):=by show(match T.drop a with|[]=>_|b::t=>_)=_;rw[hd]
     rw[eS];simp(disch:=try exact dz)only[d7w,h1,h2,dL,e0,↓gP,gY];refine d8.bindC (e4W hT m hd _ _) λx s hq=>?_;obtain⟨c1,h1',r1,w1⟩:=s;obtain⟨f1,f2,rfl,f4⟩:=hq;simp only at f1 f2;subst f1;subst f2;cases q1:a4Q (b::t)with
      |none=>have e1:decide (Int.negSucc 0<Int.ofNat 0)=true:=xK rfl rfl;simp(disch:=try exact dz)only[b9N,e1,↓gP,gY];exact d8.done (Or.inr ⟨_,a,3,rfl,rfl,rfl,rfl,H.le,H.fr,rfl,zv⟩)|some n=>
       have hn:=f4 n q1;have e1:∀z:Nat,decide (Int.ofNat z<Int.ofNat 0)=false:=λz=>xO (λh=>zU);cases n with
        |succ n=>have e2:decide (a<a+(n+1))=true:=xL zy;simp(disch:=try exact dz)only[b9N,e1,dL,e2,↓gP,gY];exact ih e (a+(n+1)) c1 h1' u l _ _ _ zy hn zy H rfl rfl|zero=>
         have e2:decide (a<a)=false:=xO (wD a);simp(disch:=try exact dz)only[b9N,wV,e1,dL,e2,↓gP,gY];refine d8.bindC (e5Y hT m hd _ _) λx s hq=>?_;obtain⟨c2,h2',r2,w2⟩:=s;obtain⟨g1,g2,rfl,g4⟩:=hq;have g1:c1<=c2:=g1;have H2:=H.to g1 g2;cases q2:a3M a (b::t)with
          |er p e'=>
           rw[q2]at g4;have q3:decide (e'=0)=false:=xO g4;simp(disch:=try exact dz)only[tkV,di,q3,↓gP,gY,gT];refine d8.done (Or.inr ⟨_,p,e',rfl,rfl,rfl,rfl,?_,λi hi=>?_,rfl,g4⟩);have:=H2.le;dsimp only;omega;have k1:i≠c2:=by have:=H2.le;omega
           simp(disch:=first|assumption|omega)only[c9];exact H2.fr i hi|ok q W e'=>rw[q2]at g4;obtain⟨g5,g6,g7⟩:=g4;simp(disch:=try exact dz)only[tkV,↓gP,gY,gT];refine LI.app (x:=⟨q,a,W⟩) (H2.to zy λi hi=>?_) zy (xG _) (d9 _ _ _) λu' c' h' r' w' H3=>?_;have k1:i≠c2:=zy;have k2:i≠c2+1:=zy;simp(disch:=first|assumption|omega)only[c9];simp(disch:=try exact dz)only[↓gP,gY];refine ih e e' c' h' u' (l++[⟨q,a,W⟩]) _ _ _ zy g6 zo H3 ?_ ?_;rfl;rfl
theorem t64 (hT:T.length<90000)(m r w):d8 (go (j0 r7 (m+3) 64 [.string ⟨⟨T⟩⟩]) ⟨c0,h0,r,w⟩) λx s=>c0<=s.c/\(∀i,i<c0->s.h.get i=h0.get i)/\((∃l u,a3Z T (T.length+1) 0 []=.ok l/\x=.ret (.tuple ⟨[.slice u.a u.n u.e,.int .i64 (.ofNat 0),.int .i64 (.ofNat 0)]⟩)/\LI c0 h0 s.c s.h u l/\l.length<=T.length+1)\/(∃p e,a3Z T (T.length+1) 0 []=.er p e/\e≠0/\x=.ret (.tuple ⟨[.slice none 0 0,.int .i64 (.ofNat p),.int .i64 (.ofNat e)]⟩))):=by rw[e2u];have hNN:90002<=NN:=zv;obtain⟨e,hNe⟩:∃e,NN=T.length+1+e:=⟨NN-(T.length+1),zy⟩;have e0:decide (Int.ofNat 1048576<Int.ofNat T.length)=false:=xO (λh=>zU);simp(disch:=try exact dz)only[G64,e0,↓gP,gY];have hloop:=n64 (c0:=c0) (h0:=h0) hT m (T.length+1) e 0 c0 h0 ⟨none,0,0⟩ [] [undef,undef,undef,undef,undef,undef,undef,undef,undef,undef,undef,undef,undef,undef,undef,undef,undef,undef,undef,undef,undef,undef,undef,undef,undef,undef,undef,undef,undef,.slice none 0 0,.int .i64 (.ofNat 0),.int .i64 (.ofNat 0),undef,undef,undef,undef,.slice none 0 0,undef,.int .i64 (.ofNat 0)] r w zy (wR _) (xR _) ⟨xR _,λ_ _=>rfl,K9.nil _ _ _,λi hi=>(by obtain⟨a,h,_⟩:=hi;cases h)⟩ rfl rfl;rw[<-hNe]at hloop;refine d8.bindJ hloop λy xs' s hq=>?_;obtain⟨c',h',r',w'⟩:=s;rcases hq with⟨xs1,u,l,f1,f2,H,f4,f5⟩|⟨xs1,p,e,f1,f2,f3,f4,f5,f6,f7,f8⟩;cases f1;simp(disch:=try exact dz)only[f2,a1d,↓gP,gY];refine LI.app (x:=⟨4,T.length,[]⟩) (H.to (wy _) λi hi=>c9 (by dsimp only at hi;omega)) zy (xG _) (d9 _ _ _) λu' c2 h2 r2 w2 H2=>?_;simp(disch:=try exact dz)only[gY];exact d8.done ⟨H2.le,H2.fr,Or.inl ⟨_,u',f5,rfl,H2,zo⟩⟩;cases f1;simp(disch:=try exact dz)only[f2,f3,f4,↓gP,gY];exact d8.done ⟨f5,f6,Or.inr ⟨p,e,f7,f8,rfl⟩⟩
end
end Go.Proofs.YtmomonnlmbljoaaGreatDoor
end
section
namespace Go.Proofs.YtmomonnlmbljoaaGreatDoor
open Go.V Go.RowKit Go.Shelf Go.Proofs
variable {mL:Int}
attribute [local congr] m0 l9 n8 n9 q9 m8 s9 A1 A0
theorem d2y:b3s.size=4:=zw
theorem d2q:Nat.blt b3s.bytes 4096=true:=zw
theorem d3M:b6O.size=4:=zw
theorem d2V:Nat.blt b6O.bytes 4096=true:=zw
inductive Rd where
 | ok (l:List Nd) (i:Nat)
 | er (p e:Nat)
noncomputable def a9F (i deep op:Nat)(acc:List Nd):Rd:=bcase (decide (deep=0)) (.ok acc i) (.er op 3)
noncomputable def Z4 (ts:List Tok):Nat->Nat->Nat->Nat->List Nd->Rd|0,_,_,_,_=>.er 0 1|k+1,i,deep,op,acc=>match ts[i]? with|none=>a9F i deep op acc|some t=>bcase (decide (t.k=4)) (a9F i deep op acc) (bcase (decide (t.k=1)) (bcase (decide (deep=0)) (.er t.p 4) (.ok acc (i+1))) (bcase (decide (t.k=0)) (bcase (decide (deep=200)) (.er t.p 6) (match Z4 ts k (i+1) (deep+1) t.p []with|.er p e=>.er p e|.ok l j=>Z4 ts k j deep op (acc++[.mk 0 t.p [] l]))) (Z4 ts k (i+1) deep op (acc++[.mk t.k t.p t.t []]))))
theorem b2q {g}:∀(cs) (n j m) (vs),j8 g cs n=some vs->j+m<=n->j8 g (z7 cs j) m=some ((vs.drop j).take m):=by
 intro cs;induction cs with
  |nil=>intro n j m vs h hj;cases n with|zero=>have:j=0:=zy;subst this;have:m=0:=zy;subst this;rw[J7,I6];rfl|succ n=>cases h
  |cons c cs ih=>
   intro n j m vs h hj;obtain⟨y,st⟩:=c;cases n with
    |zero=>have:j=0:=zy;subst this;have:m=0:=zy;subst this;rw[I6];rfl|succ n=>
     have h':(match Nat.ble st g with|true=>(match j8 g cs n with|some vs=>some (y::vs)|none=>none)|false=>none)=some vs:=h;cases q1:Nat.ble st g with
      |false=>rw[q1]at h';cases h'|true=>
       rw[q1]at h';cases q2:j8 g cs n with
        |none=>rw[q2]at h';cases h'|some vs'=>
         rw[q2]at h';cases h';cases j with
          |zero=>cases m with|zero=>rw[I6];rfl|succ m=>have:=ih n 0 m vs' q2 zy;rw[J7]at this⊢;show(match Nat.ble st g with|true=>(match j8 g cs m with|some vs=>some (y::vs)|none=>none)|false=>none)=_;rw[q1,this];rfl
          |succ j=>show j8 g (z7 cs j) m=_;exact ih n j m vs' q2 zy
theorem a9V {α:Type}(f:α->List Value)(sz)(hf:∀x,(f x).length=sz):∀(l:List α) (i) (x),l[i]?=some x->((l.flatMap f).drop (i*sz)).take sz=f x/\i*sz+sz<=(l.flatMap f).length:=by
 intro l;induction l with
  |nil=>intro i x h;cases h|cons y l ih=>
   intro i x h;rw[wW];cases i with
    |zero=>cases h;rw[vW,vK,tN (by rw[hf];exact xR _),uz (by rw[hf];exact xR _),xE,hf];exact⟨rfl,zy⟩|succ i=>
     obtain⟨h1,h2⟩:=ih i x h;have e:(i+1)*sz=(f y).length+i*sz:=by rw[hf,vJ];omega
     rw[e,List.drop_append,uC zy,vi,wQ,h1,xE];exact⟨rfl,zy⟩
theorem K9.at {α:Type}{f sz c h u}{l:List α}(H:K9 sz c h u (l.flatMap f))(hf:∀x,(f x).length=sz)(h0:sz≠0){i x}(hi:l[i]?=some x):∃ab g cs,ab<c/\u.own ab/\h.get ab=some (.cells cs g false)/\(∀k,a6i sz (.slice u.a u.n u.e) (.int k (.ofNat i))=M.pure (.pointer (some ⟨ab,i*sz,some g⟩)))/\j8 g (z7 cs (i*sz)) sz=some (f x)/\∀(j) (y),(f x)[j]?=some y->j8 g (z7 cs (i*sz+j)) 1=some [y]:=by
 obtain⟨h1,h2|⟨ab,g,cs,h2,h3,h4,h5,h6,h7⟩⟩:=H;have hl:(l.flatMap f).length=0:=by rw[h1,h2];exact vW _
 have:=(a9V f sz hf l i x hi).2;omega;obtain⟨e1,e2⟩:=a9V f sz hf l i x hi;have hlen:u.n=l.length:=by
  have hgen:∀l:List α,(l.flatMap f).length=l.length*sz:=by intro l;induction l with|nil=>simp|cons y l ih=>rw[wW,xE,ih,hf,xH,vJ];omega
  rw[hgen]at h1;exact(tC (Nat.pos_of_ne_zero h0) h1).symm
 have hlt:=(xQ.1 hi).1;have e3:=b2q cs _ (i*sz) sz _ h7 e2;rw[e1]at e3;obtain⟨ua,un,ue⟩:=u;simp only at h2 h3 hlen;subst h2;subst h3;subst hlen;refine⟨ab,g,cs,h4,⟨_,rfl,rfl⟩,h5,λk=>by rw[a0d ue i l.length k ab 0 (some g) hlt h0,wt],e3,λj y hy=>?_⟩;rw[a2i];exact a1D e3 j y hy
def b0o (x:Nd×Sl):List Value:=[.int .i64 (.ofNat x.1.k),.int .i64 (.ofNat x.1.p),.string ⟨⟨x.1.t⟩⟩,.slice x.2.a x.2.n x.2.e]
theorem K9.nd {U c h u}{rows:List (Nd×Sl)}(H:K9 4 c h u (rows.flatMap b0o))(hU:∀i,u.own i->U i)(hn:∀x∈rows,NdL U h x.2 x.1.l/\x.1.t.length<90000)(hl:rows.length<90000):NdL U h u (rows.map (·.1)):=by
 have hgen:∀l:List (Nd×Sl),(l.flatMap b0o).length=l.length*4:=by intro l;induction l with|nil=>simp|cons y l ih=>rw[wW,xE,ih,xH,vJ];show 4+_=_;omega
 obtain⟨h1,h2|⟨ab,g,cs,h2,h3,h4,h5,h6,h7⟩⟩:=H;have:rows=[]:=by
  have h0:(rows.flatMap b0o).length=0:=by rw[h1,h2];rfl
  rw[hgen]at h0;exact wP.1 zy
 subst this;subst h2;exact .nil;rw[hgen]at h1;have hn':u.n=(rows.map (·.1)).length:=by rw[xF];omega
 obtain⟨ua,un,ue⟩:=u;simp only at h2 h3 hn';subst h2;subst h3;subst hn';have hat:∀(i:Nat) (n:Nd),(rows.map (·.1))[i]?=some n->∃x,rows[i]?=some x/\x.1=n:=λi n hi=>by rw[wc]at hi;cases e:rows[i]? with|none=>rw[e]at hi;cases hi|some x=>rw[e]at hi;cases hi;exact⟨x,rfl,rfl⟩
 refine .row (λi=>match rows[i]? with|some x=>x.2|none=>⟨none,0,0⟩) (hU ab ⟨_,rfl,rfl⟩) h5 (by rw[xF];exact hl) (λi n hi=>?_) λi n hi=>?_;obtain⟨x,hx,rfl⟩:=hat i n hi;obtain⟨e1,e2⟩:=a9V b0o 4 (λ_=>rfl) rows i x hx;refine⟨(hn x (we hx)).2,?_⟩;have e3:=b2q cs _ (i*4) 4 _ h7 e2;rw[e1]at e3;rw[hx,wt];exact e3;obtain⟨x,hx,rfl⟩:=hat i n hi;rw[hx];exact(hn x (we hx)).1
end Go.Proofs.YtmomonnlmbljoaaGreatDoor
end
