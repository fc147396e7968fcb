import Derived.Test.YtmomonnlmbljoaaGreatDoorBbn
set_option maxRecDepth 1000000
set_option maxHeartbeats 4000000
set_option linter.unusedVariables false
set_option linter.unusedSimpArgs false
section
namespace Go.Proofs.YtmomonnlmbljoaaGreatDoor
open Go.V Go.RowKit Go.Shelf Go.Proofs
variable {mL:Int}
attribute [local congr] y7 x9 A8 A7 D5 z8 E5 G8 G7
theorem e1a (G):∀n,a2l G n (3*n+12):=by intro n;induction n with|zero=>intro d x lv m r w _ hz;have:=a8J x;omega|succ n ih=>exact t71 (K:=3*n) ih
theorem e3B (n a b):o8 D8 (n+1) 29 [a,b]=c5B o9 NN (o8 D8 n) a b:=a2h (q:=c5B) (N:=NN) zw n a b
theorem t77 {G d}(H:Dp G d)(m)(hL:d.L≠[])(r w):l9 (go (o8 D8 (m+2) 77 [.pointer (some ⟨G.sb,0,some 0⟩)]) ⟨d.c,d.h,r,w⟩) λx s=>x=.ret (.tuple ⟨[]⟩)/\∃d',Nx G d s d'/\d'.L=d.L.dropLast/\d'.lb=d.lb/\d'.S=d.S/\d'.p=d.p/\d'.e=d.e/\d'.V=d.V:=by
 obtain⟨c,h,la,oa,lb,p,e,L,S,VV⟩:=d;have hp:=H.hp;have hs:=H.hs;have a1:=H.p;have a2:=H.s;have a3:=H.ne;have a6:G.sb≠G.ap:=λe=>a3 e.symm;simp only at hp hs a1 a2 hL;have hlan:=H.lan;simp only at hlan;have hsm:=H.sm;simp only at hsm;obtain⟨j,hj⟩:∃j,L.length=j+1:=⟨L.length-1,by have:=List.length_pos_iff.2 hL;omega⟩;have hdec2:=a2H j zy;obtain⟨la,ln,le⟩:=la;simp only at hlan;rw[hj]at hlan;subst hlan;obtain⟨hl1,hor⟩:=H.la;rcases hor with h0|⟨ab,g,cs,h2,h3,h4,h5,h6,h7⟩;exfalso;cases h0;simp only at h2 h3 h4 h5;subst h2;subst h3;rw[d5p];have e0:decide (Int.ofNat 0<Int.ofNat (j+1))=true:=wL (uk.2 (qz j));have e1:=λk=>b1l 1 ab 0 g (j+1) j k (vv j) zu;simp(disch:=try exact dz)only[G77,c7E,G79,hs,hdec2,b3r,b3F,e0,e1,↓gP,gY];refine l9.done ?_;have U:PU G ⟨c,h,⟨some ⟨ab,0,some g⟩,j+1,1⟩,oa,lb,p,e,L,S,VV⟩ ⟨c,V.upd h G.sb (.cells [(.map (some G.m),0),(.slice (some ⟨ab,0,some g⟩) j 1,0)] 0 false),⟨some ⟨ab,0,some g⟩,j,1⟩,oa,lb,p,e,L.dropLast,S,VV⟩:=yK;obtain⟨Rs,o1,o2⟩:=H.oa;refine⟨rfl,_,⟨rfl,rfl,H.go U ?_ ?_ ?_ H.lo ?_ H.oo ?_,U.stp λi k=>?_⟩,rfl,rfl,rfl,rfl,rfl,rfl⟩;rw[d9 a3];exact hp;exact o7 _ _ _;have hg:=(H.la.cut (j:=j) (wE j)).mono (h':=V.upd h G.sb (.cells [(.map (some G.m),0),(.slice (some ⟨ab,0,some g⟩) j 1,0)] 0 false)) (wQ _) λb k1 k2=>wz;rw[<-nM,uu]at hg;have e2:L.take j=L.dropLast:=by rw[pq,hj];rfl
 simp only[e2]at hg;exact hg;refine⟨Rs,o1.mono (wQ _) λb k1 k2=>?_,o2.mono λi k=>⟨k,?_⟩⟩;have k3:=(H.oo b k2).1;have k4:=(H.oo b k2).2;simp(disch:=first|assumption|omega)only[d9];obtain⟨k1,k2,k3,k4,k5⟩:=H.vf i k;simp(disch:=first|assumption|omega)only[d9];dsimp only;rw[rz];exact⟨zy,hsm.2.1,hsm.2.2⟩;obtain⟨k1,k2,k3,k4,k5⟩:=k;simp(disch:=first|assumption|omega)only[d9]
theorem n29 {G d0 L0}(m q)(hq:q<4294967296):∀(k e i) (d) (Y) (xs) (r w),i+k=q->Y.length=k->d.L=L0++Y->Dp G d->Stp G d0 d->C9 xs 4=.int .i64 (.ofNat i)->l9 (go (U4 (d4Z o9 NN (o8 D8 (m+2)) (.int .i64 (.ofNat q)) (.pointer (some ⟨G.sb,0,some 0⟩))) (k+1+e) xs) ⟨d.c,d.h,r,w⟩) λy s=>∃xs' d',y=(.exit 0,xs')/\s.c=d'.c/\s.h=d'.h/\Dp G d'/\Stp G d0 d'/\d'.L=L0/\d'.p=d.p/\d'.e=d.e/\d'.S=d.S:=by
 intro k;induction k with
  |zero=>intro e i d Y xs r w hi hY hL D S h1;rw[vY 0 1 e,Y5];have e0:decide (Int.ofNat i<Int.ofNat q)=false:=wP (λh=>zN);have:Y=[]:=uz.1 hY;subst this;simp(disch:=try exact dz)only[d9d,h1,e0,↓gP,gY];exact l9.done ⟨_,d,rfl,rfl,rfl,D,S,hL.trans (wH _),rfl,rfl,rfl⟩|succ k ih=>
   intro e i d Y xs r w hi hY hL D S h1;rw[vY (k+1) 1 e,Y5];have e0:decide (Int.ofNat i<Int.ofNat q)=true:=wL (uk.2 zy);have hinc:=J6 i zy;have hne:Y≠[]:=λh=>by rw[h]at hY;cases hY
   simp(disch:=try exact dz)only[d9d,h1,e0,↓gP,gY];refine l9.bindC (t77 D m (by rw[hL];simp[hne]) _ _) λx s hq=>?_;obtain⟨rfl,d',N,f1,f2,f3,f4,f5,f6⟩:=hq;obtain⟨c',h',r',w'⟩:=s;have n1:c'=d'.c:=N.c;have n2:h'=d'.h:=N.h;subst n1;subst n2;simp(disch:=try exact dz)only[hinc,↓gP,gY];refine(ih e (i+1) d' Y.dropLast _ _ _ zy (by rw[rz];omega) (by rw[f1,hL,pJ hne]) N.dp (S.trans N.st) rfl).mono ?_;rintro y s ⟨xs',d2,g1,g2,g3,g4,g5,g6,g7,g8,g9⟩;exact⟨xs',d2,g1,g2,g3,g4,g5,g6,g7.trans f4,g8.trans f5,g9.trans f3⟩
theorem e9Q (t:Nat)(a):a0M Tryz.prog tab .eql 44 (.tmp t) (.const (.pointer none)) (.pointer (some a)) (.pointer none)=M.pure (.bool false):=zw
structure ScS (sb m:Nat) (F:Nat→List (Value×Value)) (L:List (List UInt8)) (c:Nat) (h:Trie VObj) (u:Sl) (U:Nat→Prop):Prop where
 s:sb<c
 hs:h.get sb=some (.cells [(.map (some m), 0),(.slice u.a u.n u.e, 0)] 0 false)
 la:X4 1 c h u (L.map a4P)
 lo:∀ i,u.own i→i≠sb
 sc:ScM U h m F
 u:∀ i,U i→i<c∧i≠sb∧¬ u.own i
theorem t29 {sb mm F L c h la U lv l n}(H:ScS sb mm F L c h la U)(hn:NdL U h lv l)(hz:zs l<=n)(hL:L.length+zs l<800000)(m r w):l9 (go (o8 D8 (m+3*n+14) 29 [.slice lv.a lv.n lv.e,.pointer (some ⟨sb,0,some 0⟩)]) ⟨c,h,r,w⟩) λx s=>c<=s.c/\(∀i,U i->s.h.get i=h.get i)/\(∃la' U',ScS sb mm F L s.c s.h la' U'/\(∀i,U i->U' i))/\((∃T u Rs U',a0k (I9 F n) F L l=.ok T/\x=.ret (.tuple ⟨[.slice u.a u.n u.e,.int .i64 (.ofNat 0),.int .i64 (.ofNat 0)]⟩)/\X4 9 s.c s.h u (Rs.flatMap a2y)/\RIs U' s.h Rs T/\(∀i,U' i->i<s.c)/\T.length<=zs l)\/(∃p e,a0k (I9 F n) F L l=.er p e/\x=.ret (.tuple ⟨[.slice none 0 0,.int .i64 (.ofNat p),.int .i64 (.ofNat e)]⟩))):=by
 rw[e3B];have a1:=H.s;have a2:sb≠c:=zy;have a3:sb≠c+1:=zy;have a4:c≠c+1:=zy;simp(disch:=try exact dz)only[G29,e9Q,↓gP,gY];have hU:∀j,j<c->(V.upd (V.upd (V.upd (V.upd h c (.cells [(.pointer (some ⟨sb,0,some 0⟩),0),(.slice none 0 0,0),(.int .i64 (.ofNat 0),0),(.int .i64 (.ofNat 0),0),(.int .i64 (.ofNat 0),0),(.nilFunc,0)] 0 false)) (c+1) (.cells [(.pointer none,0)] 0 false)) (c+1) (.cells [(.pointer (some ⟨c,0,some 0⟩),0)] 0 false)) c (.cells [(.pointer (some ⟨sb,0,some 0⟩),0),(.slice none 0 0,0),(.int .i64 (.ofNat 0),0),(.int .i64 (.ofNat 0),0),(.int .i64 (.ofNat 0),0),(.func (.func 71) ⟨[]⟩ ⟨[.pointer (some ⟨c+1,0,some 0⟩)]⟩,0)] 0 false)).get j=h.get j:=λj k=>by have k1:j≠c:=zy;have k2:j≠c+1:=zy;simp(disch:=first|assumption|omega)only[d9]
 have D:Dp ⟨c,sb,c+1,mm,F⟩ ⟨c+1+1,(V.upd (V.upd (V.upd (V.upd h c (.cells [(.pointer (some ⟨sb,0,some 0⟩),0),(.slice none 0 0,0),(.int .i64 (.ofNat 0),0),(.int .i64 (.ofNat 0),0),(.int .i64 (.ofNat 0),0),(.nilFunc,0)] 0 false)) (c+1) (.cells [(.pointer none,0)] 0 false)) (c+1) (.cells [(.pointer (some ⟨c,0,some 0⟩),0)] 0 false)) c (.cells [(.pointer (some ⟨sb,0,some 0⟩),0),(.slice none 0 0,0),(.int .i64 (.ofNat 0),0),(.int .i64 (.ofNat 0),0),(.int .i64 (.ofNat 0),0),(.func (.func 71) ⟨[]⟩ ⟨[.pointer (some ⟨c+1,0,some 0⟩)]⟩,0)] 0 false)),la,⟨none,0,0⟩,0,0,0,L,[],λi=>U i\/i=c+1⟩:=by refine⟨zV,zV,λe=>a2 e.symm,o7 _ _ _,(hU sb a1).trans H.hs,H.la.mono zV λb k _=>hU b k,λi k=>⟨?_,H.lo i k,?_⟩,⟨[],X4.nil _ _ _,.nil⟩,?_,λi k=>?_,Or.inr rfl,?_,H.sc.mono λi k=>⟨Or.inl k,hU i (H.u i k).1⟩,?_⟩;have:=H.la.own_lt k;dsimp only;omega;rintro⟨a,h,_⟩;cases h;rintro i ⟨a,h,_⟩;cases h;rcases k with k|k;obtain⟨k1,k2,k3⟩:=H.u i k;exact⟨zV,zV,k2,k3,by rintro⟨a,h,_⟩;cases h⟩;subst k;refine⟨zV,zV,λe=>a3 e.symm,λho=>?_,by rintro⟨a,h,_⟩;cases h⟩;have:=H.la.own_lt ho;omega;have k1:c+1≠c:=zy;dsimp only;rw[d9 k1,o7];exact⟨zV,by show 0<900000000;omega,by show 0<4294967296;omega⟩
 have hN:NdL (Frz ⟨c,sb,c+1,mm,F⟩ ⟨c+1+1,(V.upd (V.upd (V.upd (V.upd h c (.cells [(.pointer (some ⟨sb,0,some 0⟩),0),(.slice none 0 0,0),(.int .i64 (.ofNat 0),0),(.int .i64 (.ofNat 0),0),(.int .i64 (.ofNat 0),0),(.nilFunc,0)] 0 false)) (c+1) (.cells [(.pointer none,0)] 0 false)) (c+1) (.cells [(.pointer (some ⟨c,0,some 0⟩),0)] 0 false)) c (.cells [(.pointer (some ⟨sb,0,some 0⟩),0),(.slice none 0 0,0),(.int .i64 (.ofNat 0),0),(.int .i64 (.ofNat 0),0),(.int .i64 (.ofNat 0),0),(.func (.func 71) ⟨[]⟩ ⟨[.pointer (some ⟨c+1,0,some 0⟩)]⟩,0)] 0 false)),la,⟨none,0,0⟩,0,0,0,L,[],λi=>U i\/i=c+1⟩) (V.upd (V.upd (V.upd (V.upd h c (.cells [(.pointer (some ⟨sb,0,some 0⟩),0),(.slice none 0 0,0),(.int .i64 (.ofNat 0),0),(.int .i64 (.ofNat 0),0),(.int .i64 (.ofNat 0),0),(.nilFunc,0)] 0 false)) (c+1) (.cells [(.pointer none,0)] 0 false)) (c+1) (.cells [(.pointer (some ⟨c,0,some 0⟩),0)] 0 false)) c (.cells [(.pointer (some ⟨sb,0,some 0⟩),0),(.slice none 0 0,0),(.int .i64 (.ofNat 0),0),(.int .i64 (.ofNat 0),0),(.int .i64 (.ofNat 0),0),(.func (.func 71) ⟨[]⟩ ⟨[.pointer (some ⟨c+1,0,some 0⟩)]⟩,0)] 0 false)) lv l:=hn.mono λi k=>⟨D.vf i (Or.inl k),hU i (H.u i k).1⟩;have hT:=t76 (e1a ⟨c,sb,c+1,mm,F⟩ n) D hN hz ⟨by show 0+zs l<_;omega,by show L.length+zs l<_;omega,by show 0+zs l<_;omega⟩ m;refine l9.bindC (hT _ _) λx s hq=>?_;obtain⟨v,rfl,d',N,hq⟩:=hq;obtain⟨c',h',r',w'⟩:=s;have n1:c'=d'.c:=N.c;have n2:h'=d'.h:=N.h;subst n1;subst n2;have hfr:∀d2,Stp ⟨c,sb,c+1,mm,F⟩ ⟨c+1+1,(V.upd (V.upd (V.upd (V.upd h c (.cells [(.pointer (some ⟨sb,0,some 0⟩),0),(.slice none 0 0,0),(.int .i64 (.ofNat 0),0),(.int .i64 (.ofNat 0),0),(.int .i64 (.ofNat 0),0),(.nilFunc,0)] 0 false)) (c+1) (.cells [(.pointer none,0)] 0 false)) (c+1) (.cells [(.pointer (some ⟨c,0,some 0⟩),0)] 0 false)) c (.cells [(.pointer (some ⟨sb,0,some 0⟩),0),(.slice none 0 0,0),(.int .i64 (.ofNat 0),0),(.int .i64 (.ofNat 0),0),(.int .i64 (.ofNat 0),0),(.func (.func 71) ⟨[]⟩ ⟨[.pointer (some ⟨c+1,0,some 0⟩)]⟩,0)] 0 false)),la,⟨none,0,0⟩,0,0,0,L,[],λi=>U i\/i=c+1⟩ d2->Dp ⟨c,sb,c+1,mm,F⟩ d2->d2.L=L->c<=d2.c/\(∀i,U i->d2.h.get i=h.get i)/\(∃la' U',ScS sb mm F L d2.c d2.h la' U'/\(∀i,U i->U' i)):=λd2 S D2 eL=>by have:=S.le;dsimp only at this;refine⟨zy,λi k=>((S.fz i (D.vf i (Or.inl k))).2).trans (hU i (H.u i k).1),d2.la,d2.V,⟨D2.s,D2.hs,?_,λi k=>(D2.lo i k).2.1,D2.sc,λi k=>?_⟩,λi k=>S.vm i (Or.inl k)⟩;rw[<-eL];exact D2.la;obtain⟨k1,k2,k3,k4,k5⟩:=D2.vf i k;exact⟨k1,k3,k4⟩
 have hp:=N.dp.hp;have b1:=N.dp.p;have hpc:=N.dp.hpc;have b3:=(N.dp.vf _ N.dp.pc).1;dsimp only at hp b1 hpc b3;obtain⟨Y,hY,hlb⟩:∃Y,d'.L=L++Y/\d'.lb=Y.length:=by rcases hq with⟨T1,f1,f2,f3,f4,f5,f6,f7,f8⟩|⟨p,e,X,f1,f2,f3,f4,f5,f6⟩;exact⟨[],f3.trans (wH _).symm,f4⟩;exact⟨X,f5,by rw[f6];exact a8S _⟩
 have hYl:Y.length<900000:=by have:=N.dp.sm.1;rw[hY,wG]at this;omega
 have hNN:900001<=NN:=zu;obtain⟨e,hNe⟩:∃e,NN=d'.lb+1+e:=⟨NN-(d'.lb+1),zy⟩;simp(disch:=try exact dz)only[hpc,hp,F8,PD.P,↓gP,gY];have hloop:=n29 (m+3*n+11) d'.lb zy d'.lb e 0 d' Y [undef,undef,undef,undef,.int .i64 (.ofNat 0)] (c::(c+1)::r') w' zy hlb.symm hY N.dp N.st rfl;rw[<-hNe]at hloop;refine l9.bindJ hloop λy xs' s hq2=>?_;obtain⟨xs1,d2,g1,g2,g3,D2,S2,g6,g7,g8,g9⟩:=hq2;obtain⟨c'',h'',r'',w''⟩:=s;cases g1;have g2:c''=d2.c:=g2;have g3:h''=d2.h:=g3;subst g2;subst g3;have hp2:=D2.hp;have b12:=D2.p;have hpc2:=D2.hpc;have b32:=(D2.vf _ D2.pc).1;dsimp only at hp2 b12 hpc2 b32;obtain⟨u1,u2,u3⟩:=hfr d2 S2 D2 g6;rcases hq with⟨T1,f1,f2,f3,f4,f5,f6,f7,f8⟩|⟨p,e,X,f1,f2,f3,f4,f5,f6⟩;have e0:d2.e=0:=g8.trans f7;simp(disch:=try exact dz)only[G29,hpc2,hp2,F8,PD.P,e0,a3r,↓gP,gY,gT];refine l9.done ?_;obtain⟨Rs,o1,o2⟩:=D2.oa;have e9:d2.S=T1:=g9.trans (f5.trans (vR _));rw[e9]at o2;exact⟨u1,u2,u3,Or.inl ⟨T1,d2.oa,Rs,d2.V,f1,rfl,o1,o2,λi k=>(D2.vf i k).1,f8⟩⟩;have e0:d2.e=e:=g8.trans f4;have e1:d2.p=p:=g7.trans f3;have hne:e≠0:=d6S _ _ _ _ _ _ f1;have hne':decide (e=0)=false:=wP hne;simp(disch:=try exact dz)only[G29,hpc2,hp2,F8,PD.P,e0,e1,hne',di,a3r,↓gP,gY,gT];refine l9.done ?_;exact⟨u1,u2,u3,Or.inr ⟨p,e,f1,rfl⟩⟩
end Go.Proofs.YtmomonnlmbljoaaGreatDoor
end
section
namespace Go.Proofs.YtmomonnlmbljoaaGreatDoor
open Go.V Go.RowKit Go.Shelf Go.Proofs
variable {mL:Int}
attribute [local congr] y7 x9 A8 A7 D5 z8 E5 G8 G7
noncomputable def a1e (p:Nat->Bool):List UInt8->Nat|[]=>0|b::t=>bcase (p b.toNat) (a1e p t+1) 0
theorem a5S {T t:List UInt8}{a b}(h:T.drop a=b::t):T[a]?=some b/\T.drop (a+1)=t/\a<T.length:=by
 have h1:T[a]?=some b:=by have:=wB (λl=>l[0]?) h;simpa using this
 refine⟨h1,?_,(wM.1 h1).1⟩;have:=wB List.tail h;simpa using this
theorem a3y {T:List UInt8}{a}(h:T.drop a=[]):T.length<=a:=by simpa[pY]using h
theorem e0E (n a b):o8 D8 (n+1) 133 [a,b]=b9t o9 NN (o8 D8 n) a b:=a2h (q:=b9t) (N:=NN) zw n a b
section
variable {T:List UInt8}{c:Nat}{h:Trie VObj}
theorem e9k (hT:T.length<900000)(call):∀(t) (a k) (xs) (r w),T.drop a=t->t.length<k->a<=T.length->C9 xs 12=.int .i64 (.ofNat a)->l9 (go (U4 (d0z o9 NN call (.string ⟨⟨T⟩⟩)) k xs) ⟨c,h,r,w⟩) λy s=>s.c=c/\s.h=h/\∃xs',y=(.exit 0,xs')/\C9 xs' 12=.int .i64 (.ofNat (a+a1e (λb=>!decide (b=10)) t)):=by
 intro t;induction t with
  |nil=>intro a k xs r w hd hk ha h1;obtain⟨k,rfl⟩:∃m,k=m+1:=⟨k-1,zU⟩;have hl:=a3y hd;have e0:decide (Int.ofNat a<Int.ofNat T.length)=false:=wP (λh=>zN);rw[Y5];simp(disch:=try exact dz)only[c7N,h1,e0,↓gP,gY];exact l9.done ⟨rfl,rfl,_,rfl,rfl⟩|cons b t ih=>
   intro a k xs r w hd hk ha h1;obtain⟨k,rfl⟩:∃m,k=m+1:=⟨k-1,zU⟩;obtain⟨d1,d2,d3⟩:=a5S hd;have e0:decide (Int.ofNat a<Int.ofNat T.length)=true:=wL (uk.2 d3);have hx:=a1I ⟨⟨T⟩⟩ a b d1;have hinc:=J6 a zy;rw[Y5];cases q:decide (b.toNat=10)with
    |true=>simp(disch:=try exact dz)only[c7N,h1,e0,hx,di,q,↓gP,gY,gT];refine l9.done ⟨rfl,rfl,_,rfl,?_⟩;unfold a1e;rw[q];rfl|false=>
     simp(disch:=try exact dz)only[c7N,h1,e0,hx,di,q,hinc,↓gP,gY,gT];refine(ih (a+1) k _ _ _ d2 zU zy rfl).mono ?_;rintro y s ⟨f1,f2,xs',f3,f4⟩;refine⟨f1,f2,xs',f3,?_⟩;rw[f4];conv=>rhs;unfold a1e
     rw[q];show _=Value.int .i64 (.ofNat (a+(a1e _ t+1)));rw[sJ,Nat.add_comm 1]
theorem e8g (hT:T.length<900000)(m){a}(ha:a<=T.length)(r w):l9 (go (o8 D8 (m+1) 133 [.string ⟨⟨T⟩⟩,.int .i64 (.ofNat a)]) ⟨c,h,r,w⟩) λx s=>s.c=c/\s.h=h/\x=.ret (.int .i64 (.ofNat (a+a1e (λb=>!decide (b=10)) (T.drop a)))):=by rw[e0E];have hNN:900001<=NN:=zu;simp(disch:=try exact dz)only[e8A,↓gP];refine l9.bindJ (e9k hT (o8 D8 m) (T.drop a) a NN [undef,undef,undef,undef,undef,undef,undef,undef,undef,undef,undef,undef,.int .i64 (.ofNat a)] r w rfl (by rw[uq];omega) ha rfl) λy xs' s hq=>?_;obtain⟨c',h',r',w'⟩:=s;obtain⟨f1,f2,xs1,f3,f4⟩:=hq;cases f3;simp(disch:=try exact dz)only[f4,a3r,↓gP,gY];exact l9.done ⟨f1,f2,rfl⟩
end
end Go.Proofs.YtmomonnlmbljoaaGreatDoor
end
section
namespace Go.Proofs.YtmomonnlmbljoaaGreatDoor
open Go.V Go.RowKit Go.Shelf Go.Proofs
variable {mL:Int}
attribute [local congr] y7 x9 A8 A7 D5 z8 E5 G8 G7
theorem c0P (i)(h:i<4294967296):Q0 .i64 (Int.ofNat i+Int.ofNat 2)=Int.ofNat (i+2):=a4Y .i64 (i+2) (by show i+2<9223372036854775808;omega)
theorem dL (a b):decide (Int.ofNat a<Int.ofNat b)=decide (a<b):=qm.2 uk
theorem dE (a b):decide (Int.ofNat a<=Int.ofNat b)=decide (a<=b):=qm.2 rY
noncomputable def b1U:Nat->List UInt8->Nat->Option Nat|0,_,_=>none|k+1,t,d=>match t with|b0::b1::t'=>bcase (beqBytes [b0,b1] [40,59]) ((b1U k t' (d+1)).map (2+·)) (bcase (beqBytes [b0,b1] [59,41]) (bcase (decide (d=1)) (some 2) ((b1U k t' (d-1)).map (2+·))) ((b1U k (b1::t') d).map (1+·)))|_=>none
noncomputable def d3o:List UInt8->Bool|[]=>false|b::_=>decide (32<=b.toNat)&& !decide (b.toNat=127)
noncomputable def a2c (q:Nat):Nat->List UInt8->Nat->Nat×Nat|0,_,_=>(q,3)|k+1,t,a=>match t with|[]=>(q,3)|b::t=>bcase (decide (b.toNat<32)||decide (b.toNat=127)) (a,4) (bcase (decide (b.toNat=34)) (a+1,0) (bcase (decide (b.toNat=92)&&d3o t) (a2c q k t.tail (a+2)) (a2c q k t (a+1))))
theorem d8b (n a b):o8 D8 (n+1) 134 [a,b]=b9Y o9 NN (o8 D8 n) a b:=a2h (q:=b9Y) (N:=NN) zw n a b
theorem e2d (n a b):o8 D8 (n+1) 135 [a,b]=c0d o9 NN (o8 D8 n) a b:=a2h (q:=c0d) (N:=NN) zw n a b
section
variable {T:List UInt8}{c:Nat}{h:Trie VObj}
theorem f0g (hT:T.length<900000)(call):∀(k e a d) (t) (xs) (r w),T.drop a=t->t.length<=k->a<=T.length->d<900000+a->(d=0->∃t',t=40::59::t')->C9 xs 26=.int .i64 (.ofNat a)->C9 xs 21=.int .i64 (.ofNat d)->l9 (go (U4 (c9I o9 NN call (.string ⟨⟨T⟩⟩)) (k+1+e) xs) ⟨c,h,r,w⟩) λy s=>s.c=c/\s.h=h/\((b1U k t d=none/\∃xs',y=(.exit 0,xs'))\/∃n xs',b1U k t d=some n/\n<=t.length/\y=(.ret,xs')/\C9 xs' 30=.int .i64 (.ofNat (a+n))):=by
 intro k;induction k with
  |zero=>intro e a d t xs r w hd hk ha hd9 hd0 h1 h2;have ht:t=[]:=uz.1 zy;subst ht;have hl:=a3y hd;rw[vY 0 1 e,Y5];have hinc:=J6 a zy;have e0:decide (a+1<T.length)=false:=wP zy;simp(disch:=try exact dz)only[b1J,h1,h2,hinc,dL,e0,↓gP,gY];exact l9.done ⟨rfl,rfl,Or.inl ⟨rfl,_,rfl⟩⟩|succ k ih=>
   intro e a d t xs r w hd hk ha hd9 hd0 h1 h2;rw[vY (k+1) 1 e,Y5];have hinc:=J6 a zy;match t,hd,hk,hd0 with
    |[],hd,hk,hd0=>have hl:=a3y hd;have e0:decide (a+1<T.length)=false:=wP zy;simp(disch:=try exact dz)only[b1J,h1,h2,hinc,dL,e0,↓gP,gY];exact l9.done ⟨rfl,rfl,Or.inl ⟨rfl,_,rfl⟩⟩|[b0],hd,hk,hd0=>obtain⟨d1,d2,d3⟩:=a5S hd;have hl:=a3y d2;have e0:decide (a+1<T.length)=false:=wP zy;simp(disch:=try exact dz)only[b1J,h1,h2,hinc,dL,e0,↓gP,gY];exact l9.done ⟨rfl,rfl,Or.inl ⟨rfl,_,rfl⟩⟩|b0::b1::t,hd,hk,hd0=>
     obtain⟨d1,d2,d3⟩:=a5S hd;obtain⟨d4,d5,d6⟩:=a5S d2;have e0:decide (a+1<T.length)=true:=wL d6;have htw:=c0P a zy;have hsl:∀kl kh,a6x (.string ⟨⟨T⟩⟩) (some (.int kl (.ofNat a))) (some (.int kh (.ofNat (a+2))))=M.pure (.string ⟨⟨[b0,b1]⟩⟩):=λkl kh=>by
      rw[a5m ⟨⟨T⟩⟩ kl kh a (a+2) zy (by rw[F9];show a+2<=T.length;omega),uK];have e1:H9 T a=b0::b1::t:=by rw[a0D];exact hd
      show M.pure (Value.string ⟨⟨a0x (H9 T a) 2⟩⟩)=_;rw[e1,a2m];rfl
     simp only[wI]at hk;unfold b1U;cases q1:beqBytes [b0,b1] [40,59]with
      |true=>have hdi:=J6 d zy;have e1:decide (d+1=0)=false:=wP zy;simp(disch:=try exact dz)only[b1J,h1,h2,hinc,htw,hsl,dL,di,e0,q1,hdi,↓gP,gY,gT,Nat.reduceEqDiff];refine(ih e (a+2) (d+1) t _ _ _ d5 zy zy zy zy rfl rfl).mono ?_;rintro y s ⟨f1,f2,⟨f3,f4⟩|⟨n,xs',f3,f4,f5,f6⟩⟩;exact⟨f1,f2,Or.inl ⟨by rw[f3];rfl,f4⟩⟩;exact⟨f1,f2,Or.inr ⟨2+n,xs',by rw[f3];rfl,zm,f5,by rw[f6,sJ]⟩⟩|false=>
       have hd1:d≠0:=λe=>by obtain⟨t',ht'⟩:=hd0 e;cases ht';cases q1
       cases q2:beqBytes [b0,b1] [59,41]with
        |true=>obtain⟨d,rfl⟩:∃j,d=j+1:=⟨d-1,zy⟩;have hdd:=a2H d zy;cases q3:decide (d=0)with|true=>have q4:decide (d+1=1)=true:=wL (by have:=vS q3;omega);simp(disch:=try exact dz)only[b1J,h1,h2,hinc,htw,hsl,dL,di,e0,q1,q2,hdd,q3,↓gP,gY,Nat.reduceEqDiff];refine l9.done ⟨rfl,rfl,Or.inr ⟨2,_,?_,zq,rfl,rfl⟩⟩;rfl|false=>have q5:d≠0:=uQ q3;have q4:decide (d+1=1)=false:=wP zy;simp(disch:=try exact dz)only[b1J,h1,h2,hinc,htw,hsl,dL,di,e0,q1,q2,hdd,q3,↓gP,gY,Nat.reduceEqDiff];refine(ih e (a+2) d t _ _ _ d5 zy zy zy zy rfl rfl).mono ?_;rw[oQ];rintro y s ⟨f1,f2,⟨f3,f4⟩|⟨n,xs',f3,f4,f5,f6⟩⟩;exact⟨f1,f2,Or.inl ⟨by rw[f3];rfl,f4⟩⟩;exact⟨f1,f2,Or.inr ⟨2+n,xs',by rw[f3];rfl,zm,f5,by rw[f6,sJ]⟩⟩
        |false=>have q3:decide (d=0)=false:=wP hd1;simp(disch:=try exact dz)only[b1J,h1,h2,hinc,htw,hsl,dL,di,e0,q1,q2,q3,↓gP,gY];refine(ih e (a+1) d (b1::t) _ _ _ d2 zm zy zy (λe=>absurd e hd1) rfl rfl).mono ?_;rintro y s ⟨f1,f2,⟨f3,f4⟩|⟨n,xs',f3,f4,f5,f6⟩⟩;exact⟨f1,f2,Or.inl ⟨by rw[f3];rfl,f4⟩⟩;exact⟨f1,f2,Or.inr ⟨1+n,xs',by rw[f3];rfl,by simp at f4⊢;omega,f5,by rw[f6,sJ]⟩⟩
theorem e9H (hT:T.length<900000)(call q):∀(k e a) (t) (xs) (r w),T.drop a=t->t.length<=k->a<=T.length->C9 xs 48=.int .i64 (.ofNat a)->l9 (go (U4 (b7V o9 NN call (.string ⟨⟨T⟩⟩)) (k+1+e) xs) ⟨c,h,r,w⟩) λy s=>s.c=c/\s.h=h/\((a2c q (k+1) t a=(q,3)/\∃xs',y=(.exit 0,xs'))\/∃xs',y=(.ret,xs')/\C9 xs' 19=.int .i64 (.ofNat (a2c q (k+1) t a).1)/\C9 xs' 20=.int .i64 (.ofNat (a2c q (k+1) t a).2)/\((a2c q (k+1) t a).2=0->a<(a2c q (k+1) t a).1/\(a2c q (k+1) t a).1<=T.length)):=by
 intro k;induction k with
  |zero=>intro e a t xs r w hd hk ha h1;have ht:t=[]:=uz.1 zy;subst ht;have hl:=a3y hd;rw[vY 0 1 e,Y5];have e0:decide (a<T.length)=false:=wP zy;simp(disch:=try exact dz)only[a9a,h1,dL,e0,↓gP,gY];exact l9.done ⟨rfl,rfl,Or.inl ⟨rfl,_,rfl⟩⟩|succ k ih=>
   intro e a t xs r w hd hk ha h1;rw[vY (k+1) 1 e,Y5];cases t with
    |nil=>have hl:=a3y hd;have e0:decide (a<T.length)=false:=wP zy;simp(disch:=try exact dz)only[a9a,h1,dL,e0,↓gP,gY];exact l9.done ⟨rfl,rfl,Or.inl ⟨rfl,_,rfl⟩⟩|cons b t=>
     obtain⟨d1,d2,d3⟩:=a5S hd;have e0:decide (a<T.length)=true:=wL d3;have hx:=a1I ⟨⟨T⟩⟩ a b d1;have hinc:=J6 a zy;simp only[wI]at hk;have eS:a2c q (k+1+1) (b::t) a=bcase (decide (b.toNat<32)||decide (b.toNat=127)) (a,4) (bcase (decide (b.toNat=34)) (a+1,0) (bcase (decide (b.toNat=92)&&d3o t) (a2c q (k+1) t.tail (a+2)) (a2c q (k+1) t (a+1)))):=rfl;rw[eS];have tl:∀{t':List UInt8} {a':Nat} {xs'':List Value} {r' w':List Nat},T.drop a'=t'->t'.length<=k->a<a'->a'<=T.length->C9 xs'' 48=.int .i64 (.ofNat a')->l9 (go (U4 (b7V o9 NN call (.string ⟨⟨T⟩⟩)) (k+1+e) xs'') ⟨c,h,r',w'⟩) λy s=>s.c=c/\s.h=h/\((a2c q (k+1) t' a'=(q,3)/\∃xs',y=(.exit 0,xs'))\/∃xs',y=(.ret,xs')/\C9 xs' 19=.int .i64 (.ofNat (a2c q (k+1) t' a').1)/\C9 xs' 20=.int .i64 (.ofNat (a2c q (k+1) t' a').2)/\((a2c q (k+1) t' a').2=0->a<(a2c q (k+1) t' a').1/\(a2c q (k+1) t' a').1<=T.length)):=λ{t' a' xs'' r' w'} u1 u2 u3 u4 u5=>by refine(ih e a' t' xs'' r' w' u1 u2 u4 u5).mono ?_;rintro y s ⟨f1,f2,f3|⟨xs',f3,f4,f5,f6⟩⟩;exact⟨f1,f2,Or.inl f3⟩;exact⟨f1,f2,Or.inr ⟨xs',f3,f4,f5,λh=>⟨sw u3 (f6 h).1,(f6 h).2⟩⟩⟩
     cases q1:decide (b.toNat<32)||decide (b.toNat=127)with
      |true=>cases q2:decide (b.toNat<32)with|true=>simp(disch:=try exact dz)only[a9a,h1,dL,di,e0,hx,q2,↓gP,gY,gT,Nat.reduceEqDiff];exact l9.done ⟨rfl,rfl,Or.inr ⟨_,rfl,rfl,rfl,λh=>zg⟩⟩|false=>rw[q2,vJ]at q1;simp(disch:=try exact dz)only[a9a,h1,dL,di,e0,hx,q2,q1,↓gP,gY,gT,Nat.reduceEqDiff];exact l9.done ⟨rfl,rfl,Or.inr ⟨_,rfl,rfl,rfl,λh=>zg⟩⟩
      |false=>rw[sD]at q1;obtain⟨q1,q2⟩:=q1;rw[y9];cases q3:decide (b.toNat=34)with|true=>simp(disch:=try exact dz)only[a9a,h1,dL,di,e0,hx,q1,q2,q3,hinc,↓gP,gY,gT];exact l9.done ⟨rfl,rfl,Or.inr ⟨_,rfl,rfl,rfl,λ_=>⟨wE a,d3⟩⟩⟩|false=>rw[y9];cases q4:decide (b.toNat=92)with|false=>simp(disch:=try exact dz)only[a9a,h1,dL,di,e0,hx,q1,q2,q3,q4,hinc,↓gP,gY,gT];exact tl d2 zy (wE a) zy rfl|true=>cases t with|nil=>have hl:=a3y d2;have e1:decide (a+1<T.length)=false:=wP zy;simp(disch:=try exact dz)only[a9a,h1,dL,di,e0,e1,hx,q1,q2,q3,q4,hinc,↓gP,gY,gT];exact tl d2 zy (wE a) zy rfl|cons b1 t1=>obtain⟨d4,d5,d6⟩:=a5S d2;have e1:decide (a+1<T.length)=true:=wL d6;have hx1:=a1I ⟨⟨T⟩⟩ (a+1) b1 d4;have hinc1:=J6 (a+1) zy;simp only[wI]at hk;have eE:d3o (b1::t1)=(decide (32<=b1.toNat)&& !decide (b1.toNat=127)):=rfl;rw[eE];cases q5:decide (32<=b1.toNat)with|false=>simp(disch:=try exact dz)only[a9a,h1,dL,dE,di,e0,e1,hx,hx1,q1,q2,q3,q4,q5,hinc,↓gP,gY,gT];exact tl d2 zm (wE a) zy rfl|true=>cases q6:decide (b1.toNat=127)with|true=>simp(disch:=try exact dz)only[a9a,h1,dL,dE,di,e0,e1,hx,hx1,q1,q2,q3,q4,q5,q6,hinc,↓gP,gY,gT];exact tl d2 zm (wE a) zy rfl|false=>simp(disch:=try exact dz)only[a9a,h1,dL,dE,di,e0,e1,hx,hx1,q1,q2,q3,q4,q5,q6,hinc,hinc1,↓gP,gY,gT];exact tl d5 (by show t1.length<=k;omega) zy zy rfl
end
end Go.Proofs.YtmomonnlmbljoaaGreatDoor
end
section
namespace Go.Proofs.YtmomonnlmbljoaaGreatDoor
open Go.V Go.RowKit Go.Shelf Go.Proofs
variable {mL:Int}
attribute [local congr] y7 x9 A8 A7 D5 z8 E5 G8 G7
def c2J (a:Nat):Option Nat->Value|none=>.int .i64 (.negSucc 0)|some n=>.int .i64 (.ofNat (a+n))
noncomputable def nlB (b:Nat):Bool:=!decide (b=10)
noncomputable def wsB (b:Nat):Bool:=decide (b=32)||(decide (b=9)||(decide (b=10)||decide (b=13)))
noncomputable def a7b:List UInt8->Option Nat|[]=>some 0|b::t=>bcase (wsB b.toNat) (some 1) (match t with|[]=>some 0|b1::t1=>bcase (beqBytes [b,b1] [59,59]) (some (a1e nlB (b::b1::t1))) (bcase (beqBytes [b,b1] [40,59]) (b1U (t1.length+2) (b::b1::t1) 0) (some 0)))
inductive Tk where
 | ok (k:Nat) (W:List UInt8) (e:Nat)
 | er (p e:Nat)
noncomputable def a6b (a:Nat):List UInt8->Tk|[]=>.er a 4|b::t=>bcase (decide (b.toNat=40)) (.ok 0 [] (a+1)) (bcase (decide (b.toNat=41)) (.ok 1 [] (a+1)) (bcase (decide (b.toNat=34)) (bcase (decide ((a2c a (t.length+1) t (a+1)).2=0)) (.ok 3 (t.take ((a2c a (t.length+1) t (a+1)).1-1-(a+1))) (a2c a (t.length+1) t (a+1)).1) (.er (a2c a (t.length+1) t (a+1)).1 (a2c a (t.length+1) t (a+1)).2)) (bcase (decide (a1e sgN (b::t)=0)) (.er a 4) (.ok 2 ((b::t).take (a1e sgN (b::t))) (a+a1e sgN (b::t))))))
theorem c1H (p):∀t,a1e p t<=t.length:=by intro t;induction t with|nil=>exact wQ _|cons b t ih=>unfold a1e;cases p b.toNat with|true=>exact Nat.succ_le_succ ih|false=>exact vC _
theorem e0U (n a b):o8 D8 (n+1) 104 [a,b]=b9U o9 NN (o8 D8 n) a b:=a2h (q:=b9U) (N:=NN) zw n a b
theorem d9l (n a b):o8 D8 (n+1) 105 [a,b]=b9r o9 NN (o8 D8 n) a b:=a2h (q:=b9r) (N:=NN) zw n a b
theorem d0V (n)(b:UInt8):o8 D8 (n+1) 136 [.int .u8 (.ofNat b.toNat)]=M.pure (.ret (.bool (sgN b.toNat))):=a1j (q:=a5i qSg) zw n (b5s qSg b)
section
variable {T:List UInt8}{c:Nat}{h:Trie VObj}
theorem e8a (hT:T.length<900000)(m){a t1}(hd:T.drop a=40::59::t1)(r w):l9 (go (o8 D8 (m+1) 134 [.string ⟨⟨T⟩⟩,.int .i64 (.ofNat a)]) ⟨c,h,r,w⟩) λx s=>s.c=c/\s.h=h/\x=.ret (c2J a (b1U (t1.length+2) (40::59::t1) 0))/\∀n,b1U (t1.length+2) (40::59::t1) 0=some n->a+n<=T.length:=by rw[d8b];obtain⟨d1,d2,d3⟩:=a5S hd;have hNN:900002<=NN:=zu;have hlen:=wB List.length hd;simp only[uq,wI]at hlen;obtain⟨e,hNe⟩:∃e,NN=(t1.length+2)+1+e:=⟨NN-((t1.length+2)+1),zy⟩;simp(disch:=try exact dz)only[e8H,↓gP];have hloop:=f0g (c:=c) (h:=h) hT (o8 D8 m) (t1.length+2) e a 0 (40::59::t1) [undef,undef,undef,undef,undef,undef,undef,undef,undef,undef,undef,undef,undef,undef,undef,undef,undef,undef,undef,undef,undef,.int .i64 (.ofNat 0),undef,undef,undef,undef,.int .i64 (.ofNat a),undef,undef,undef,.int .i64 (.ofNat 0)] r w hd zq zy zy (λ_=>⟨_,rfl⟩) rfl rfl;rw[<-hNe]at hloop;refine l9.bindJ hloop λy xs' s hq=>?_;obtain⟨c',h',r',w'⟩:=s;obtain⟨f1,f2,⟨f3,xs1,f4⟩|⟨n,xs1,f3,f4,f5,f6⟩⟩:=hq;cases f4;rw[f3];simp(disch:=try exact dz)only[a3r,↓gP,gY];exact l9.done ⟨f1,f2,rfl,λn h=>zg⟩;cases f5;rw[f3];simp(disch:=try exact dz)only[f6,↓gP,gY];exact l9.done ⟨f1,f2,rfl,λn' h=>by cases h;simp only[wI]at f4;omega⟩
theorem f0b (hT:T.length<900000)(m){a t}(hd:T.drop (a+1)=t)(ha:a<T.length)(r w):l9 (go (o8 D8 (m+1) 135 [.string ⟨⟨T⟩⟩,.int .i64 (.ofNat a)]) ⟨c,h,r,w⟩) λx s=>s.c=c/\s.h=h/\x=.ret (.tuple ⟨[.int .i64 (.ofNat (a2c a (t.length+1) t (a+1)).1),.int .i64 (.ofNat (a2c a (t.length+1) t (a+1)).2)]⟩)/\((a2c a (t.length+1) t (a+1)).2=0->a+1<(a2c a (t.length+1) t (a+1)).1/\(a2c a (t.length+1) t (a+1)).1<=T.length):=by rw[e2d];have hNN:900002<=NN:=zu;have hlen:=wB List.length hd;simp only[uq]at hlen;obtain⟨e,hNe⟩:∃e,NN=t.length+1+e:=⟨NN-(t.length+1),zy⟩;have hinc:=J6 a zy;simp(disch:=try exact dz)only[e9q,hinc,↓gP,gY];have hloop:=e9H (c:=c) (h:=h) hT (o8 D8 m) a t.length e (a+1) t [undef,undef,undef,undef,undef,undef,undef,undef,undef,undef,undef,undef,undef,undef,undef,undef,undef,undef,undef,.int .i64 (.ofNat 0),.int .i64 (.ofNat 0),undef,undef,undef,undef,undef,undef,undef,undef,undef,undef,undef,undef,undef,undef,undef,undef,undef,undef,undef,undef,undef,undef,undef,undef,undef,undef,undef,.int .i64 (.ofNat (a+1))] r w hd (wQ _) zy rfl;rw[<-hNe]at hloop;refine l9.bindJ hloop λy xs' s hq=>?_;obtain⟨c',h',r',w'⟩:=s;obtain⟨f1,f2,⟨f3,xs1,f4⟩|⟨xs1,f3,f4,f5,f6⟩⟩:=hq;cases f4;rw[f3];simp(disch:=try exact dz)only[a3r,↓gP,gY,Nat.reduceEqDiff];exact l9.done ⟨f1,f2,rfl,λh=>zg⟩;cases f3;simp(disch:=try exact dz)only[f4,f5,↓gP,gY];exact l9.done ⟨f1,f2,rfl,f6⟩
theorem e9K (hT:T.length<900000)(m){a b t}(hd:T.drop a=b::t)(r w):l9 (go (o8 D8 (m+2) 104 [.string ⟨⟨T⟩⟩,.int .i64 (.ofNat a)]) ⟨c,h,r,w⟩) λx s=>s.c=c/\s.h=h/\x=.ret (c2J a (a7b (b::t)))/\∀n,a7b (b::t)=some n->a+n<=T.length:=by
 rw[e0U];obtain⟨d1,d2,d3⟩:=a5S hd;have hx:=a1I ⟨⟨T⟩⟩ a b d1;have hinc:=J6 a zy;have htw:=c0P a zy;have one:∀n,some 1=some n->a+n<=T.length:=λn h=>by cases h;omega
 have zero:∀n,some 0=some n->a+n<=T.length:=λn h=>by cases h;omega
 unfold a7b wsB;cases q1:decide (b.toNat=32)with
  |true=>simp(disch:=try exact dz)only[b2T,hx,hinc,di,q1,↓gP,gY,gT];exact l9.done ⟨rfl,rfl,rfl,one⟩|false=>
   cases q2:decide (b.toNat=9)with
    |true=>simp(disch:=try exact dz)only[b2T,hx,hinc,di,q1,q2,↓gP,gY,gT];exact l9.done ⟨rfl,rfl,rfl,one⟩|false=>
     cases q3:decide (b.toNat=10)with
      |true=>simp(disch:=try exact dz)only[b2T,hx,hinc,di,q1,q2,q3,↓gP,gY,gT];exact l9.done ⟨rfl,rfl,rfl,one⟩|false=>
       cases q4:decide (b.toNat=13)with
        |true=>simp(disch:=try exact dz)only[b2T,hx,hinc,di,q1,q2,q3,q4,↓gP,gY,gT];exact l9.done ⟨rfl,rfl,rfl,one⟩|false=>
         cases t with
          |nil=>have hl:=a3y d2;have e1:decide (a+1<T.length)=false:=wP zy;simp(disch:=try exact dz)only[b2T,hx,hinc,di,dL,q1,q2,q3,q4,e1,↓gP,gY,gT];exact l9.done ⟨rfl,rfl,rfl,zero⟩|cons b1 t1=>
           obtain⟨d4,d5,d6⟩:=a5S d2;have e1:decide (a+1<T.length)=true:=wL d6;have hsl:∀kl kh,a6x (.string ⟨⟨T⟩⟩) (some (.int kl (.ofNat a))) (some (.int kh (.ofNat (a+2))))=M.pure (.string ⟨⟨[b,b1]⟩⟩):=λkl kh=>by
            rw[a5m ⟨⟨T⟩⟩ kl kh a (a+2) zy (by rw[F9];show a+2<=T.length;omega),uK];have e1:H9 T a=b::b1::t1:=by rw[a0D];exact hd
            show M.pure (Value.string ⟨⟨a0x (H9 T a) 2⟩⟩)=_;rw[e1,a2m];rfl
           cases q5:beqBytes [b,b1] [59,59]with|true=>simp(disch:=try exact dz)only[b2T,hx,hinc,htw,hsl,di,dL,q1,q2,q3,q4,e1,q5,↓gP,gY,gT];refine l9.bindC (e8g hT m zy _ _) λx s hq=>?_;obtain⟨f1,f2,rfl⟩:=hq;obtain⟨c',h',r',w'⟩:=s;simp(disch:=try exact dz)only[gY];refine l9.done ⟨f1,f2,?_,λn h=>?_⟩;rw[hd];rfl;cases h;have h7:=c1H nlB (b::b1::t1);have hlen:=wB List.length hd;simp only[uq,wI]at hlen h7;omega|false=>cases q6:beqBytes [b,b1] [40,59]with|true=>have hb:=a4X q6;cases hb;simp(disch:=try exact dz)only[b2T,hx,hinc,htw,hsl,di,dL,q1,q2,q3,q4,e1,q5,q6,↓gP,gY,gT];refine l9.bindC (e8a hT m hd _ _) λx s hq=>?_;obtain⟨f1,f2,rfl,f4⟩:=hq;obtain⟨c',h',r',w'⟩:=s;simp(disch:=try exact dz)only[gY];exact l9.done ⟨f1,f2,rfl,f4⟩|false=>simp(disch:=try exact dz)only[b2T,hx,hinc,htw,hsl,di,dL,q1,q2,q3,q4,e1,q5,q6,↓gP,gY,gT];exact l9.done ⟨rfl,rfl,rfl,zero⟩
end
end Go.Proofs.YtmomonnlmbljoaaGreatDoor
end
section
namespace Go.Proofs.YtmomonnlmbljoaaGreatDoor
open Go.V Go.RowKit Go.Shelf Go.Proofs
attribute [local congr] y7 x9 A8 A7 D5 z8 E5 G8 G7
section
variable {T:List UInt8}{c:Nat}{h:Trie VObj}
theorem e8d (hT:T.length<900000)(m):∀(t) (a k) (xs) (c) (h) (r w),T.drop a=t->t.length<k->a<=T.length->C9 xs 12=.int .i64 (.ofNat a)->l9 (go (U4 (c9M o9 NN (o8 D8 (m+1)) (.string ⟨⟨T⟩⟩)) k xs) ⟨c,h,r,w⟩) λy s=>s.c=c/\s.h=h/\∃xs',y=(.exit 0,xs')/\C9 xs' 12=.int .i64 (.ofNat (a+a1e sgN t)):=by
 intro t;induction t with
  |nil=>intro a k xs c h r w hd hk ha h1;obtain⟨k,rfl⟩:∃m,k=m+1:=⟨k-1,zU⟩;have hl:=a3y hd;have e0:decide (a<T.length)=false:=wP zy;rw[Y5];simp(disch:=try exact dz)only[c6d,h1,dL,e0,↓gP,gY];exact l9.done ⟨rfl,rfl,_,rfl,rfl⟩|cons b t ih=>
   intro a k xs c h r w hd hk ha h1;obtain⟨k,rfl⟩:∃m,k=m+1:=⟨k-1,zU⟩;obtain⟨d1,d2,d3⟩:=a5S hd;have e0:decide (a<T.length)=true:=wL d3;have hx:=a1I ⟨⟨T⟩⟩ a b d1;have hinc:=J6 a zy;rw[Y5];cases q:sgN b.toNat with
    |false=>simp(disch:=try exact dz)only[c6d,h1,dL,e0,hx,d0V,q,↓gP,gY];refine l9.done ⟨rfl,rfl,_,rfl,?_⟩;unfold a1e;rw[q];rfl|true=>
     simp(disch:=try exact dz)only[c6d,h1,dL,e0,hx,d0V,q,hinc,↓gP,gY];refine(ih (a+1) k _ c h _ _ d2 zU zy rfl).mono ?_;rintro y s ⟨f1,f2,xs',f3,f4⟩;refine⟨f1,f2,xs',f3,?_⟩;rw[f4];conv=>rhs;unfold a1e
     rw[q];show _=Value.int .i64 (.ofNat (a+(a1e _ t+1)));rw[sJ,Nat.add_comm 1]
def tkV (a:Nat):Tk->List Value|.ok k W e=>[.agg ⟨[.int .i64 (.ofNat k),.int .i64 (.ofNat a),.string ⟨⟨W⟩⟩]⟩,.int .i64 (.ofNat e),.int .i64 (.ofNat 0)]|.er p e=>[.agg ⟨[.int .i64 (.ofNat 0),.int .i64 (.ofNat 0),.string ⟨⟨[]⟩⟩]⟩,.int .i64 (.ofNat p),.int .i64 (.ofNat e)]
def Tk.fine (a n:Nat):Tk->Prop|.ok k W e=>a<e/\e<=n/\k<4|.er _ e=>e≠0
theorem e9t (hT:T.length<900000)(m){a b t}(hd:T.drop a=b::t)(r w):l9 (go (o8 D8 (m+2) 105 [.string ⟨⟨T⟩⟩,.int .i64 (.ofNat a)]) ⟨c,h,r,w⟩) λx s=>c<=s.c/\(∀i,i<c->s.h.get i=h.get i)/\x=.ret (.tuple ⟨tkV a (a6b a (b::t))⟩)/\(a6b a (b::t)).fine a T.length:=by
 rw[d9l];obtain⟨d1,d2,d3⟩:=a5S hd;have hx:=a1I ⟨⟨T⟩⟩ a b d1;have hinc:=J6 a zy;have hlen:=wB List.length hd;simp only[uq,wI]at hlen;unfold a6b;cases q1:decide (b.toNat=40)with
  |true=>simp(disch:=try exact dz)only[c6o,hx,hinc,di,q1,↓gP,gY];refine l9.done ⟨vv c,λi hi=>?_,rfl,wE a,d3,zu⟩;have k1:i≠c:=zy;simp(disch:=first|assumption|omega)only[d9]|false=>
   cases q2:decide (b.toNat=41)with
    |true=>simp(disch:=try exact dz)only[c6o,hx,hinc,di,q1,q2,↓gP,gY];refine l9.done ⟨vv c,λi hi=>?_,rfl,wE a,d3,zu⟩;have k1:i≠c:=zy;simp(disch:=first|assumption|omega)only[d9]|false=>
     cases q3:decide (b.toNat=34)with
      |true=>
       simp(disch:=try exact dz)only[c6o,hx,hinc,di,q1,q2,q3,↓gP,gY];refine l9.bindC (f0b hT m d2 d3 _ _) λx s hq=>?_;obtain⟨f1,f2,rfl,f4⟩:=hq;obtain⟨c',h',r',w'⟩:=s;simp only at f1 f2;subst f1;subst f2;cases q4:decide ((a2c a (t.length+1) t (a+1)).2=0)with
        |true=>
         have q5:=vS q4;obtain⟨f5,f6⟩:=f4 q5;obtain⟨z,hz⟩:∃z,(a2c a (t.length+1) t (a+1)).1=z+1:=⟨(a2c a (t.length+1) t (a+1)).1-1,zy⟩;have hdec:=a2H z zy;have hsl:∀kl kh,a6x (.string ⟨⟨T⟩⟩) (some (.int kl (.ofNat (a+1)))) (some (.int kh (.ofNat z)))=M.pure (.string ⟨⟨t.take (z-(a+1))⟩⟩):=λkl kh=>by
          rw[a5m ⟨⟨T⟩⟩ kl kh (a+1) z zy (by rw[F9];show z<=T.length;omega)];have e1:H9 T (a+1)=t:=by rw[a0D];exact d2
          show M.pure (Value.string ⟨⟨a0x (H9 T (a+1)) (z-(a+1))⟩⟩)=_;rw[e1,a2m]
         simp(disch:=try exact dz)only[q5,hz,hdec,hsl,↓gP,gY,gT];refine l9.done ⟨vv c,λi hi=>?_,?_,?_⟩;have k1:i≠c:=zy;simp(disch:=first|assumption|omega)only[d9];rfl;exact⟨zy,zy,zu⟩|false=>have q5:=uQ q4;simp(disch:=try exact dz)only[di,q4,↓gP,gY,gT];refine l9.done ⟨vv c,λi hi=>?_,rfl,q5⟩;have k1:i≠c:=zy;simp(disch:=first|assumption|omega)only[d9]
      |false=>
       have hNN:900002<=NN:=zu;simp(disch:=try exact dz)only[c6o,hx,hinc,di,q1,q2,q3,↓gP,gY];refine l9.bindJ (e8d hT m (b::t) a NN _ _ _ _ _ hd (by simp only[wI];omega) zy rfl) λy xs' s hq=>?_;obtain⟨c',h',r',w'⟩:=s;obtain⟨f1,f2,xs1,f3,f4⟩:=hq;cases f3;simp only at f1 f2;subst f1;subst f2;have h7:=c1H sgN (b::t);simp only[wI]at h7;cases q4:decide (a1e sgN (b::t)=0)with
        |true=>have q5:decide (a+a1e sgN (b::t)=a)=true:=wL (by have:=vS q4;omega);simp(disch:=try exact dz)only[f4,di,q5,a3r,↓gP,gY];refine l9.done ⟨vv c,λi hi=>?_,rfl,by show 4≠0;decide⟩;have k1:i≠c:=zy;simp(disch:=first|assumption|omega)only[d9]|false=>
         have q6:=uQ q4;have q5:decide (a+a1e sgN (b::t)=a)=false:=wP zy;have hsl:∀kl kh,a6x (.string ⟨⟨T⟩⟩) (some (.int kl (.ofNat a))) (some (.int kh (.ofNat (a+a1e sgN (b::t)))))=M.pure (.string ⟨⟨(b::t).take (a1e sgN (b::t))⟩⟩):=λkl kh=>by
          rw[a5m ⟨⟨T⟩⟩ kl kh a (a+a1e sgN (b::t)) zy (by rw[F9];show a+a1e sgN (b::t)<=T.length;omega),uK];have e1:H9 T a=b::t:=by rw[a0D];exact hd
          show M.pure (Value.string ⟨⟨a0x (H9 T a) (a1e sgN (b::t))⟩⟩)=_;rw[e1,a2m]
         simp(disch:=try exact dz)only[f4,di,q5,a3r,hsl,↓gP,gY];refine l9.done ⟨vv c,λi hi=>?_,rfl,?_⟩;have k1:i≠c:=zy;simp(disch:=first|assumption|omega)only[d9];exact⟨zy,zy,zu⟩
end
end Go.Proofs.YtmomonnlmbljoaaGreatDoor
end
section
namespace Go.Proofs.YtmomonnlmbljoaaGreatDoor
open Go.V Go.RowKit Go.Shelf Go.Proofs
variable {mL:Int}
attribute [local congr] y7 x9 A8 A7 D5 z8 E5 G8 G7
theorem d5A:b6N.size=3:=zw
theorem d5x:Nat.blt b6N.bytes 4096=true:=zw
structure Tok where
 k:Nat
 p:Nat
 t:List UInt8
def b5a (x:Tok):List Value:=[.int .i64 (.ofNat x.k),.int .i64 (.ofNat x.p),.string ⟨⟨x.t⟩⟩]
inductive Lx where
 | ok (l:List Tok)
 | er (p e:Nat)
noncomputable def a6p (T:List UInt8):Nat->Nat->List Tok->Lx|0,_,_=>.er 0 1|k+1,a,l=>match T.drop a with|[]=>.ok (l++[⟨4,T.length,[]⟩])|b::t=>match a7b (b::t)with|none=>.er a 3|some (n+1)=>a6p T k (a+(n+1)) l|some 0=>match a6b a (b::t)with|.er p e=>.er p e|.ok q W e=>a6p T k e (l++[⟨q,a,W⟩])
theorem b8o:∀bs:List Tok,(bs.flatMap b5a).length=bs.length*3:=xZ
theorem e4X (n a):o8 D8 (n+1) 64 [a]=c7K o9 NN (o8 D8 n) a:=Z5 (q:=c7K) (N:=NN) zw n a
structure LI (c0:Nat) (h0:Trie VObj) (c:Nat) (h:Trie VObj) (u:Sl) (l:List Tok):Prop where
 le:c0≤c
 fr:∀ i,i<c0→h.get i=h0.get i
 g:X4 3 c h u (l.flatMap b5a)
 o:∀ i,u.own i→c0≤i
theorem LI.n {c0 c h0 h u l}(H:LI c0 h0 c h u l):u.n=l.length:=by have:=H.g.1;rw[b8o]at this;omega
theorem LI.app {β c0 c h0 h u l x b}{f:Value->M β}{Q r w}(H:LI c0 h0 c h u l)(hl:l.length<1000000)(b2:b<c)(hb:h.get b=some (.cells [(.int .i64 (.ofNat x.k),0),(.int .i64 (.ofNat x.p),0),(.string ⟨⟨x.t⟩⟩,0)] 0 false))(k:∀(u') (c') (h') (r' w'),LI c0 h0 c' h' u' (l++[x])->l9 (go (f (.slice u'.a u'.n u'.e)) ⟨c',h',r',w'⟩) Q):l9 (R8 (go (a4F b6N (.slice u.a u.n u.e) (.slice (some ⟨b,0,some 0⟩) 1 3)) ⟨c,h,r,w⟩) f) Q:=by have hn:=H.n;refine l9.bindS (a5b (x:=⟨some ⟨b,0,some 0⟩,1,3⟩) (xs:=b5a x) d5A zu d5x H.g ⟨rfl,Or.inr ⟨b,0,0,_,0,false,rfl,rfl,b2,hb,rfl⟩⟩ rfl zV r w) λy s hq=>?_;obtain⟨c',h',r',w'⟩:=s;obtain⟨u',rfl,hn',hg,hc,hs1,hown,hww⟩:=hq;have hc:c<=c':=hc;have le:=H.le;refine k u' c' h' r' w' ⟨zy,λi hi=>?_,?_,λi hi=>?_⟩;exact(hs1 i zy λho=>by have:=H.o i ho;omega).trans (H.fr i hi);rw[uM,sQ];exact hg;rcases ui i c with k1|k1;exact H.o i (hown i k1 hi);omega
theorem LI.to {c0 c h0 h u l}(H:LI c0 h0 c h u l){c' h'}(hc:c<=c')(hs:∀i,i<c->h'.get i=h.get i):LI c0 h0 c' h' u l:=⟨vQ H.le hc,λi hi=>(hs i (wD hi H.le)).trans (H.fr i hi),H.g.mono hc λb k _=>hs b k,H.o⟩
section
variable {T:List UInt8}{c0:Nat}{h0:Trie VObj}
def e7W (c0:Nat)(h0:Trie VObj)(T:List UInt8)(lx:Lx)(y:Xc×List Value)(s:V.S):Prop:=(∃xs' u l,y=(.exit 0,xs')/\C9 xs' 36=.slice u.a u.n u.e/\LI c0 h0 s.c s.h u l/\l.length<=T.length/\lx=.ok (l++[⟨4,T.length,[]⟩]))\/(∃xs' p e,y=(.ret,xs')/\C9 xs' 29=.slice none 0 0/\C9 xs' 30=.int .i64 (.ofNat p)/\C9 xs' 31=.int .i64 (.ofNat e)/\c0<=s.c/\(∀i,i<c0->s.h.get i=h0.get i)/\lx=.er p e/\e≠0)
theorem n64 (hT:T.length<900000)(m):∀(k e a) (c) (h) (u) (l) (xs) (r w),T.length-a<k->a<=T.length->l.length<=a->LI c0 h0 c h u l->C9 xs 38=.int .i64 (.ofNat a)->C9 xs 36=.slice u.a u.n u.e->l9 (go (U4 (d4V o9 NN (o8 D8 (m+2)) (.string ⟨⟨T⟩⟩)) (k+e) xs) ⟨c,h,r,w⟩) (e7W c0 h0 T (a6p T k a l)):=by
 intro k;induction k with
  |zero=>intro e a c h u l xs r w hk;omega|succ k ih=>
   intro e a c h u l xs r w hk ha hla H h1 h2;rw[vY k 1 e,Y5];cases hd:T.drop a with
    |nil=>
     have hl:=a3y hd;have e0:decide (a<T.length)=false:=wP zy;have eS:a6p T (k+1) a l=.ok (l++[⟨4,T.length,[]⟩]):=by show(match T.drop a with|[]=>_|b::t=>_)=_;rw[hd]
     rw[eS];simp(disch:=try exact dz)only[e2R,h1,h2,dL,e0,↓gP,gY];exact l9.done (Or.inl ⟨_,u,l,rfl,rfl,H,zy,rfl⟩)|cons b t=>
     obtain⟨d1,d2,d3⟩:=a5S hd;have e0:decide (a<T.length)=true:=wL d3;have eS:a6p T (k+1) a l=(match a7b (b::t)with|none=>.er a 3|some (n+1)=>a6p T k (a+(n+1)) l|some 0=>match a6b a (b::t)with|.er p e=>.er p e|.ok q W e=>a6p T k e (l++[⟨q,a,W⟩])):=by show(match T.drop a with|[]=>_|b::t=>_)=_;rw[hd]
     rw[eS];simp(disch:=try exact dz)only[e2R,h1,h2,dL,e0,↓gP,gY];refine l9.bindC (e9K hT m hd _ _) λx s hq=>?_;obtain⟨c1,h1',r1,w1⟩:=s;obtain⟨f1,f2,rfl,f4⟩:=hq;simp only at f1 f2;subst f1;subst f2;cases q1:a7b (b::t)with
      |none=>have e1:decide (Int.negSucc 0<Int.ofNat 0)=true:=wJ rfl rfl;simp(disch:=try exact dz)only[c2J,e1,↓gP,gY];exact l9.done (Or.inr ⟨_,a,3,rfl,rfl,rfl,rfl,H.le,H.fr,rfl,zu⟩)|some n=>
       have hn:=f4 n q1;have e1:∀z:Nat,decide (Int.ofNat z<Int.ofNat 0)=false:=λz=>wP (λh=>zN);cases n with
        |succ n=>have e2:decide (a<a+(n+1))=true:=wL zy;simp(disch:=try exact dz)only[c2J,e1,dL,e2,↓gP,gY];exact ih e (a+(n+1)) c1 h1' u l _ _ _ zy hn zy H rfl rfl|zero=>
         have e2:decide (a<a)=false:=wP (uZ a);simp(disch:=try exact dz)only[c2J,vB,e1,dL,e2,↓gP,gY];refine l9.bindC (e9t hT m hd _ _) λx s hq=>?_;obtain⟨c2,h2',r2,w2⟩:=s;obtain⟨g1,g2,rfl,g4⟩:=hq;have g1:c1<=c2:=g1;have H2:=H.to g1 g2;cases q2:a6b a (b::t)with
          |er p e'=>
           rw[q2]at g4;have q3:decide (e'=0)=false:=wP g4;simp(disch:=try exact dz)only[tkV,di,q3,↓gP,gY,gT];refine l9.done (Or.inr ⟨_,p,e',rfl,rfl,rfl,rfl,?_,λi hi=>?_,rfl,g4⟩);have:=H2.le;dsimp only;omega;have k1:i≠c2:=by have:=H2.le;omega
           simp(disch:=first|assumption|omega)only[d9];exact H2.fr i hi|ok q W e'=>rw[q2]at g4;obtain⟨g5,g6,g7⟩:=g4;simp(disch:=try exact dz)only[tkV,↓gP,gY,gT];refine LI.app (x:=⟨q,a,W⟩) (H2.to zy λi hi=>?_) zy (wE _) (o7 _ _ _) λu' c' h' r' w' H3=>?_;have k1:i≠c2:=zy;have k2:i≠c2+1:=zy;simp(disch:=first|assumption|omega)only[d9];simp(disch:=try exact dz)only[↓gP,gY];refine ih e e' c' h' u' (l++[⟨q,a,W⟩]) _ _ _ zy g6 zm H3 ?_ ?_;rfl;rfl
theorem t64 (hT:T.length<900000)(m r w):l9 (go (o8 D8 (m+3) 64 [.string ⟨⟨T⟩⟩]) ⟨c0,h0,r,w⟩) λx s=>c0<=s.c/\(∀i,i<c0->s.h.get i=h0.get i)/\((∃l u,a6p T (T.length+1) 0 []=.ok l/\x=.ret (.tuple ⟨[.slice u.a u.n u.e,.int .i64 (.ofNat 0),.int .i64 (.ofNat 0)]⟩)/\LI c0 h0 s.c s.h u l/\l.length<=T.length+1)\/(∃p e,a6p T (T.length+1) 0 []=.er p e/\e≠0/\x=.ret (.tuple ⟨[.slice none 0 0,.int .i64 (.ofNat p),.int .i64 (.ofNat e)]⟩))):=by rw[e4X];have hNN:900002<=NN:=zu;obtain⟨e,hNe⟩:∃e,NN=T.length+1+e:=⟨NN-(T.length+1),zy⟩;have e0:decide (Int.ofNat 1048576<Int.ofNat T.length)=false:=wP (λh=>zN);simp(disch:=try exact dz)only[G64,e0,↓gP,gY];have hloop:=n64 (c0:=c0) (h0:=h0) hT m (T.length+1) e 0 c0 h0 ⟨none,0,0⟩ [] [undef,undef,undef,undef,undef,undef,undef,undef,undef,undef,undef,undef,undef,undef,undef,undef,undef,undef,undef,undef,undef,undef,undef,undef,undef,undef,undef,undef,undef,.slice none 0 0,.int .i64 (.ofNat 0),.int .i64 (.ofNat 0),undef,undef,undef,undef,.slice none 0 0,undef,.int .i64 (.ofNat 0)] r w zy (vC _) (wQ _) ⟨wQ _,λ_ _=>rfl,X4.nil _ _ _,λi hi=>(by obtain⟨a,h,_⟩:=hi;cases h)⟩ rfl rfl;rw[<-hNe]at hloop;refine l9.bindJ hloop λy xs' s hq=>?_;obtain⟨c',h',r',w'⟩:=s;rcases hq with⟨xs1,u,l,f1,f2,H,f4,f5⟩|⟨xs1,p,e,f1,f2,f3,f4,f5,f6,f7,f8⟩;cases f1;simp(disch:=try exact dz)only[f2,a3r,↓gP,gY];refine LI.app (x:=⟨4,T.length,[]⟩) (H.to (vv _) λi hi=>d9 (by dsimp only at hi;omega)) zy (wE _) (o7 _ _ _) λu' c2 h2 r2 w2 H2=>?_;simp(disch:=try exact dz)only[gY];exact l9.done ⟨H2.le,H2.fr,Or.inl ⟨_,u',f5,rfl,H2,zm⟩⟩;cases f1;simp(disch:=try exact dz)only[f2,f3,f4,↓gP,gY];exact l9.done ⟨f5,f6,Or.inr ⟨p,e,f7,f8,rfl⟩⟩
end
end Go.Proofs.YtmomonnlmbljoaaGreatDoor
end
