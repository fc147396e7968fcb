import Derived.Test.YtmomonnlmbljoaaGreatDoorBbm
set_option maxRecDepth 1000000
set_option maxHeartbeats 4000000
set_option linter.unusedVariables false
set_option linter.unusedSimpArgs false
section
namespace Go.Proofs.YtmomonnlmbljoaaGreatDoor
open Go.V Go.RowKit Go.Shelf Go.Proofs
variable {mL:Int}
attribute [local congr] y7 x9 A8 A7 D5 z8 E5 G8 G7
theorem a2l.up {G n K}(h:a2l G n K):a2l G n (K+1):=by intro d x lv m r w h1 h2 h3 h4 h5;have e:m+(K+1)=(m+1)+K:=zy;rw[e];exact h d x lv (m+1) r w h1 h2 h3 h4 h5
theorem Mv.endp {G d d1}(h:Mv G d d1 [] []){z ps v s}(he:a3H G d1 z ps v s):a3H G d z ps v s:=by obtain⟨d',N,⟨T1,e1,e0,e2,e3,e4,e5,e6,e7⟩|⟨p,e,X,e1,e0,e2,e3,e4,e5⟩⟩:=he;refine⟨d',⟨N.c,N.h,N.dp,h.st.trans N.st⟩,Or.inl ⟨T1,e1,e0,by rw[e2,h.L,wH],e3.trans h.lb,by rw[e4,h.S,wH],e5.trans h.p,e6.trans h.e,e7⟩⟩;exact h.er N e2 e3 e4 e5|>λq=>by rw[e1,e0];exact q
theorem Mv.ender {G d d1 X T}(h:Mv G d d1 X T){z z' p e v s}(he:a3H G d1 z (.er p e) v s):a3H G d z' (.er p e) v s:=by obtain⟨d',N,⟨T1,e1,_⟩|⟨p,e,X,e1,e0,e2,e3,e4,e5⟩⟩:=he;cases e1;rw[e0,e1];exact h.er N e2 e3 e4 e5
theorem a8b (row:List Nd->Ps)(T:List AI)(z:Nd)(zs:List Nd):b4g row T (z::zs)=bcase (a0A z.k (a0V z.l) [101,108,115,101]) (match row z.l.tail with|.ok T2=>(match zs with|[]=>.ok (T++[aiE 5]++T2++[aiE 11])|u::_=>.er u.p 4)|.er p e=>.er p e) (.er z.p 4):=rfl
theorem b8H {k l W}(h:a0A k (a0V l) W=true):∃a t,l=a::t:=by cases l with|nil=>cases h|cons a t=>exact⟨a,t,rfl⟩
section
variable {G:PG}{d:PD}{n K:Nat}{lv:Sl}{l:List Nd}{R:RV}{X:AI}{nm:List UInt8}{b0 b1:Nat}{v00 v03:Value}{q:Nat}{tx:List UInt8}
abbrev e1u:=λ(call:J7) (a0 a3 a4 v0:Value)=>(rfl:bvK (d2L o9 NN call a0 undef undef a3 a4) v0=o9.bv CR _ _)
noncomputable def K75 (call:J7)(a0 a4 v0 v1 a3:Value):M CR:=bvK (e1u call a0 a3 a4 v0) v1
abbrev e9f:=λ(call:J7) (a0 a4 v0 v1 a3:Value) (s:V.S)=>goE (bvE (c:=K75 call a0 a4 v0 v1 a3) (e1u call a0 a3 a4 v0) rfl) s
theorem s75 (call a0 a1 a2 a3 a4):c1E o9 NN call a0 a1 a2 a3 a4=o9.bv CR (b3t a1) λv0=>o9.bv CR (b3t a2) λv1=>K75 call a0 a4 v0 v1 a3:=d2L o9 NN call a0 a1 a2 a3 a4
theorem e9g (hF:a2l G n (K+12))(D:Dp G d)(hR:RIu d.V d.h R X)(hn:NdL (Frz G d) d.h lv l)(hz:zs l<=n)(hs:Sml d (zs l+4))(f0:Frz G d b0)(g0:d.h.get b0=some (.cells [(v00,0),(.int .i64 (.ofNat q),0),(.string ⟨⟨tx⟩⟩,0),(v03,0)] 0 false))(f1:Frz G d b1)(g1:d.h.get b1=some (.cells [(.int .i64 (.ofNat R.op),0),(.int .i64 (.ofNat R.A),0),(.int .i64 (.ofNat R.B),0),(.int .u64 (.ofNat R.N),0),(.int .i64 (.ofNat R.k),0),(.int .i64 (.ofNat R.v),0),(.int .i64 (.ofNat R.bi),0),(.slice R.ts.a R.ts.n R.ts.e,0),(.slice R.ls.a R.ls.n R.ls.e,0)] 0 false))(m r w):l9 (go (K75 (o8 D8 (m+K+13)) (.pointer (some ⟨G.ap,0,some 0⟩)) (.slice lv.a lv.n lv.e) (.pointer (some ⟨b0,0,some 0⟩)) (.pointer (some ⟨b1,0,some 0⟩)) (.string ⟨⟨nm⟩⟩)) ⟨d.c,d.h,r,w⟩) (b3o G d (zs l+4) (ifS (I9 G.F n d.L) (a0k (I9 G.F n) G.F (d.L++[nm])) q X l [])):=by
 apply d1D (Q:=λJ=>∀{d1:PD} {T:List AI} {z:Nat} (H:Mv G d d1 ([]++[nm]) T) (hS:d1.S.length<800000000) (hT:T.length+1<=z) (r w:List Nat),l9 (a1L (go (o8 D8 (m+K+10+3) 112 [.pointer (some ⟨G.ap,0,some 0⟩)]) ⟨d1.c,d1.h,r,w⟩) J noP) (b3o G d z (.ok (T++[aiE 11]))));intro key;have hll:=hn.len.2;have hNN:900001<=NN:=zu;obtain⟨e,hN⟩:∃e,NN=(l.length+1)+e:=⟨NN-(l.length+1),zy⟩;simp(disch:=try exact dz)only[e9f,↓gP,gY];have hloop:=n75 (z:=zs l+4) (row:=a0k (I9 G.F n) G.F (d.L++[nm])) (q:=q) (X:=X) (a2l.up hF:a2l G n ((K+1)+12)) hs m l e d lv [] [undef,undef,undef,undef,undef,undef,undef,undef,undef,undef,undef,undef,undef,undef,undef,undef,undef,undef,undef,undef,undef,undef,undef,undef,undef,undef,undef,undef,undef,undef,.bool false,undef,undef,.slice lv.a lv.n lv.e] r w hn (Mv.refl D) zq hz rfl rfl;rw[<-hN]at hloop;refine l9.bindJ hloop λy xs' s hq=>?_;obtain⟨c',h',r',w'⟩:=s;rcases hq with⟨xs1,d2,v',ys,T,e1,e2,e3,e4,e5,e6,H2,hT2,hz2,e7,hor⟩|⟨xs1,e1,e2⟩;cases e1;have e2:c'=d2.c:=e2;have e3:h'=d2.h:=e3;subst e2;subst e3;rw[e7];have hlen:=e6.len.1;obtain⟨p1,p2⟩:=H2.st.fz b0 f0;obtain⟨p3,p4⟩:=H2.st.fz b1 f1;have p2':=p2.trans g0;have p4':=p4.trans g1;have u1:=p1.1;have u3:=p3.1;have hp:=H2.dp.hp;have a1:=H2.dp.p;rcases hor with rfl|⟨y,t,rfl,hy⟩;obtain⟨va,vn,ve⟩:=v';simp only[vE]at hlen;subst hlen;simp(disch:=try exact dz)only[e4,e5,p2',V3,G72,hp,F8,PD.P,a3r,↓gP,gY,gT];refine l9.done ⟨_,rfl,?_⟩;exact H2.fail (wQ _) (λj k1 k2=>(d9 k2).trans (d9 k2)) (o7 _ _ _);obtain⟨v3,hv3,hN3⟩:=e6.tail;obtain⟨va,vn,ve⟩:=v';simp only[wI]at hlen hv3;subst hlen;obtain⟨b,p,g,cs,cur,ro,nl,hb,hg,hNn,hT,i1,i2,i3,i4,i5,i6⟩:=e6.get (i:=0) rfl;simp only at i1;have hsl:=hs.1;have hS2:d2.S.length+1<900000000:=by rw[H2.S,wG];omega
 have a2:G.ap≠d2.c:=zy;have hyz:zs (y::t)=y.z+zs t:=rfl;have hR2:RIu d2.V d2.h R X:=hR.mono λj k=>⟨H2.st.vm j k,(H2.st.fz j (D.vf j k)).2⟩;simp(disch:=try exact dz)only[e4,e5,p4',hp,F8,PD.P,di,a3r,↓gP,gY,gT,Nat.reduceEqDiff];refine Mv.appF (d:=d2) (d1:=d2) (R:=R) (X:=X) ((Mv.refl H2.dp).to (vv _) λj k=>d9 zy) hS2 (wE _) (o7 _ _ _) rfl (hR2.mono λj k=>⟨k,d9 (by have:=(H2.dp.vf j k).1;omega)⟩) λu3 c3 h3 r3 w3 hc3 hs3 hww3 H3=>?_;have a4:G.ap<c3:=zy;have hp3:h3.get G.ap=some (.cells (F8 G.sv G.fo d2.P) 0 false):=by rw[hs3 _ zy λho=>(H2.dp.oo _ ho).1 rfl];simp(disch:=first|assumption|omega)only[d9];exact hp
 have hft:=(a8w 0 0 _ _ _ _ _ _ _ (X9 λe=>a2 e.symm) (W9 _) (W9 _) (W9 _):a1A _ [([],[]),([],[]),([],[]),([],[]),([G.ap],[]),([b1],[]),([],[d2.c]),(r3,w3),([],[]),([],[]),([G.ap],[G.ap])]=true);simp(disch:=try exact dz)only[G75,hp3,F8,PD.P,↓gP,gY];have sm2:Sml d2 (zs (y::t)+4):=H2.sml hs zm zy;refine Mv.pushC (d:=d2) (d1:={d2 with oa:=u3,S:=d2.S++[X]}) (nm:=nm) H3 (by have:=sm2.2.1;dsimp only;omega) (by have:=sm2.2.2;dsimp only;omega) λd4 r4 w4 H4 st4=>?_;have hN4:=e6.mono H4.st.fz;obtain⟨b,p,g,cs,cur,ro,nl,hb,hg,hNn,hT,i1,i2,i3,i4,i5,i6⟩:=hN4.get (i:=0) rfl;simp only at i1;have hb4:=hb.1;obtain⟨yh,yt,hyl⟩:=b8H hy;obtain⟨v4,hv4,hN5⟩:=(hyl▸hNn:NdL (Frz G d4) d4.h nl (yh::yt)).tail;have hz0:=a8J y;rw[hyl]at hz0;have hz0':y.z=4+(yh.z+zs yt):=hz0;have etl:y.l.tail=yt:=by rw[hyl];rfl
 simp(disch:=try exact dz)only[i1,i6,hg,hv4,↓gP,gY];refine Mv.rowC (z:=zs l+4) hF H4 hN5 zy (H4.sml sm2 zm zm) (λd5 T1 r5 w5 eT hT1 H5 st5=>?_) (λs p e eT hend=>?_);have eT':a0k (I9 G.F n) G.F (d.L++[nm]) y.l.tail=.ok T1:=by rw[etl];rw[H4.L,H2.L,wH]at eT;exact eT
 have eS:ifS (I9 G.F n d.L) (a0k (I9 G.F n) G.F (d.L++[nm])) q X (y::t) T=b4g (a0k (I9 G.F n) G.F (d.L++[nm])) (T++[X]++T1) t:=by
  conv=>lhs;unfold ifS
  rw[hy,A9,eT']
 rw[eS];have hN6:=hN3.mono H5.st.fz;have hl6:=hN6.len.1;have hv3':=hv3;simp(disch:=try exact dz)only[hv3,↓gP,gY,gT];cases t with
  |nil=>obtain⟨va3,vn3,ve3⟩:=v3;simp only[vE]at hl6;subst hl6;have e0:decide (Int.ofNat 0<Int.ofNat 0)=false:=wJ rfl rfl;simp(disch:=try exact dz)only[e0,↓gP,gY];have H6:=H2.trans H5;have:=key (z:=zs l+4) (T:=T++([X]++T1)) H6 (by have:=H6.S;rw[this];simp;omega) zm r5 w5;rw[<-vw]at this;exact this|cons z2 t2=>
   obtain⟨v7,hv7,hN7⟩:=hN6.tail;obtain⟨va3,vn3,ve3⟩:=v3;simp only[wI]at hl6 hv7;subst hl6;obtain⟨b6,p6,g6,cs6,cur6,ro6,nl6,hb6,hg6,hNn6,hT6,j1,j2,j3,j4,j5,j6⟩:=hN6.get (i:=0) rfl;simp only at j1;have hb66:=hb6.1;have e0:decide (Int.ofNat 0<Int.ofNat (t2.length+1))=true:=wL (uk.2 (qz _));obtain⟨zz,hz3⟩:=b1z hNn6.hd (m+K+12);have hz4:=λr w W=>hz3 d5.c d5.h r w z2.k z2.p z2.t W (λi hi=>hi.1) (λi hi=>rfl);have hp5:=H5.dp.hp;have a5:=H5.dp.p;have a6:G.ap≠d5.c:=zy;have hzz:zs (z2::t2)=z2.z+zs t2:=rfl;cases q1:a0A z2.k (a0V z2.l) [101,108,115,101]with
    |false=>simp(disch:=try exact dz)only[e0,j1,j2,j4,hg6,hz4,q1,V3,G72,hp5,F8,PD.P,↓gP,gY,gT];refine l9.done ⟨_,rfl,?_⟩;rw[a8b];rw[q1,y9];exact(H2.trans H5).fail (wQ _) (λj k1 k2=>(d9 k2).trans (d9 k2)) (o7 _ _ _)|true=>
     obtain⟨zh,zt,hzl⟩:=b8H q1;have hz7:=a8J z2;rw[hzl]at hz7;have hz7':z2.z=4+(zh.z+zs zt):=hz7;have etl2:z2.l.tail=zt:=by rw[hzl];rfl
     simp(disch:=try exact dz)only[e0,j1,j2,j4,hg6,hz4,q1,hp5,F8,PD.P,↓gP,gY,gT];refine Mv.appB (d:=d5) (d1:=d5) (R:=rvE 5) (X:=aiE 5) ((Mv.refl H5.dp).to (vv _) λj k=>d9 zy) (by rw[H5.S];have:=sm2.1;simp;omega) (wE _) (o7 _ _ _) rfl (riE _ _ _) λu8 c8 h8 r8 w8 hc8 hs8 H8'=>?_;have H8:=H5.trans H8';have e9:d5.L=d.L++[nm]:=by rw[H5.L,H2.L,wH,vR]
     have a7:G.ap<c8:=zy;have hp8:h8.get G.ap=some (.cells (F8 G.sv G.fo d5.P) 0 false):=by rw[hs8 _ zy λho=>(H5.dp.oo _ ho).1 rfl];simp(disch:=first|assumption|omega)only[d9];exact hp5
     have a8:b6≠G.ap:=hb6.2.1;have a9:b6≠d5.c:=zy;have a10:b6<c8:=zy;have hg8:h8.get b6=some (.cells cs6 cur6 ro6):=by rw[hs8 _ zy hb6.2.2.2.2];simp(disch:=first|assumption|omega)only[d9];exact hg6
     have st8:=H8'.st.fz;obtain⟨v9,hv9,hN9⟩:=(hzl▸hNn6:NdL (Frz G d5) d5.h nl6 (zh::zt)).tail;simp(disch:=try exact dz)only[hp8,F8,PD.P,j6,hg8,hv9,↓gP,gY];refine Mv.rowC (d1:={d5 with c:=c8,h:=V.upd h8 G.ap (.cells (F8 G.sv G.fo ⟨u8,d5.lb,d5.p,d5.e⟩) 0 false),oa:=u8,S:=d5.S++[aiE 5]}) (z:=zs l+4) hF H8 (hN9.mono st8) zy (H8.sml sm2 zm zm) (λd10 T2 r10 w10 eT2 hT2' H10 st10=>?_) (λs p e eT2 hend=>?_);have eT2':a0k (I9 G.F n) G.F (d.L++[nm]) z2.l.tail=.ok T2:=by rw[etl2];dsimp only at eT2;rw[e9]at eT2;exact eT2
     cases t2 with
      |nil=>
       have e1:decide (Int.ofNat 1<Int.ofNat (0+1))=false:=wJ rfl rfl;rw[a8b];rw[q1,A9,eT2'];simp(disch:=try exact dz)only[vE,e1,↓gP,gY,gT];have H11:=H2.trans H10;have:=key (z:=zs l+4) (T:=T++([X]++T1++[aiE 5]++T2)) H11 (by have:=H11.S;rw[this];simp;omega) zm r10 w10;have e2:T++[X]++T1++[aiE 5]++T2++[aiE 11]=T++([X]++T1++[aiE 5]++T2)++[aiE 11]:=by simp only[vw]
       rw[e2];exact this|cons z3 t3=>have e1:decide (Int.ofNat 1<Int.ofNat (t3.length+1+1))=true:=wL (uk.2 zy);obtain⟨b10,p10,g10,cs10,cur10,ro10,nl10,hb10,hg10,hNn10,hT10,m1,m2,m3,m4,m5,m6⟩:=((hN6.mono st8).mono st10.fz).get (i:=1) rfl;simp only[wI]at m1;have hp10:=H10.dp.hp;have a11:=H10.dp.p;have a12:=hb10.1;rw[a8b,q1,A9,eT2'];simp(disch:=try exact dz)only[wI,e1,m1,m4,hg10,V3,G72,hp10,F8,PD.P,↓gP,gY,gT];refine l9.done ?_;refine⟨_,rfl,?_⟩;exact(H2.trans H10).fail (wQ _) (λj k1 k2=>(d9 k2).trans (d9 k2)) (o7 _ _ _)
     have eT2':a0k (I9 G.F n) G.F (d.L++[nm]) z2.l.tail=.er p e:=by rw[etl2];dsimp only at eT2;rw[e9]at eT2;exact eT2
     rw[a8b];rw[q1,A9,eT2'];obtain⟨c',h',r',w'⟩:=s;simp(disch:=try exact dz)only[↓gP,gY,gT];refine l9.done ?_;exact⟨_,rfl,H2.ender (hend _ _ _ _ (wQ _) λj k=>rfl)⟩
 have eT':a0k (I9 G.F n) G.F (d.L++[nm]) y.l.tail=.er p e:=by rw[etl];rw[H4.L,H2.L,wH]at eT;exact eT
 have eS:ifS (I9 G.F n d.L) (a0k (I9 G.F n) G.F (d.L++[nm])) q X (y::t) T=.er p e:=by
  conv=>lhs;unfold ifS
  rw[hy,A9,eT']
 rw[eS];obtain⟨c',h',r',w'⟩:=s;simp(disch:=try exact dz)only[↓gP,gY,gT];exact l9.done ⟨_,rfl,H2.ender (hend _ _ _ _ (wQ _) λj k=>rfl)⟩;cases e1;simp(disch:=try exact dz)only[↓gP,gY];exact l9.done ⟨_,rfl,e2⟩;intro d1 T z H hS hT r w;refine Mv.popC (d:=d) (Y:=[]) (nm:=nm) H λd4 r4 w4 H4 st4=>?_;have hp4:=H4.dp.hp;have a5:=H4.dp.p;have a6:G.ap≠d4.c:=zy;simp(disch:=try exact dz)only[hp4,F8,PD.P,↓gP,gY];refine Mv.appB (d:=d) (d1:=d4) (R:=rvE 11) (X:=aiE 11) (H4.to (vv _) λj k=>d9 zy) ?_ (wE _) (o7 _ _ _) rfl (riE _ _ _) λu5 c5 h5 r5 w5 hc5 hs5 H5=>?_;rw[H4.S];have:=H.S;rw[this]at hS;omega;have a7:G.ap<c5:=zy;have hp5:h5.get G.ap=some (.cells (F8 G.sv G.fo d4.P) 0 false):=xC;simp(disch:=try exact dz)only[hp5,F8,PD.P,↓gP,gY];exact l9.done ⟨_,rfl,H5.ok (by rw[wG];exact hT)⟩
end
end Go.Proofs.YtmomonnlmbljoaaGreatDoor
end
section
namespace Go.Proofs.YtmomonnlmbljoaaGreatDoor
open Go.V Go.RowKit Go.Shelf Go.Proofs
variable {mL:Int}
attribute [local congr] y7 x9 A8 A7 D5 z8 E5 G8 G7
theorem Mv.insC {β G}{d d1:PD}{Y T l i lv x c1 m z h1}{kn kp:Value->M β}{Q r w}(H:Mv G d {d1 with c:=c1,h:=h1} Y T)(hN:NdL (Frz G {d1 with c:=c1,h:=h1}) h1 lv l)(hi:l[i]?=some x)(kok:∀X nm nx R (d2) r' w',a1v G.F d1.L l i x=.ok X nm nx->i<nx->nx<=l.length->Mv G d d2 Y T->d2.L=d1.L->RIu d2.V d2.h R X->Stp G {d1 with c:=c1,h:=h1} d2->l9 (go (kn (.tuple ⟨[.agg ⟨a2y R⟩,.string ⟨⟨nm⟩⟩,.int .i64 (.ofNat nx),.bool true]⟩)) ⟨d2.c,d2.h,r',w'⟩) Q)(ker:∀p e R v2 v3 c' h' r' w',a1v G.F d1.L l i x=.er p e->(∀c2 h2 r w,c'<=c2->(∀j,j<c'->h2.get j=h'.get j)->a3H G d z (.er p e) (.bool false) ⟨c2,h2,r,w⟩)->l9 (go (kn (.tuple ⟨[.agg ⟨a2y R⟩,v2,v3,.bool false]⟩)) ⟨c',h',r',w'⟩) Q):l9 (a1L (go (o8 D8 (m+10) 73 [.pointer (some ⟨G.ap,0,some 0⟩),.slice lv.a lv.n lv.e,.int .i64 (.ofNat i)]) ⟨c1,h1,r,w⟩) kn kp) Q:=by have hN2:=hN.mono (U':=Rdb G {d1 with c:=c1,h:=h1}) (h':=h1) λj k=>⟨Or.inl k,rfl⟩;refine l9.bindC (t73 H.dp.env m H.dp.pt hN2 hi r w) λy s hq=>?_;obtain⟨c',h',r',w'⟩:=s;obtain⟨hc,hs,⟨X,nm,nx,R,e1,rfl,hR,hP,k1,k2⟩|⟨p,e,R,v2,v3,e1,rfl,hP⟩⟩:=hq;obtain⟨D,S⟩:=H.dp.rd hc hs hP.hp;refine kok X nm nx R {d1 with c:=c',h:=h',p:=d1.p,e:=d1.e,V:=λj=>d1.V j\/c1<=j/\j<c'} r' w' e1 k1 k2 ?_ rfl hR.u S;have:=H.trans (Y:=[]) (T':=[]) ⟨D,S,(wH _).symm,rfl,(wH _).symm,rfl,rfl⟩;rwa[wH,wH]at this;refine ker p e R v2 v3 c' h' r' w' e1 λc2 h2 r w q1 q2=>?_;have hc':c1<=c':=hc;have a1:=hP.p;dsimp only at a1;exact H.fail (vQ hc' q1) (λj k1 k2=>(q2 j (wD k1 hc')).trans (hs j k1 k2)) ((q2 _ a1).trans hP.hp)
def e7I (G:PG)(d:PD)(z lz:Nat)(ps:Ps)(y:Xc×List Value)(s:V.S):Prop:=(∃xs' d' T,y=(.exit 1,xs')/\s.c=d'.c/\s.h=d'.h/\Mv G d d' [] T/\T.length<=lz/\ps=.ok T)\/(∃xs' p e,y=(.ret,xs')/\ps=.er p e/\a3H G d z ps (C9 xs' 18) s)
section
variable {G:PG}{d:PD}{n K:Nat}{lv:Sl}{l:List Nd}{lz z:Nat}
theorem n71 (hF:a2l G n (K+12))(hs:Sml d lz)(D0:Dp G d)(hn:NdL (Frz G d) d.h lv l)(hl:zs l<=lz)(hz2:zs l<=n)(m):∀(k e i) (d1) (T) (xs) (r w),l.length=i+k->Mv G d d1 [] T->T.length+zs (l.drop i)<=lz->C9 xs 20=.int .i64 (.ofNat i)->C9 xs 18=.bool false->l9 (go (U4 (d4O o9 NN (o8 D8 (m+K+12)) (.int .i64 (.ofNat l.length)) (.slice lv.a lv.n lv.e) (.pointer (some ⟨G.pc,0,some 0⟩))) (k+1+e) xs) ⟨d1.c,d1.h,r,w⟩) (e7I G d z lz (a7P (I9 G.F n d.L) (l.drop i) T)):=by
 intro k;induction k with
  |zero=>intro e i d1 T xs r w hk H hz h1 h2;rw[vY 0 1 e,Y5];have e0:decide (Int.ofNat i<Int.ofNat l.length)=false:=wP (λh=>zN);have ed:l.drop i=[]:=tQ zy;rw[ed];simp(disch:=try exact dz)only[d1B,h1,h2,e0,↓gP,gY];exact l9.done (Or.inl ⟨_,d1,T,rfl,rfl,rfl,H,zy,rfl⟩)|succ k ih=>
   intro e i d1 T xs r w hk H hz h1 h2;rw[vY (k+1) 1 e,Y5];have hlt:i<l.length:=zy;obtain⟨y,hy⟩:∃y,l[i]?=some y:=⟨_,wO hlt⟩;have ed:l.drop i=y::l.drop (i+1):=by rw[tK hlt];rw[wO hlt]at hy;cases hy;rfl
   have hyz:=a9i hy;have hyn:=c1n hy;have hN:=hn.mono H.st.fz;obtain⟨b,p,g,cs,cur,ro,nl,hb,hg,hNn,hT,e1,e2,e3,e4,e5,e6⟩:=hN.get hy;have hlen:=hn.len.1;have hll:=hn.len.2;obtain⟨la,ln,le⟩:=lv;simp only at hlen e1;subst hlen;have hb1:=hb.1;have hb2:b≠d1.c:=zy;have hp:=H.dp.hp;have a1:=H.dp.p;have a2:G.ap≠d1.c:=zy;have hpc:=H.dp.hpc;have a3:=(H.dp.vf _ H.dp.pc).1;have a4:G.pc≠d1.c:=zy;have a5:G.pc≠G.ap:=(H.dp.vf _ H.dp.pc).2.1;have hinc:=J6 i zy;have e0:decide (Int.ofNat i<Int.ofNat l.length)=true:=wL (uk.2 hlt);rw[ed];by_cases hk0:y.k=0;simp(disch:=try exact dz)only[d1B,G71,h1,h2,e0,e1,e2,hg,hk0,hp,hpc,F8,PD.P,b2M,↓gP,gY,gT];have hbx:∀j,j<d1.c->(V.upd (V.upd d1.h d1.c (.cells [(.int .i64 (.ofNat 0),0),(.int .i64 (.ofNat 0),0),(.string ⟨⟨[]⟩⟩,0),(.slice none 0 0,0)] 0 false)) d1.c (.cells [(.int .i64 (.ofNat 0),0),(.int .i64 (.ofNat y.p),0),(.string ⟨⟨y.t⟩⟩,0),(.slice nl.a nl.n nl.e,0)] 0 false)).get j=d1.h.get j:=λj k=>by have k1:j≠d1.c:=zy;simp(disch:=first|assumption|omega)only[d9]
   refine Mv.foldF (z:=z) hF (H.to (c':=d1.c+1) (h':=(V.upd (V.upd d1.h d1.c (.cells [(.int .i64 (.ofNat 0),0),(.int .i64 (.ofNat 0),0),(.string ⟨⟨[]⟩⟩,0),(.slice none 0 0,0)] 0 false)) d1.c (.cells [(.int .i64 (.ofNat 0),0),(.int .i64 (.ofNat y.p),0),(.string ⟨⟨y.t⟩⟩,0),(.slice nl.a nl.n nl.e,0)] 0 false))) (vv _) hbx) hk0 zy (hNn.mono λj k=>⟨⟨qN k.1,k.2⟩,hbx j k.1⟩) (H.sml hs zm zy) (λd2 T1 r2 w2 eT hT H2 st2=>?_) (λc2 h2' r2 w2 p2 e2' eT hend=>?_);have eL:d1.L=d.L:=xL;have eS:a7P (I9 G.F n d.L) (y::l.drop (i+1)) T=a7P (I9 G.F n d.L) (l.drop (i+1)) (T++T1):=by
    dsimp only at eT;rw[eL]at eT;conv=>lhs;unfold a7P
    rw[wL hk0,A9,eT]
   rw[eS];simp(disch:=try exact dz)only[hinc,↓gP,gY,gT];exact ih e (i+1) d2 (T++T1) _ _ _ zy H2 wT rfl rfl;have eL:d1.L=d.L:=xL;have eS:a7P (I9 G.F n d.L) (y::l.drop (i+1)) T=.er p2 e2':=by
    dsimp only at eT;rw[eL]at eT;conv=>lhs;unfold a7P
    rw[wL hk0,A9,eT]
   rw[eS];simp(disch:=try exact dz)only[↓gP,gY,gT];exact l9.done (Or.inr ⟨_,p2,e2',rfl,rfl,hend _ _ _ _ (wQ _) λj k=>rfl⟩);have hk':decide (y.k=0)=false:=wP hk0;simp(disch:=try exact dz)only[d1B,G71,h1,h2,e0,e1,e2,hg,hk',di,hp,hpc,F8,PD.P,V3,G72,↓gP,gY,gT];have eS:a7P (I9 G.F n d.L) (y::l.drop (i+1)) T=.er y.p 4:=by unfold a7P;rw[hk'];rfl
   rw[eS];refine l9.done (Or.inr ⟨_,y.p,4,rfl,rfl,H.fail (vv _) (λj k1 k2=>?_) (o7 _ _ _)⟩);have k3:j≠d1.c:=zy;simp(disch:=first|assumption|omega)only[d9]
end
end Go.Proofs.YtmomonnlmbljoaaGreatDoor
end
section
namespace Go.Proofs.YtmomonnlmbljoaaGreatDoor
open Go.V Go.RowKit Go.Shelf Go.Proofs
variable {mL:Int}
attribute [local congr] y7 x9 A8 A7 D5 z8 E5 G8 G7
theorem e4w (n a b):o8 D8 (n+1) 71 [a,b]=c6z o9 NN (o8 D8 n) a b:=a2h (q:=c6z) (N:=NN) zw n a b
theorem a9I (F:Nat->List (Value×Value))(n:Nat)(L:List (List UInt8))(x w:Nd)(t:List Nd)(h:x.l=w::t):I9 F (n+1) L x=bcase (decide (w.k=2)) (bcase (a3X w.t||isEn w.t) (.er w.p 16) (match a1v F L x.l 0 w with|.er p e=>.er p e|.ok X nm nx=>bcase (decide (X.op=2)||decide (X.op=3)) (a6T (a0k (I9 F n) F (L++[nm])) X (x.l.drop nx)) (bcase (decide (X.op=4)) (ifS (I9 F n L) (a0k (I9 F n) F (L++[nm])) w.p X (x.l.drop nx) []) (a6Y (I9 F n L) X (x.l.drop nx))))) (.er x.p 4):=by show(match x.l with|[]=>_|w::_=>_)=_;rw[h];rfl
theorem a3H.z {G d z z' ps v s}(h:a3H G d z ps v s)(hz:z<=z'):a3H G d z' ps v s:=by obtain⟨d',N,⟨T1,e1,e0,e2,e3,e4,e5,e6,e7⟩|hq⟩:=h;exact⟨d',N,Or.inl ⟨T1,e1,e0,e2,e3,e4,e5,e6,vQ e7 hz⟩⟩;exact⟨d',N,Or.inr hq⟩
section
variable {G:PG}{d:PD}{n K:Nat}{lv:Sl}{l:List Nd}{R:RV}{X:AI}{nm:List UInt8}{wn:Nd}{wl:Sl}
theorem t75 (hF:a2l G n (K+12))(D:Dp G d)(hR:RIu d.V d.h R X)(hn:NdL (Frz G d) d.h lv l)(hz:zs l<=n)(hs:Sml d (zs l+4))(m r w):l9 (go (o8 D8 (m+K+14) 75 [.pointer (some ⟨G.ap,0,some 0⟩),.agg ⟨[.int .i64 (.ofNat wn.k),.int .i64 (.ofNat wn.p),.string ⟨⟨wn.t⟩⟩,.slice wl.a wl.n wl.e]⟩,.agg ⟨a2y R⟩,.string ⟨⟨nm⟩⟩,.slice lv.a lv.n lv.e]) ⟨d.c,d.h,r,w⟩) (b3o G d (zs l+4) (ifS (I9 G.F n d.L) (a0k (I9 G.F n) G.F (d.L++[nm])) wn.p X l [])):=by
 rw[e3W,s75];simp(disch:=try exact dz)only[a2y,↓gP,gY];have hb:∀j,j<d.c->(V.upd (V.upd d.h d.c (.cells [(.int .i64 (.ofNat wn.k),0),(.int .i64 (.ofNat wn.p),0),(.string ⟨⟨wn.t⟩⟩,0),(.slice wl.a wl.n wl.e,0)] 0 false)) (d.c+1) (.cells [(.int .i64 (.ofNat R.op),0),(.int .i64 (.ofNat R.A),0),(.int .i64 (.ofNat R.B),0),(.int .u64 (.ofNat R.N),0),(.int .i64 (.ofNat R.k),0),(.int .i64 (.ofNat R.v),0),(.int .i64 (.ofNat R.bi),0),(.slice R.ts.a R.ts.n R.ts.e,0),(.slice R.ls.a R.ls.n R.ls.e,0)] 0 false)).get j=d.h.get j:=λj k=>by have k1:j≠d.c:=zy;have k2:j≠d.c+1:=zy;simp(disch:=first|assumption|omega)only[d9]
 have H:=(Mv.refl D).to (c':=d.c+1+1) zy hb;have k3:d.c≠d.c+1:=zy;refine(e9g (n:=n) (K:=K) (b0:=d.c) (b1:=d.c+1) hF H.dp (hR.mono λj k=>⟨k,hb j (D.vf j k).1⟩) (hn.mono λj k=>⟨⟨wD k.1 H.st.le,k.2⟩,hb j k.1⟩) hz (H.sml hs zq zq) (D.frz_new (wQ _) zy) (by rw[d9 k3,o7]) (D.frz_new (vv _) zy) (by rw[o7]) m _ _).mono ?_;rintro y s ⟨v,rfl,hq⟩;exact⟨v,rfl,H.endp hq⟩
end
section
variable {G:PG}{d:PD}{n K:Nat}{lv:Sl}{x:Nd}
theorem t71 (hF:a2l G n (K+12)):a2l G (n+1) (K+15):=by
 intro d x lv m r w D hz hk hn hs;show l9 (go (o8 D8 (m+K+15) 71 _) _) _;have hp:=D.hp;have a1:=D.p;have a2:G.ap≠d.c:=zy;have hpc:=D.hpc;have a3:=(D.vf _ D.pc).1;have a4:G.pc≠d.c:=zy;have a5:G.pc≠G.ap:=(D.vf _ D.pc).2.1;have hlen:=hn.len.1;have hll:=hn.len.2;have hxz:=a8J x;have hbx:∀j,j<d.c->(V.upd d.h d.c (.cells [(.int .i64 (.ofNat 0),0),(.int .i64 (.ofNat x.p),0),(.string ⟨⟨x.t⟩⟩,0),(.slice lv.a lv.n lv.e,0)] 0 false)).get j=d.h.get j:=λj k=>d9 zy;have H1:Mv G d {d with c:=d.c+1,h:=(V.upd d.h d.c (.cells [(.int .i64 (.ofNat 0),0),(.int .i64 (.ofNat x.p),0),(.string ⟨⟨x.t⟩⟩,0),(.slice lv.a lv.n lv.e,0)] 0 false))} [] []:=(Mv.refl D).to (vv _) hbx;rw[e4w];unfold ndV;cases hl:x.l with
  |nil=>
   rw[hl]at hlen;obtain⟨la,ln,le⟩:=lv;simp only[vE]at hlen;subst hlen;have eS:I9 G.F (n+1) d.L x=.er x.p 4:=by show(match x.l with|[]=>_|w::_=>_)=_;rw[hl]
   rw[eS];simp(disch:=try exact dz)only[G71,hk,hp,hpc,F8,PD.P,V3,G72,↓gP,gY,gT];refine l9.done ?_;refine⟨_,rfl,(Mv.refl D).fail (vv _) (λj k1 k2=>?_) (o7 _ _ _)⟩;have k3:j≠d.c:=zy;simp(disch:=first|assumption|omega)only[d9]|cons wn t=>
   have hi:x.l[0]?=some wn:=by rw[hl];rfl
   obtain⟨b,p,g,cs,cur,ro,nl,hb,hg,hNn,hT,e1,e2,e3,e4,e5,e6⟩:=hn.get hi;have hb1:=hb.1;have hb2:b≠d.c:=zy;have hlen0:=hlen;rw[hl,wI]at hlen;have e0:decide (Int.ofNat lv.n=Int.ofNat 0)=false:=by rw[hlen];exact wP λh=>by have:=sZ h;omega
   rw[a9I G.F n d.L x wn t hl];by_cases hk2:wn.k=2;cases q1:a3X wn.t||isEn wn.t with
    |true=>rw[wL hk2,A9,A9];cases q2:a3X wn.t with|true=>have q2':beqBytes wn.t [101,108,115,101]=true:=q2;simp(disch:=try exact dz)only[G71,hk,hk2,e0,e1,e2,e3,hg,q2',hp,hpc,F8,PD.P,V3,G72,↓gP,gY,gT];refine l9.done ?_;refine⟨_,rfl,(Mv.refl D).fail zy (λj k1 k2=>?_) (o7 _ _ _)⟩;have k3:j≠d.c:=zy;have k4:j≠d.c+1:=zy;simp(disch:=first|assumption|omega)only[d9]|false=>rw[q2,vJ]at q1;have q2':beqBytes wn.t [101,108,115,101]=false:=q2;have q1':beqBytes wn.t [101,110,100]=true:=q1;simp(disch:=try exact dz)only[G71,hk,hk2,e0,e1,e2,e3,hg,q2',q1',hp,hpc,F8,PD.P,V3,G72,↓gP,gY,gT];refine l9.done ?_;refine⟨_,rfl,(Mv.refl D).fail zy (λj k1 k2=>?_) (o7 _ _ _)⟩;have k3:j≠d.c:=zy;have k4:j≠d.c+1:=zy;simp(disch:=first|assumption|omega)only[d9]
    |false=>
     rw[wL hk2,A9,y9];rw[sD]at q1;obtain⟨q2,q1⟩:=q1;have q2':beqBytes wn.t [101,108,115,101]=false:=q2;have q1':beqBytes wn.t [101,110,100]=false:=q1;simp(disch:=try exact dz)only[G71,hk,hk2,e0,e1,e2,e3,hg,q2',q1',hpc,↓gP,gY,gT];have hb3:∀j,j<d.c->(V.upd (V.upd (V.upd d.h d.c (.cells [(.int .i64 (.ofNat 0),0),(.int .i64 (.ofNat x.p),0),(.string ⟨⟨x.t⟩⟩,0),(.slice lv.a lv.n lv.e,0)] 0 false)) (d.c+1) (.cells [(.int .i64 (.ofNat 0),0),(.int .i64 (.ofNat 0),0),(.string ⟨⟨[]⟩⟩,0),(.slice none 0 0,0)] 0 false)) (d.c+1) (.cells [(.int .i64 (.ofNat 2),0),(.int .i64 (.ofNat wn.p),0),(.string ⟨⟨wn.t⟩⟩,0),(.slice nl.a nl.n nl.e,0)] 0 false)).get j=d.h.get j:=λj k=>by have k1:j≠d.c:=zy;have k2:j≠d.c+1:=zy;simp(disch:=first|assumption|omega)only[d9]
     have H2:=(Mv.refl D).to (c':=d.c+1+1) zy hb3;refine Mv.insC (d1:=d) (z:=x.z) H2 (hn.mono λj k=>⟨⟨by have:=k.1;dsimp only;omega,k.2⟩,hb3 j k.1⟩) hi (λX nm nx R d2 r2 w2 eX k1 k2 H3 eL hR st3=>?_) (λp3 e3 R v2 v3 c2 h2 r2 w2 eX hend=>?_);rw[eX];obtain⟨v',hv',hN'⟩:=hn.drop k2;have hzd:=d4N (l:=x.l) k1 (by rw[hl];exact qz _);rw[uC]at hzd;have hp2:=H3.dp.hp;have c1:=H3.dp.p;have c2:G.ap≠d2.c:=zy;have hpc2:=H3.dp.hpc;have c3:=(H3.dp.vf _ H3.dp.pc).1;have c4:G.pc≠d2.c:=zy;obtain⟨s1,s2⟩:=st3.fz d.c (D.frz_new (wQ _) zy);have k3:d.c≠d.c+1:=zy;dsimp only at s2;simp(disch:=first|assumption|omega)only[d9,o7]at s2;obtain⟨s3,s4⟩:=st3.fz (d.c+1) (D.frz_new (vv _) zy);dsimp only at s4;simp(disch:=first|assumption|omega)only[o7]at s4;have s5:=s1.1;have s6:=s3.1;have s7:d.c≠d2.c:=zy;have s8:d.c+1≠d2.c:=zy;have eop:=hR.e.1;have hb4:∀j,j<d2.c->(V.upd (V.upd d2.h d2.c (.cells [(.int .i64 (.ofNat 0),0),(.int .i64 (.ofNat 0),0),(.int .i64 (.ofNat 0),0),(.int .u64 (.ofNat 0),0),(.int .i64 (.ofNat 0),0),(.int .i64 (.ofNat 0),0),(.int .i64 (.ofNat 0),0),(.slice none 0 0,0),(.slice none 0 0,0)] 0 false)) d2.c (.cells [(.int .i64 (.ofNat R.op),0),(.int .i64 (.ofNat R.A),0),(.int .i64 (.ofNat R.B),0),(.int .u64 (.ofNat R.N),0),(.int .i64 (.ofNat R.k),0),(.int .i64 (.ofNat R.v),0),(.int .i64 (.ofNat R.bi),0),(.slice R.ts.a R.ts.n R.ts.e,0),(.slice R.ls.a R.ls.n R.ls.e,0)] 0 false)).get j=d2.h.get j:=λj k=>by have k1:j≠d2.c:=zy;simp(disch:=first|assumption|omega)only[d9]
     have H4:=H3.to (c':=d2.c+1) (vv _) hb4;have hR4:RIu d2.V (V.upd (V.upd d2.h d2.c (.cells [(.int .i64 (.ofNat 0),0),(.int .i64 (.ofNat 0),0),(.int .i64 (.ofNat 0),0),(.int .u64 (.ofNat 0),0),(.int .i64 (.ofNat 0),0),(.int .i64 (.ofNat 0),0),(.int .i64 (.ofNat 0),0),(.slice none 0 0,0),(.slice none 0 0,0)] 0 false)) d2.c (.cells [(.int .i64 (.ofNat R.op),0),(.int .i64 (.ofNat R.A),0),(.int .i64 (.ofNat R.B),0),(.int .u64 (.ofNat R.N),0),(.int .i64 (.ofNat R.k),0),(.int .i64 (.ofNat R.v),0),(.int .i64 (.ofNat R.bi),0),(.slice R.ts.a R.ts.n R.ts.e,0),(.slice R.ls.a R.ls.n R.ls.e,0)] 0 false)) R X:=hR.mono λj k=>⟨k,hb4 j (H3.dp.vf j k).1⟩;have hN4:NdL (Frz G {d2 with c:=d2.c+1,h:=(V.upd (V.upd d2.h d2.c (.cells [(.int .i64 (.ofNat 0),0),(.int .i64 (.ofNat 0),0),(.int .i64 (.ofNat 0),0),(.int .u64 (.ofNat 0),0),(.int .i64 (.ofNat 0),0),(.int .i64 (.ofNat 0),0),(.int .i64 (.ofNat 0),0),(.slice none 0 0,0),(.slice none 0 0,0)] 0 false)) d2.c (.cells [(.int .i64 (.ofNat R.op),0),(.int .i64 (.ofNat R.A),0),(.int .i64 (.ofNat R.B),0),(.int .u64 (.ofNat R.N),0),(.int .i64 (.ofNat R.k),0),(.int .i64 (.ofNat R.v),0),(.int .i64 (.ofNat R.bi),0),(.slice R.ts.a R.ts.n R.ts.e,0),(.slice R.ls.a R.ls.n R.ls.e,0)] 0 false))}) (V.upd (V.upd d2.h d2.c (.cells [(.int .i64 (.ofNat 0),0),(.int .i64 (.ofNat 0),0),(.int .i64 (.ofNat 0),0),(.int .u64 (.ofNat 0),0),(.int .i64 (.ofNat 0),0),(.int .i64 (.ofNat 0),0),(.int .i64 (.ofNat 0),0),(.slice none 0 0,0),(.slice none 0 0,0)] 0 false)) d2.c (.cells [(.int .i64 (.ofNat R.op),0),(.int .i64 (.ofNat R.A),0),(.int .i64 (.ofNat R.B),0),(.int .u64 (.ofNat R.N),0),(.int .i64 (.ofNat R.k),0),(.int .i64 (.ofNat R.v),0),(.int .i64 (.ofNat R.bi),0),(.slice R.ts.a R.ts.n R.ts.e,0),(.slice R.ls.a R.ls.n R.ls.e,0)] 0 false)) v' (x.l.drop nx):=(hN'.mono H3.st.fz).mono λj k=>⟨⟨qN k.1,k.2⟩,hb4 j k.1⟩;have hzl:=d6K x.l nx;have hsm:Sml {d2 with c:=d2.c+1,h:=(V.upd (V.upd d2.h d2.c (.cells [(.int .i64 (.ofNat 0),0),(.int .i64 (.ofNat 0),0),(.int .i64 (.ofNat 0),0),(.int .u64 (.ofNat 0),0),(.int .i64 (.ofNat 0),0),(.int .i64 (.ofNat 0),0),(.int .i64 (.ofNat 0),0),(.slice none 0 0,0),(.slice none 0 0,0)] 0 false)) d2.c (.cells [(.int .i64 (.ofNat R.op),0),(.int .i64 (.ofNat R.A),0),(.int .i64 (.ofNat R.B),0),(.int .u64 (.ofNat R.N),0),(.int .i64 (.ofNat R.k),0),(.int .i64 (.ofNat R.v),0),(.int .i64 (.ofNat R.bi),0),(.slice R.ts.a R.ts.n R.ts.e,0),(.slice R.ls.a R.ls.n R.ls.e,0)] 0 false))} (zs (x.l.drop nx)+4):=H4.sml hs zm zm;by_cases o2:X.op=2;have q5:decide (R.op=2)=true:=wL (eop.trans o2);simp(disch:=try exact dz)only[a2y,s2,hv',hpc2,q5,di,↓gP,gY,gT];refine l9.bindC (t74 hF H4.dp hR4 hN4 zy hsm m _ _) λy s hq=>?_;obtain⟨v,rfl,hq⟩:=hq;obtain⟨c',h',r',w'⟩:=s;simp(disch:=try exact dz)only[gY];refine l9.done ?_;refine⟨v,rfl,?_⟩;rw[wL o2];have hq':=H4.endp hq;dsimp only at hq';rw[eL]at hq';exact hq'.z zy;by_cases o3:X.op=3;have q5:decide (R.op=2)=false:=wP (λe=>o2 (eop.symm.trans e));have q6:decide (R.op=3)=true:=wL (eop.trans o3);simp(disch:=try exact dz)only[a2y,s2,hv',hpc2,q5,q6,di,↓gP,gY,gT];refine l9.bindC (t74 hF H4.dp hR4 hN4 zy hsm m _ _) λy s hq=>?_;obtain⟨v,rfl,hq⟩:=hq;obtain⟨c',h',r',w'⟩:=s;simp(disch:=try exact dz)only[gY];refine l9.done ?_;refine⟨v,rfl,?_⟩;rw[wL o3,nz];have hq':=H4.endp hq;dsimp only at hq';rw[eL]at hq';exact hq'.z zy;have q5:decide (R.op=2)=false:=wP (λe=>o2 (eop.symm.trans e));have q6:decide (R.op=3)=false:=wP (λe=>o3 (eop.symm.trans e));by_cases o4:X.op=4;have q7:decide (R.op=4)=true:=wL (eop.trans o4);simp(disch:=try exact dz)only[a2y,s2,s4,hv',hpc2,q5,q6,q7,di,↓gP,gY,gT];have ht:=t75 (nm:=nm) (wn:=wn) (wl:=nl) hF H4.dp hR4 hN4 zy hsm m;rw[hk2]at ht;refine l9.bindC (ht _ _) λy s hq=>?_;obtain⟨v,rfl,hq⟩:=hq;obtain⟨c',h',r',w'⟩:=s;simp(disch:=try exact dz)only[gY];refine l9.done ?_;refine⟨v,rfl,?_⟩;rw[wP o2,wP o3,wL o4];have hq':=H4.endp hq;dsimp only at hq';rw[eL]at hq';exact hq'.z zy;have q7:decide (R.op=4)=false:=wP (λe=>o4 (eop.symm.trans e));simp only[wP o2,wP o3,wP o4];show l9 _ (b3o G d x.z (a6Y (I9 G.F n d.L) X (x.l.drop nx)));simp(disch:=try exact dz)only[a2y,s2,s4,hv',hpc2,q5,q6,q7,di,↓gP,gY,gT];obtain⟨hl4,hl5⟩:=hN4.len;have hNN:900001<=NN:=zu;obtain⟨e,hNe⟩:∃e,NN=(x.l.drop nx).length+1+e:=⟨NN-((x.l.drop nx).length+1),zy⟩;have hloop:=n71 (z:=x.z) (K:=K+2) (lz:=zs (x.l.drop nx)) hF.up.up (hsm.le zy) H4.dp hN4 (wQ _) zy m (x.l.drop nx).length e 0 _ [] [undef,undef,undef,undef,undef,undef,undef,undef,undef,undef,undef,undef,undef,undef,undef,undef,undef,undef,.bool false,undef,.int .i64 (.ofNat 0)] (d2.c::d.c::d2.c::r2) (d2.c::d2.c::w2) zq (Mv.refl H4.dp) zq rfl rfl;rw[<-hNe,<-hl4,uC]at hloop;refine l9.bindJ hloop λy xs' s hq=>?_;obtain⟨c',h',r',w'⟩:=s;unfold a6Y;rcases hq with⟨xs1,d5,T,f1,f2,f3,H5,hT,f4⟩|⟨xs1,p,e,f1,f2,f3⟩;cases f1;have f2:c'=d5.c:=f2;have f3:h'=d5.h:=f3;subst f2;subst f3;dsimp only at f4;rw[eL]at f4;rw[f4];have g1:=H5.dp.hp;have g2:=H5.dp.p;have g3:G.ap≠d5.c:=zy;have g4:=H5.dp.hpc;have g5:=(H5.dp.vf _ H5.dp.pc).1;have g6:G.pc≠d5.c:=zy;have hno:=(H5.dp.vf _ H5.dp.pc).2.2.2.2;obtain⟨u1,u2⟩:=H5.st.fz d2.c (H3.dp.frz_new (wQ _) (wE _));dsimp only at u2;rw[o7]at u2;have u3:=u1.1;have u4:d2.c≠d5.c:=zy;have hR5:RIu d5.V d5.h R X:=hR4.mono λj k=>⟨H5.st.vm j k,(H5.st.fz j (H4.dp.vf j k)).2⟩;simp(disch:=try exact dz)only[g1,g4,u2,F8,PD.P,R5,↓gP,gY];refine Mv.appF (d1:=d5) (R:=R) (X:=X) (cs:=[(.int .i64 (.ofNat R.op),0),(.int .i64 (.ofNat R.A),0),(.int .i64 (.ofNat R.B),0),(.int .u64 (.ofNat R.N),0),(.int .i64 (.ofNat R.k),0),(.int .i64 (.ofNat R.v),0),(.int .i64 (.ofNat R.bi),0),(.slice R.ts.a R.ts.n R.ts.e,0),(.slice R.ls.a R.ls.n R.ls.e,0)]) (H5.to (vv _) λj k=>d9 zy) ?_ (wE _) (o7 _ _ _) rfl (hR5.mono λj k=>⟨k,d9 (by have:=(H5.dp.vf j k).1;omega)⟩) λu' c2 h2 r3 w3 hc hs1 hww H6=>?_;have h9:=hsm.1;rw[H5.S,wG];omega;have a6:G.ap<c2:=zy;have hp6:h2.get G.ap=some (.cells (F8 G.sv G.fo d5.P) 0 false):=by rw[hs1 _ zy λho=>(H5.dp.oo _ ho).1 rfl];simp(disch:=first|assumption|omega)only[d9];exact g1
     have hft:=(a8w 0 0 _ _ _ _ _ _ _ (X9 λe=>g3 e.symm) (a8L λi hi hj=>g6 xI) (a8L λi hi hj=>g6 xI) (a8L λi hi hj=>by rw[vW]at hj;subst hj;rcases hww _ hi with k|k;exact hno k;omega):a1A _ [([G.pc],[]),([G.pc],[]),([],[]),([],[]),([G.ap],[]),([d2.c],[]),([],[d5.c]),(r3,w3),([],[]),([],[]),([G.ap],[G.ap])]=true);simp(disch:=try exact dz)only[G71,hp6,F8,PD.P,↓gP,gY];refine l9.done ?_;exact⟨_,rfl,(H4.trans H6).ok zm⟩;cases f1;rw[f2]at f3;have f3':=H4.ender (z':=x.z) f3;dsimp only at f2;rw[eL]at f2;rw[f2];simp(disch:=try exact dz)only[↓gP,gY];refine l9.done ?_;exact⟨_,rfl,f3'⟩;rw[eX];simp(disch:=try exact dz)only[a2y,↓gP,gY,gT];refine l9.done ?_;exact⟨_,rfl,hend _ _ _ _ (vv _) λj k=>by have k3:j≠c2:=zy;simp(disch:=first|assumption|omega)only[d9]⟩
   have hk2':decide (wn.k=2)=false:=wP hk2;rw[hk2',y9];simp(disch:=try exact dz)only[G71,hk,di,hk2',e0,e1,e2,e3,hg,hp,hpc,F8,PD.P,V3,G72,↓gP,gY,gT];refine l9.done ?_;refine⟨_,rfl,(Mv.refl D).fail (vv _) (λj k1 k2=>?_) (o7 _ _ _)⟩;have k3:j≠d.c:=zy;simp(disch:=first|assumption|omega)only[d9]
end
end Go.Proofs.YtmomonnlmbljoaaGreatDoor
end
section
namespace Go.Proofs.YtmomonnlmbljoaaGreatDoor
open Go.V Go.RowKit Go.Shelf Go.Proofs
variable {mL:Int}
def R9 (x:Rs):Prop:=∀p e,x=.er p e->e≠0
def XNe (x:Ix):Prop:=∀p e,x=.er p e->e≠0
theorem R9.ok (R):R9 (.ok R):=λ_ _ h=>zg
theorem XNe.ok (k):XNe (.ok k):=λ_ _ h=>zg
theorem R9.er {p e}(h:e≠0):R9 (.er p e):=λ_ _ h'=>by cases h';exact h
theorem XNe.er {p e}(h:e≠0):XNe (.er p e):=λ_ _ h'=>by cases h';exact h
theorem R9.bc {b x y}(hx:R9 x)(hy:R9 y):R9 (bcase b x y):=by cases b;exact hy;exact hx
theorem XNe.bc {b x y}(hx:XNe x)(hy:XNe y):XNe (bcase b x y):=by cases b;exact hy;exact hx
theorem R9.de {x p e}(hx:R9 x):R9 (bcase (decide (e=0)) x (.er p e)):=by by_cases h:e=0;rw[wL h];exact hx;rw[wP h];exact R9.er h
theorem XNe.de {x p e}(hx:XNe x):XNe (bcase (decide (e=0)) x (.er p e)):=by by_cases h:e=0;rw[wL h];exact hx;rw[wP h];exact XNe.er h
theorem R9.then {x f}(hx:R9 x)(hf:∀R,R9 (f R)):R9 (x.then f):=by cases x with|ok R=>exact hf R|er p e=>exact hx
theorem a2L (fd l q i):XNe (N9 fd l q i):=by unfold N9;cases l[i]? with|none=>exact XNe.er zu|some n=>exact XNe.bc (XNe.de (XNe.ok _)) (XNe.er zu)
theorem a5H {R x}(h:XNe x):R9 (a3T R x):=wV
theorem b7o {R x}(h:XNe x):R9 (b3S R x):=wV
theorem c4W (fd put l q R):R9 (a8E fd put l q R):=by unfold a8E;cases l[R.i]? with|none=>exact R9.er zu|some n=>refine R9.bc ?_ (R9.er zu);cases n.l[1]? with|none=>exact R9.er zu|some n1=>refine R9.bc (R9.de ?_) (R9.er zu);cases n.l[2]? with|some n2=>exact R9.er zu|none=>exact R9.ok _
theorem c4f (n q):XNe (a2X n q):=by unfold a2X;cases n.l[1]? with|none=>exact XNe.er zu|some n1=>refine XNe.bc ?_ (XNe.er zu);show XNe (match a3D n1.t with|none=>_|some t=>_);cases a3D n1.t with|none=>exact XNe.er zu|some t=>show XNe (match n.l[2]? with|some n2=>_|none=>_);cases n.l[2]? with|some n2=>exact XNe.er zu|none=>exact XNe.ok _
theorem d3J (l q R):R9 (a9e l q R):=by unfold a9e;cases l[R.i]? with|none=>exact R9.er zu|some n=>exact R9.bc (R9.de (R9.ok _)) (R9.er zu)
theorem d1l (l q R):R9 (a9f l q R):=by unfold a9f;cases l[R.i]? with|none=>exact R9.er zu|some n=>exact R9.bc (R9.de (R9.ok _)) (R9.er zu)
theorem d2D (l q R):R9 (b0L l q R):=by unfold b0L;cases l[R.i]? with|none=>exact R9.er zu|some n=>exact R9.bc (R9.bc (R9.ok _) (R9.bc (R9.ok _) (R9.er zu))) (R9.er zu)
theorem d7g (l R):R9 (a3t l R):=by unfold a3t;cases l[R.i]? with|none=>exact R9.ok _|some n=>exact R9.bc (R9.bc (R9.de (R9.ok _)) (R9.ok _)) (R9.ok _)
theorem d7d (l R):R9 (a8j l R):=by unfold a8j;cases l[R.i]? with|none=>exact R9.ok _|some n=>refine R9.bc (R9.bc (R9.de ?_) (R9.ok _)) (R9.ok _);cases a6k (a1t (H9 n.t 6) 18446744073709551615).1 with|some i=>exact R9.ok _|none=>exact R9.er zu
theorem d6s (fd l q R):R9 (b2U fd l q R):=R9.bc (a5H (a2L _ _ _ _)) (R9.ok _)
theorem b8a (fd l q R):R9 (a6s fd l q R):=R9.bc (b7o (a2L _ _ _ _)) (R9.ok _)
theorem c4D (fd l q R):R9 (b2Y fd l q R):=R9.bc (R9.then (a5H (a2L _ _ _ _)) λR1=>b7o (a2L _ _ _ _)) (R9.ok _)
theorem b6t (fd1 fd2 l q R):R9 (a7E fd1 fd2 l q R):=R9.bc (R9.then (b7o (a2L _ _ _ _)) λR1=>a5H (a2L _ _ _ _)) (a5H (a2L _ _ _ _))
theorem d5Z (F al l q R):R9 (b7C F al l q R):=R9.then (b8a _ _ _ _) λR1=>R9.then (d7g _ _) λR2=>d7d _ _
theorem d6k (F l q R):R9 (a6C F l q R):=by unfold a6C;cases l[R.i]? with|none=>exact R9.ok _|some n=>refine R9.bc ?_ (R9.bc (c4W _ _ _ _ _) (R9.ok _));have:=c4f n q;cases e1:a2X n q with|ok t=>exact R9.ok _|er p e=>exact R9.er (this p e e1)
theorem d6w (F L al j l q R):R9 (a1p F L al j l q R):=by unfold a1p;split;exact d6k _ _ _ _;exact a5H (a2L _ _ _ _);exact a5H (a2L _ _ _ _);exact R9.then (b8a _ _ _ _) λR1=>c4W _ _ _ _ _;exact a5H (a2L _ _ _ _);exact a5H (a2L _ _ _ _);exact d6s _ _ _ _;exact c4D _ _ _ _;exact b6t _ _ _ _ _;exact a5H (a2L _ _ _ _);exact b8a _ _ _ _;exact c4D _ _ _ _;exact b6t _ _ _ _ _;exact a5H (a2L _ _ _ _);exact d5Z _ _ _ _ _;exact d3J _ _ _;exact d1l _ _ _;exact d2D _ _ _;exact R9.ok _
theorem d2p (fd q):∀(t) (p e),a3b fd q t=.er p e->e≠0:=by
 intro t;induction t with
  |nil=>intro p e h;cases h;decide|cons n t ih=>
   intro p e h;unfold a3b at h;cases q1:Y3 n.k n.t with
    |false=>rw[q1]at h;cases h;decide|true=>
     rw[q1,A9]at h;by_cases q2:(fd n.t).2=0;rw[wL q2,A9]at h;cases q3:hdI t with|false=>rw[q3]at h;cases h|true=>rw[q3,A9]at h;cases q4:a3b fd q t with|ok ks=>rw[q4]at h;cases h|er p' e'=>rw[q4]at h;cases h;exact ih _ _ q4
     rw[wP q2]at h;cases h;exact q2
theorem b8v (F L l i n p e)(h:a1v F L l i n=.er p e):e≠0:=by
 unfold a1v at h;cases q0:a5v n.t with
  |none=>rw[q0]at h;cases h;decide|some op=>
   rw[q0]at h;simp only at h;cases q1:decide (op=27)with
    |true=>rw[q1,A9]at h;cases q2:l[i+1]? with|none=>rw[q2]at h;cases h|some n1=>rw[q2]at h;simp only at h;cases q3:a0A n1.k (a0V n1.l) [114,101,115,117,108,116]with|false=>rw[q3]at h;cases h|true=>rw[q3,A9]at h;cases q4:a2X n1 n.p with|ok t=>rw[q4]at h;cases h|er p' e'=>rw[q4]at h;cases h;exact c4f _ _ _ _ q4
    |false=>
     rw[q1,y9]at h;cases q2:decide (E9 (.ofNat op)=3)with
      |true=>rw[q2,A9]at h;cases q3:a3b (a0q L) n.p (l.drop (i+1))with|ok ks=>rw[q3]at h;cases h|er p' e'=>rw[q3]at h;cases h;exact d2p _ _ _ _ _ q3
      |false=>rw[q2,y9]at h;cases q3:a1p F L (a1m op) (E9 (.ofNat op)) l n.p (RV0 op (i+1))with|ok R=>rw[q3]at h;cases h|er p' e'=>rw[q3]at h;cases h;exact d6w _ _ _ _ _ _ _ _ _ q3
def PNe (x:Ps):Prop:=∀p e,x=.er p e->e≠0
theorem PNe.ok (T):PNe (.ok T):=λ_ _ h=>zg
theorem PNe.er {p e}(h:e≠0):PNe (.er p e):=λ_ _ h'=>by cases h';exact h
theorem PNe.bc {b x y}(hx:PNe x)(hy:PNe y):PNe (bcase b x y):=by cases b;exact hy;exact hx
theorem c4Y {fold}(hf:∀L x,PNe (fold L x))(F l):∀(k i) (bs) (L) (T),PNe (a3q fold F l k i bs L T):=by
 intro k;induction k with
  |zero=>intro i bs L T;exact PNe.er zu|succ k ih=>
   intro i bs L T;unfold a3q;cases l[i]? with
    |none=>cases bs with|nil=>exact PNe.ok _|cons b bs=>exact PNe.er zu
    |some n=>
     refine PNe.bc ?_ (PNe.bc (PNe.bc ?_ ?_) (PNe.er zu));cases q:fold L n with|ok T1=>exact ih _ _ _ _|er p e=>exact PNe.er (hf L n p e q)
     cases bs with|nil=>exact PNe.er zu|cons b bs=>exact PNe.bc (PNe.bc (ih _ _ _ _) (PNe.er zu)) (ih _ _ _ _)
     cases q:a1v F L l i n with|ok X nm nx=>exact PNe.bc (ih _ _ _ _) (ih _ _ _ _)|er p e=>exact PNe.er (b8v _ _ _ _ _ _ _ q)
theorem d1S (F):∀(n) (L) (x),PNe (I9 F n L x):=by
 intro n;induction n with
  |zero=>intro L x;exact PNe.er zu|succ n ih=>
   intro L x;cases hx:x.l with
    |nil=>show PNe (match x.l with|[]=>_|w::_=>_);rw[hx];exact PNe.er zu|cons w t=>
     rw[a9I F n L x w t hx];refine PNe.bc (PNe.bc (PNe.er zu) ?_) (PNe.er zu);have hrow:∀L l,PNe (a0k (I9 F n) F L l):=λL l=>c4Y ih F l _ _ _ _ _;cases q:a1v F L x.l 0 w with
      |er p e=>exact PNe.er (b8v _ _ _ _ _ _ _ q)|ok X nm nx=>
       refine PNe.bc ?_ (PNe.bc ?_ ?_);unfold a6T;cases q2:a0k (I9 F n) F (L++[nm]) (x.l.drop nx)with|ok T=>exact PNe.ok _|er p e=>exact PNe.er (hrow _ _ _ _ q2)
       have hels:∀T ys,PNe (b4g (a0k (I9 F n) F (L++[nm])) T ys):=by
        intro T ys;cases ys with
         |nil=>exact PNe.ok _|cons z zs=>
          rw[a8b];refine PNe.bc ?_ (PNe.er zu);cases q2:a0k (I9 F n) F (L++[nm]) z.l.tail with
           |ok T=>cases zs with|nil=>exact PNe.ok _|cons u us=>exact PNe.er zu
           |er p e=>exact PNe.er (hrow _ _ _ _ q2)
       have:∀ys T,PNe (ifS (I9 F n L) (a0k (I9 F n) F (L++[nm])) w.p X ys T):=by
        intro ys;induction ys with
         |nil=>intro T;exact PNe.er zu|cons y ys ih2=>
          intro T;unfold ifS;refine PNe.bc ?_ (PNe.bc ?_ (PNe.er zu));cases q2:a0k (I9 F n) F (L++[nm]) y.l.tail with|ok T1=>exact hels _ _|er p e=>exact PNe.er (hrow _ _ _ _ q2)
          cases q2:I9 F n L y with|ok T1=>exact ih2 _|er p e=>exact PNe.er (ih _ _ _ _ q2)
       exact this _ _;have:∀ys T,PNe (a7P (I9 F n L) ys T):=by intro ys;induction ys with|nil=>intro T;exact PNe.ok _|cons y ys ih2=>intro T;unfold a7P;refine PNe.bc ?_ (PNe.er zu);cases q2:I9 F n L y with|ok T1=>exact ih2 _|er p e=>exact PNe.er (ih _ _ _ _ q2)
       unfold a6Y;cases q2:a7P (I9 F n L) (x.l.drop nx) []with|ok T=>exact PNe.ok _|er p e=>exact PNe.er (this _ _ _ _ q2)
theorem d6S (F n L l):PNe (a0k (I9 F n) F L l):=c4Y (d1S F n) F l _ _ _ _ _
end Go.Proofs.YtmomonnlmbljoaaGreatDoor
end
