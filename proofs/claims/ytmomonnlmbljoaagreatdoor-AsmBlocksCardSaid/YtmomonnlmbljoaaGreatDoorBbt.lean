import Derived.Test.YtmomonnlmbljoaaGreatDoorBag
import Derived.Test.YtmomonnlmbljoaaGreatDoorBbs
set_option maxRecDepth 1000000
set_option maxHeartbeats 4000000
set_option linter.unusedVariables false
set_option linter.unusedSimpArgs false
section
namespace Go.Proofs.YtmomonnlmbljoaaGreatDoor
open Go.V Go.RowKit Go.Shelf Go.Proofs
variable {mL:Int}
attribute [local congr] y7 x9 A8 A7 D5 z8 E5 G8 G7
noncomputable def b1b (op:Int)(st:List Bool):Option (List Bool):=bcase (decide (op=.ofNat 2)) (some (false::st))<|bcase (decide (op=.ofNat 3)) (some (false::st))<|bcase (decide (op=.ofNat 4)) (some (true::st))<|bcase (decide (op=.ofNat 5)) (match st with|true::r=>some (false::r)|_=>none)<|bcase (decide (op=.ofNat 11)) (match st with|_::r=>some r|[]=>none) (some st)
noncomputable def whB:List S.IR->List Bool->Bool|[],st=>Nat.beq st.length 0|x::t,st=>bcase (S.a3m x.1) (match b1b x.1.op st with|some st'=>whB t st'|none=>false) false
abbrev G23:=And.intro (λp0 p1 p2 p3 s=>goE (e9x p0 p1 p2 p3) s)<| @J4
abbrev b0o:=(λp0 p1 p2 p3 p4 s=>goE (c4A p0 p1 p2 p3 p4) s)
theorem e5N (n a):o8 D8 (n+1) 23 [a]=c5R o9 NN (o8 D8 n) a:=Z5 (q:=c5R) (N:=NN) zw n a
noncomputable def bl_ (st:List Bool):List Value:=st.reverse.map Value.bool
theorem a5y (st):(bl_ st).length=st.length:=by unfold bl_;rw[wF,uW]
theorem b3V (b st):bl_ (b::st)=bl_ st++[.bool b]:=by unfold bl_;rw[qR,ul];rfl
structure WI (c0:Nat) (h0:Trie VObj) (c:Nat) (h:Trie VObj) (u:Sl) (st:List Bool):Prop where
 cc:c0≤c
 hh:∀ b,b<c0→h.get b=h0.get b
 g:X4 1 c h u (bl_ st)
 o:∀ i,u.own i→c0≤i
theorem e5n:(a8s tab 4).size=1:=zw
theorem e3x:Nat.blt (a8s tab 4).bytes 4096=true:=zw
theorem c9e {c h u b st}(H:X4 1 c h u (bl_ (b::st))):∃ab g cs,u=⟨some ⟨ab,0,some g⟩,st.length+1,1⟩/\ab<c/\h.get ab=some (.cells cs g false)/\(bl_ (b::st)).length<=x8 cs/\y8 g cs (bl_ (b::st)).length=some (bl_ (b::st)):=by obtain⟨h1,h2⟩:=H;rw[a5y,wI]at h1;rcases h2 with rfl|⟨ab,g,cs,e1,e2,e3,e4,e5,e6⟩;simp at h1;obtain⟨a,n,e⟩:=u;simp only at e1 e2 h1;refine⟨ab,g,cs,?_,e3,e4,e5,e6⟩;subst e1 e2;rw[show n=st.length+1 by omega]
theorem d5B {g cs b st}(h:y8 g cs (bl_ (b::st)).length=some (bl_ (b::st))):y8 g (H9 cs st.length) 1=some [.bool b]:=by refine a2I h _ _ ?_;rw[b3V,vG (by rw[a5y];exact wQ _),a5y,Nat.sub_self];rfl
theorem n23 {c0 h0 v Zs}(HI:S.InsL c0 h0 v Zs)(hf:S.c5n Zs=true)(M):∀(k e i c) (h) (u) (st) (xs) (r w),Zs.length=i+k->st.length<=i->WI c0 h0 c h u st->C9 xs 60=.int .i64 (.ofNat i)->C9 xs 53=.int .i64 (.ofNat st.length)->C9 xs 57=.slice u.a u.n u.e->l9 (go (U4 (d0T o9 NN (o8 D8 (M+1)) v) (k+1+e) xs) ⟨c,h,r,w⟩) λy s=>c0<=s.c/\(∀b,b<c0->s.h.get b=h0.get b)/\∃xs',(y=(.exit 0,xs')/\∃n,C9 xs' 53=.int .i64 (.ofNat n)/\whB (Zs.drop i) st=Nat.beq n 0)\/(y=(.ret,xs')/\C9 xs' 50=.bool false/\whB (Zs.drop i) st=false):=by
 obtain⟨hz,hsm⟩:=S.f0p hf;intro k;induction k with
  |zero=>intro e i c h u st xs r w hk hst H h1 h2 h3;rw[vY 0 1 e,Y5];have hlen:=HI.len;have e0:decide (i<Zs.length)=false:=wP zy;simp(disch:=try exact dz)only[b0o,h1,dL,e0,hlen,↓gP,gY];refine l9.done ⟨H.cc,H.hh,_,Or.inl ⟨rfl,st.length,h2,?_⟩⟩;rw[tQ zy];rfl|succ k ih=>
   intro e i c h u st xs r w hk hst H h1 h2 h3;rw[vY (k+1) 1 e,Y5];have hI:=HI.mono H.cc H.hh;have hlen:=hI.len;have hlt:i<Zs.length:=zy;obtain⟨z,hzi⟩:∃z,Zs[i]?=some z:=⟨_,wO hlt⟩;have hmem:=vP hzi;have hdr:Zs.drop i=z::Zs.drop (i+1):=yQ;obtain⟨X,tv,lv⟩:=z;obtain⟨b1,p1,p0,_,_,hb1,v2,v3,_,_,v4,v5,_⟩:=hI.read (wQ _) (λ_ _=>rfl) hzi;have e0:decide (i<Zs.length)=true:=wL hlt;have hinc:=J6 i zy;simp only at v4 v5;obtain⟨s1,s2⟩:=hsm _ hmem;have hat:S.InsAt c h X (S.D6 X tv lv):=⟨⟨tv,lv,rfl,(hI.each _ hmem).1,(hI.each _ hmem).2⟩,by simp only at s2;omega,by simp only at s1;omega⟩;obtain⟨zz,hzz⟩:=S.d8Q (q:=λX=>some (.bool (S.a3m X))) hat (wQ _) (λ_ _=>rfl) rfl;have hcall19:∀r w,go (o8 D8 (M+1) 19 [S.D6 X tv lv]) ⟨c,h,r,w⟩=some (.ret (.bool (S.a3m X)),⟨c,h,zz r,w⟩):=λr w=>S.d4L zw M (hzz r w);rw[hdr];cases hp:S.a3m X with
    |false=>rw[hp]at hcall19;simp(disch:=try exact dz)only[b0o,h1,dL,e0,hlen,v2,v4,hcall19,↓gP,gY,gT];refine l9.done ⟨H.cc,H.hh,_,Or.inr ⟨rfl,rfl,?_⟩⟩;show bcase (S.a3m X) _ _=_;rw[hp];rfl|true=>
     rw[hp]at hcall19;have hw:whB ((X,tv,lv)::Zs.drop (i+1)) st=(match b1b X.op st with|some st'=>whB (Zs.drop (i+1)) st'|none=>false):=by show bcase (S.a3m X) _ _=_;rw[hp];rfl
     have hinc2:=J6 st.length zy;have a1:c≠c+1:=zy;have push:∀(b:Bool) (K:Value->V.M (Xc×List Value)) (P:(Xc×List Value)->V.S->Prop) (r w:List Nat),(∀(u':Sl) (c':Nat) (h':Trie VObj) (r' w':List Nat),WI c0 h0 c' h' u' (b::st)->l9 (go (K (.slice u'.a u'.n u'.e)) ⟨c',h',r',w'⟩) P)->l9 (R8 (go (a4F (a8s tab 4) (.slice u.a u.n u.e) (.slice (some ⟨c,0,some 0⟩) 1 1)) ⟨c+1,V.upd h c (.cells [(.bool b,0)] 0 false),r,w⟩) K) P:=by
      intro b K P r w hK;have HG:=H.g.mono (c':=c+1) (h':=V.upd h c (.cells [(.bool b,0)] 0 false)) (vv _) λj k1 k2=>d9 zy;have hst':=a5y st;have hn:u.n=st.length:=by have:=HG.1;rw[hst']at this;omega
      refine l9.bindS (a5b e5n zu e3x (x:=⟨some ⟨c,0,some 0⟩,1,1⟩) (xs:=[.bool b]) HG ⟨rfl,Or.inr ⟨c,0,0,[(.bool b,0)],0,false,rfl,rfl,wE c,o7 _ _ _,rfl⟩⟩ rfl (by rw[hn];show(st.length+1)*4<a3W;unfold a3W;omega) r w) λx s hq=>?_;obtain⟨c',h',r',w'⟩:=s;obtain⟨u',rfl,n1,g1,g2,g3,g4,_⟩:=hq;have g2:c+1<=c':=g2;have cc:=H.cc;refine hK u' c' h' r' w' ⟨zy,λj hj=>?_,by rw[b3V];exact g1,λj hj=>?_⟩;exact(g3 j zy λk=>by have:=H.o j k;omega).trans ((d9 zy).trans (H.hh j hj));by_cases k:j<c+1;exact H.o j (g4 j k hj);omega
     have go_on:∀(st':List Bool),b1b X.op st=some st'->whB ((X,tv,lv)::Zs.drop (i+1)) st=whB (Zs.drop (i+1)) st':=λst' e=>by rw[hw,e]
     have stop:b1b X.op st=none->whB ((X,tv,lv)::Zs.drop (i+1)) st=false:=λe=>by rw[hw,e]
     unfold b1b at go_on stop;cases q2:decide (X.op=Int.ofNat 2)with
      |true=>
       have q4:decide (X.op=Int.ofNat 4)=false:=by rw[vZ]at q2;rw[q2];rfl
       rw[q2]at go_on;simp(disch:=try exact dz)only[b0o,h1,h2,h3,dL,e0,hlen,v2,v3,v4,v5,hcall19,q2,q4,hinc,hinc2,↓gP,gY,gT];refine push false _ _ _ _ λu' c' h' r' w' W'=>?_;simp(disch:=try exact dz)only[↓gP,gY];rw[go_on _ rfl];exact ih e (i+1) c' h' u' (false::st) _ _ _ zy (by rw[wI];omega) W' rfl rfl rfl|false=>
       cases q3:decide (X.op=Int.ofNat 3)with
        |true=>
         have q4:decide (X.op=Int.ofNat 4)=false:=by rw[vZ]at q3;rw[q3];rfl
         rw[q2,q3]at go_on;simp(disch:=try exact dz)only[b0o,h1,h2,h3,dL,e0,hlen,v2,v3,v4,v5,hcall19,q2,q3,q4,hinc,hinc2,↓gP,gY,gT];refine push false _ _ _ _ λu' c' h' r' w' W'=>?_;simp(disch:=try exact dz)only[↓gP,gY];rw[go_on _ rfl];exact ih e (i+1) c' h' u' (false::st) _ _ _ zy (by rw[wI];omega) W' rfl rfl rfl|false=>
         cases q4:decide (X.op=Int.ofNat 4)with
          |true=>rw[q2,q3,q4]at go_on;simp(disch:=try exact dz)only[b0o,h1,h2,h3,dL,e0,hlen,v2,v3,v4,v5,hcall19,q2,q3,q4,hinc,hinc2,↓gP,gY,gT];refine push true _ _ _ _ λu' c' h' r' w' W'=>?_;simp(disch:=try exact dz)only[↓gP,gY];rw[go_on _ rfl];exact ih e (i+1) c' h' u' (true::st) _ _ _ zy (by rw[wI];omega) W' rfl rfl rfl|false=>
           cases q5:decide (X.op=Int.ofNat 5)with
            |true=>
             rw[q2,q3,q4,q5]at go_on stop;cases st with
              |nil=>simp(disch:=try exact dz)only[b0o,h1,h2,h3,dL,e0,hlen,v2,v3,v4,v5,hcall19,q2,q3,q4,q5,vE,↓gP,gY,gT];refine l9.done ⟨H.cc,H.hh,_,Or.inr ⟨rfl,rfl,stop rfl⟩⟩|cons b st=>
               obtain⟨ab,g,cs,hu,y3,y4,y5,y6⟩:=c9e H.g;have hab:c0<=ab:=H.o ab ⟨⟨ab,0,some g⟩,by rw[hu],rfl⟩;have hdec:=a2H st.length xE;have eI:a7i 1 (.slice (some ⟨ab,0,some g⟩) (st.length+1) 1) (.int .i64 (.ofNat st.length))=V.M.pure (.pointer (some ⟨ab,st.length,some g⟩)):=by rw[a1C 1 st.length (st.length+1) .i64 ab 0 (some g) (wE _) zu,a8S,uu]
               obtain⟨cs',z1,z2,z3⟩:=c4E (v:=.bool false) cs st.length _ _ y6 (by rw[a5y];exact wE _);have tk:=d5B y6;have p0:(Nat.beq g g&& !false&&J2 O4 [Value.bool false]&&Nat.ble (st.length+x8 [Value.bool false]) (x8 cs))=true:=by rw[R5,a1l (by rw[a5y]at y5;exact y5)];rfl
               have ne0:decide (st.length+1=0)=false:=wP zy;rw[hu]at h3;rw[wI]at h2;cases b with|false=>simp(disch:=try exact dz)only[b0o,h1,h2,h3,dL,e0,hlen,v2,v3,v4,v5,hcall19,q2,q3,q4,q5,Y1,hdec,eI,y4,tk,↓gP,gY,gT,Nat.reduceEqDiff];refine l9.done ⟨H.cc,H.hh,_,Or.inr ⟨rfl,rfl,stop rfl⟩⟩|true=>simp(disch:=try exact dz)only[b0o,h1,h2,h3,dL,e0,hlen,v2,v3,v4,v5,hcall19,q2,q3,q4,q5,hinc,Y1,hdec,eI,y4,tk,z1,↓gP,gY,gT,Nat.reduceEqDiff];rw[go_on _ rfl];refine ih e (i+1) c _ ⟨some ⟨ab,0,some g⟩,st.length+1,1⟩ (false::st) _ _ _ zy (by rw[wI]at hst⊢;omega) ⟨H.cc,λj hj=>(d9 zy).trans (H.hh j hj),?_,λj hj=>by obtain⟨_,k,rfl⟩:=hj;cases k;exact hab⟩ rfl rfl rfl;refine⟨by rw[a5y];simp,Or.inr ⟨ab,g,cs',rfl,rfl,y3,o7 _ _ _,by rw[z2];rw[a5y]at y5⊢;exact y5,?_⟩⟩;rw[a5y]at z3⊢;rw[b3V]at z3⊢;rw[wI]at z3⊢;rw[z3,List.set_append_right _ _ (by rw[a5y];exact wQ _),a5y,Nat.sub_self];rfl
            |false=>
             cases q11:decide (X.op=Int.ofNat 11)with
              |true=>rw[q2,q3,q4,q5,q11]at go_on stop;cases st with|nil=>simp(disch:=try exact dz)only[b0o,h1,h2,h3,dL,e0,hlen,v2,v3,v4,v5,hcall19,q2,q3,q4,q5,q11,vE,↓gP,gY,gT];refine l9.done ⟨H.cc,H.hh,_,Or.inr ⟨rfl,rfl,stop rfl⟩⟩|cons b st=>obtain⟨ab,g,cs,hu,y3,y4,y5,y6⟩:=c9e H.g;have hab:c0<=ab:=H.o ab ⟨⟨ab,0,some g⟩,by rw[hu],rfl⟩;have hdec:=a2H st.length xE;have ne0:decide (st.length+1=0)=false:=wP zy;have eS:=b1l 1 ab 0 g (st.length+1) st.length .i64 (vv _) zu;rw[hu]at h3;rw[wI]at h2;simp(disch:=try exact dz)only[b0o,h1,h2,h3,dL,e0,hlen,v2,v3,v4,v5,hcall19,q2,q3,q4,q5,q11,hinc,Y1,hdec,eS,↓gP,gY,gT,Nat.reduceEqDiff];rw[go_on _ rfl];have hc:=H.g.cut (j:=st.length) (by rw[hu];exact wE _);rw[b3V,uu,List.take_left' (a5y st),hu]at hc;exact ih e (i+1) c h ⟨some ⟨ab,0,some g⟩,st.length,1⟩ st _ _ _ zy xE ⟨H.cc,H.hh,hc,λj hj=>by obtain⟨_,k,rfl⟩:=hj;cases k;exact hab⟩ rfl rfl rfl
              |false=>rw[q2,q3,q4,q5,q11]at go_on;simp(disch:=try exact dz)only[b0o,h1,h2,h3,dL,e0,hlen,v2,v3,v4,v5,hcall19,q2,q3,q4,q5,q11,hinc,Y1,↓gP,gY,gT];rw[go_on _ rfl];exact ih e (i+1) c h u st _ _ _ zy zy H rfl rfl rfl
theorem t23 {c0 h0 v Zs}(HI:S.InsL c0 h0 v Zs)(hf:S.c5n Zs=true)(M r w):l9 (go (o8 D8 (M+2) 23 [v]) ⟨c0,h0,r,w⟩) λx s=>x=.ret (.bool (whB Zs []))/\c0<=s.c/\∀b,b<c0->s.h.get b=h0.get b:=by
 obtain⟨hz,_⟩:=S.f0p hf;have hN:NN=Zs.length+1+(999999-Zs.length):=by show 1000000=_;omega
 rw[e5N];simp(disch:=try exact dz)only[G23,↓gP];refine l9.bindJ (P:=λy s=>c0<=s.c/\(∀b,b<c0->s.h.get b=h0.get b)/\∃xs',(y=(.exit 0,xs')/\∃n,C9 xs' 53=.int .i64 (.ofNat n)/\whB Zs []=Nat.beq n 0)\/(y=(.ret,xs')/\C9 xs' 50=.bool false/\whB Zs []=false)) ?_ λy xs1 s hq=>?_;have:=n23 HI hf M Zs.length (999999-Zs.length) 0 c0 h0 ⟨none,0,0⟩ [] [undef,undef,undef,undef,undef,undef,undef,undef,undef,undef,undef,undef,undef,undef,undef,undef,undef,undef,undef,undef,undef,undef,undef,undef,undef,undef,undef,undef,undef,undef,undef,undef,undef,undef,undef,undef,undef,undef,undef,undef,undef,undef,undef,undef,undef,undef,undef,undef,undef,undef,.bool false,undef,undef,.int .i64 (.ofNat 0),undef,undef,undef,.slice none 0 0,undef,undef,.int .i64 (.ofNat 0)] r w zy (wQ _) ⟨wQ _,λ_ _=>rfl,X4.nil 1 c0 h0,λj hj=>by obtain⟨_,k,_⟩:=hj;cases k⟩ rfl rfl rfl;rw[<-hN]at this;exact this;obtain⟨f1,f2,xs',⟨e1,n,e2,e3⟩|⟨e1,e2,e3⟩⟩:=hq;cases e1;simp(disch:=try exact dz)only[e2,Y1,↓gP,gY];refine l9.done ⟨?_,f1,f2⟩;rw[e3];cases n<;>rfl;cases e1;simp(disch:=try exact dz)only[e2,↓gP,gY];exact l9.done ⟨by rw[e3],f1,f2⟩
end Go.Proofs.YtmomonnlmbljoaaGreatDoor
end
section
namespace Go.Proofs.YtmomonnlmbljoaaGreatDoor
open Go.V Go.RowKit Go.Shelf Go.Proofs
variable {mL:Int}
attribute [local congr] y7 x9 A8 A7 D5
theorem n63 (N call z):c2C o9 N call (.int .u8 (.ofNat z))=V.M.pure (.ret (.bool (sgN z))):=by simp only[e7X,O0,R6,K7,K4,K5,K6,V6,X5,a2o,F6,V.e7v,a1H,a5t,a4y];have d1:∀a b:Nat,decide (Int.ofNat a<=Int.ofNat b)=Nat.ble a b:=λa b=>(qm.2 rY).trans (Bool.eq_iff_iff.2 ⟨λh=>uG (vS h),λh=>wL (vT h)⟩);simp only[d1,S.T9];unfold sgN;cases Nat.beq z 40<;>cases Nat.beq z 41<;>cases Nat.beq z 34<;>cases Nat.beq z 59<;>cases Nat.beq z 44<;>simp
theorem e3w (n a):o8 D8 (n+1) 63 [a]=c2C o9 NN (o8 D8 n) a:=Z5 (q:=c2C) (N:=NN) zw n a
theorem e5F (n a):o8 D8 (n+1) 24 [a]=c0k o9 NN (o8 D8 n) a:=Z5 (q:=c0k) (N:=NN) zw n a
theorem l24 (N0 call)(hs:∀b:UInt8,call 63 [.int .u8 (.ofNat b.toNat)]=V.M.pure (.ret (.bool (sgN b.toNat))))(T)(hT:T.length<1000000):∀(l) (i N) (xs),T.drop i=l->l.length<N->C9 xs 12=.int .i64 (.ofNat i)->C9 xs 9=.bool false->∃x,U4 (d5g o9 N0 call (.string ⟨⟨T⟩⟩)) N xs=V.M.pure x/\bcase (a5V l) (x.1=.exit 0) (x.1=.ret/\C9 x.2 9=.bool false):=by
 have hlenS:a8d (.string ⟨⟨T⟩⟩)=V.M.pure (.int .i64 (.ofNat T.length)):=a3Q _;intro l;induction l with
  |nil=>intro i N xs hd hN h1 h2;obtain⟨N,rfl⟩:∃m,N=m+1:=⟨N-1,zy⟩;have hi:¬i<T.length:=yP;have h3:=b4Z i T.length hi;rw[Z4];simp(disch:=try exact dy)only[b5U,h1,h3,hlenS,O0,U6,y9,J5,a1y,V.e7v,F7,I8];exact⟨_,rfl,rfl⟩|cons b l ih=>
   intro i N xs hd hN h1 h2;obtain⟨N,rfl⟩:∃m,N=m+1:=⟨N-1,zy⟩;obtain⟨hb,hd',hi⟩:=b7z hd;have h3:=b7S i T.length hi;have hbT:(⟨⟨T⟩⟩:ByteArray).data.toList[i]?=some b:=hb;have h4:=a1I ⟨⟨T⟩⟩ i b hbT;have hsi:=c0C i zy;have hlen:l.length<N:=by simp at hN;omega
   have hsg:=hs b;have ha:a5V (b::l)=(sgN b.toNat&&a5V l):=U1 _ _ _;rw[ha];cases hq:sgN b.toNat with|true=>rw[hq]at hsg;rw[Z4,a8q];simp(disch:=try exact dy)only[b5U,h1,h2,h3,h4,hlenS,hsi,hsg,a0U,O0,U6,I4,A9,y9,J5,F6,V.e7v,F7,I8,O9];exact ih (i+1) N _ hd' hlen rfl rfl|false=>rw[hq]at hsg;rw[Z4,uU];simp(disch:=try exact dy)only[b5U,h1,h2,h3,h4,hlenS,hsi,hsg,a0E,O0,U6,I4,A9,y9,J5,a2k,V.e7v,F7,I8,O9];exact⟨_,rfl,rfl,rfl⟩
theorem n24 (N call)(hs:∀b:UInt8,call 63 [.int .u8 (.ofNat b.toNat)]=V.M.pure (.ret (.bool (sgN b.toNat))))(T)(hT:T.length<N)(hT2:T.length<1000000):c0k o9 N call (.string ⟨⟨T⟩⟩)=V.M.pure (.ret (.bool (a0O T))):=by have hlenS:∀T:List UInt8,a8d (.string ⟨⟨T⟩⟩)=V.M.pure (.int .i64 (.ofNat T.length)):=λT=>a3Q _;match T,hT,hT2 with|[],hT,hT2=>have h1:decide (([]:List UInt8).length<2)=true:=rfl;simp(disch:=try exact dy)only[c6V,hlenS,dL,h1,O0,R6,a5q,H7,A9,y9,P6,J5,F6,V.e7v,F7,a0U];rfl|[b],hT,hT2=>have h1:decide (([b]:List UInt8).length<2)=true:=rfl;simp(disch:=try exact dy)only[c6V,hlenS,dL,h1,O0,R6,a5q,H7,A9,y9,P6,J5,F6,V.e7v,F7,a0U];rfl|b::c::l,hT,hT2=>have h1:decide ((b::c::l).length<2)=false:=wP zq;have i0:=a1I ⟨⟨b::c::l⟩⟩ 0 b rfl;have hn:a0O (b::c::l)=(decide (b.toNat=36)&&a5V (c::l)):=rfl;rw[hn];cases h36:decide (b.toNat=36)with|false=>simp(disch:=try exact dy)only[c6V,hlenS,dL,Y1,h1,h36,i0,O0,R6,a5q,H7,A9,K4,K5,K6,V6,X5,O3,J5,F6,V.e7v,a4y,F7,a0E,uU]|true=>simp(disch:=try exact dy)only[c6V,hlenS,dL,Y1,h1,h36,i0,O0,R6,a5q,H7,A9,y9,K4,K5,K6,V6,X5,O3,J5,F6,V.e7v,a4y,F7,a0U,a0E,a8q];obtain⟨x,hx,hm⟩:=l24 N call hs (b::c::l) hT2 (c::l) 1 N [undef,undef,undef,undef,undef,undef,undef,undef,undef,.bool false,undef,undef,.int .i64 (.ofNat 1)] rfl (by simp at hT⊢;omega) rfl rfl;rw[hx,V.e7v];cases ha:a5V (c::l)with|true=>rw[ha]at hm;have hm:x.1=.exit 0:=hm;simp only[hm,a1y,R5,A9]|false=>rw[ha]at hm;obtain⟨q1,q2⟩:=(hm:x.1=.ret/\C9 x.2 9=.bool false);simp only[q1,q2,a2k]
theorem t24 {T}(hT:T.length<900000)(M):o8 D8 (M+2) 24 [.string ⟨⟨T⟩⟩]=V.M.pure (.ret (.bool (a0O T))):=by rw[e5F];exact n24 NN _ (λb=>by rw[e3w];exact n63 _ _ _) T (by show _<1000000;omega) zy
end Go.Proofs.YtmomonnlmbljoaaGreatDoor
end
section
namespace Go.Proofs.YtmomonnlmbljoaaGreatDoor
open Go.V Go.RowKit Go.Shelf Go.Proofs
variable {mL:Int}
attribute [local congr] y7 x9 A8 A7 D5 z8 E5 G8 G7
theorem d0B (ts a b):c2H Tryz.prog ts [.int .i64 a,.int .i64 b]=V.M.pure (.int .i64 (bcase (decide (a<b)) b a)):=by
 have e:Builtin.max_ ts 0 ⟨[Value.int .i64 a,Value.int .i64 b]⟩=pure (.int .i64 (if b>a then b else a)):=by simp[Builtin.max_,Builtin.max2]
 unfold c2H;rw[e];cases h:decide (a<b)with
  |true=>
   have h':b>a:=by simpa using h
   rw[vH h'];rfl|false=>
   have h':¬b>a:=by simpa using h
   rw[vN h'];rfl
theorem e0J (ts d)(hd:d<4294967296):c2H Tryz.prog ts [.int .i64 (.ofNat 0),.int .i64 (Q0 .i64 (Int.ofNat d-Int.ofNat 1))]=V.M.pure (.int .i64 (.ofNat (d-1))):=by cases d with|zero=>rw[d0B];rfl|succ d=>rw[a2H d zy,d0B];cases d with|zero=>rfl|succ d=>rw[show decide (Int.ofNat 0<Int.ofNat (d+1))=true from wL (uk.2 (qz d))];rfl
theorem d5L (n)(h:n<1000):a9Y [.string ⟨⟨[32,32]⟩⟩,.int .i64 (.ofNat n)]=some (.string ⟨⟨a1b [32,32] n⟩⟩):=by have e1:Nat.blt n 4294967296=true:=I7 zy;have e2:Nat.ble (x8 [(32:UInt8),32]*n) 4294967296=true:=uG (by show(0+1+1)*n<=_;omega);show(match Nat.blt n 4294967296&&Nat.ble (x8 [(32:UInt8),32]*n) 4294967296 with|true=>some (Value.string ⟨⟨a1b [32,32] n⟩⟩)|false=>none)=_;rw[e1,e2];rfl
theorem t56 (M n)(h:n<1000):o8 D8 (M+1) 56 [.string ⟨⟨[32,32]⟩⟩,.int .i64 (.ofNat n)]=V.M.pure (.ret (.string ⟨⟨a1b [32,32] n⟩⟩)):=V8 D8 M 56 _ (g:=a9Y) zw (d5L n h)
theorem c4n (n):x8 (a1b [32,32] n)=2*n:=by induction n with|zero=>rfl|succ n ih=>show x8 (D7 [32,32] (a1b [32,32] n))=_;rw[X3,ih,X8,X8,a2a];omega
abbrev G17:=And.intro (λp0 p1 p2 p3 s=>goE (e8v p0 p1 p2 p3) s)<| @J4
abbrev d9q:=(λp0 p1 p2 p3 p4 p5 s=>goE (c4U p0 p1 p2 p3 p4 p5) s)
theorem e3y (n a):o8 D8 (n+1) 17 [a]=c7y o9 NN (o8 D8 n) a:=Z5 (q:=c7y) (N:=NN) zw n a
noncomputable def ls_ (l:List (List UInt8)):List Value:=l.map λt=>.string ⟨⟨t⟩⟩
theorem c9U (l):(ls_ l).length=l.length:=wF ..
structure OI (c0:Nat) (h0:Trie VObj) (c:Nat) (h:Trie VObj) (u:Sl) (l:List (List UInt8)):Prop where
 cc:c0≤c
 hh:∀ b,b<c0→h.get b=h0.get b
 g:X4 1 c h u (ls_ l)
 o:∀ i,u.own i→c0≤i
theorem n17 {c0 h0 v Zs}(HI:S.InsL c0 h0 v Zs)(hf:S.c5n Zs=true)(hP:∀x∈Zs,S.a3m x.1=true/\x.1.N<18446744073709551616)(M):∀(k e i c d) (h) (u) (l) (xs) (r w),Zs.length=i+k->d<=i->l.length=i->OI c0 h0 c h u l->C9 xs 41=.int .i64 (.ofNat i)->C9 xs 31=.int .i64 (.ofNat d)->C9 xs 39=.slice u.a u.n u.e->l9 (go (U4 (c8D o9 NN (o8 D8 (M+1)) (.int .i64 (.ofNat Zs.length)) v) (k+1+e) xs) ⟨c,h,r,w⟩) λy s=>∃u' xs',OI c0 h0 s.c s.h u' (l++S.prT ((Zs.drop i).map (·.1)) d)/\y=(.exit 0,xs')/\C9 xs' 39=.slice u'.a u'.n u'.e:=by
 obtain⟨hz,hsm⟩:=S.f0p hf;intro k;induction k with
  |zero=>intro e i c d h u l xs r w hk hd hl H h1 h2 h3;rw[vY 0 1 e,Y5];have e0:decide (i<Zs.length)=false:=wP zy;simp(disch:=try exact dz)only[d9q,h1,dL,e0,↓gP,gY];refine l9.done ⟨u,_,?_,rfl,h3⟩;rw[tQ zy];show OI c0 h0 c h u (l++[]);rw[wH];exact H|succ k ih=>
   intro e i c d h u l xs r w hk hd hl H h1 h2 h3;rw[vY (k+1) 1 e,Y5];have hI:=HI.mono H.cc H.hh;have hlt:i<Zs.length:=zy;obtain⟨z,hzi⟩:∃z,Zs[i]?=some z:=⟨_,wO hlt⟩;have hmem:=vP hzi;have hdr:Zs.drop i=z::Zs.drop (i+1):=yQ;obtain⟨X,tv,lv⟩:=z;obtain⟨b1,p1,p0,_,_,hb1,v2,v3,_,_,v4,v5,_⟩:=hI.read (wQ _) (λ_ _=>rfl) hzi;have e0:decide (i<Zs.length)=true:=wL hlt;have hinc:=J6 i zy;have hinc2:=J6 d zy;have hmx:=λts=>e0J ts d zy;simp only at v4 v5;obtain⟨s1,s2⟩:=hsm _ hmem;obtain⟨pl,pN⟩:=hP _ hmem;have hat:S.InsAt c h X (S.D6 X tv lv):=⟨⟨tv,lv,rfl,(hI.each _ hmem).1,(hI.each _ hmem).2⟩,by simp only at s2;omega,by simp only at s1;omega⟩;obtain⟨ta,te,etv,_⟩:=id (hI.each _ hmem).1;obtain⟨la,le,elv,_⟩:=id (hI.each _ hmem).2;simp only at etv elv;have hcall:∀(h':Trie VObj) (r w:List Nat),(∀b,b<c->h'.get b=h.get b)->∃z,go (o8 D8 (M+1) 12 [S.D6 X tv lv]) ⟨c+1,h',r,w⟩=some (.ret (.string ⟨⟨S.a1r X⟩⟩),⟨c+1,h',z,w⟩):=λh' r w hh=>by obtain⟨z2,hz2⟩:=S.d8Q (q:=S.c5z) hat (c':=c+1) (h':=h') (vv _) hh (d8T pl pN);exact⟨_,S.d4L zw M (hz2 r w)⟩
   rw[hdr];have hct:S.a4R (X,tv,lv)=[.int .i64 X.op,.int .i64 X.A,.int .i64 X.B,.int .u64 (.ofNat X.N),.int .i64 X.k,.int .i64 X.v,.int .i64 X.i,tv,lv]:=rfl;subst etv elv;unfold S.D6 at hcall v4;simp(disch:=try exact dz)only[d9q,h1,h2,dL,e0,v2,v4,↓gP,gY];refine l9.bindC (P:=λa s=>a=.ret (.string ⟨⟨S.a1r X⟩⟩)/\∃h' r' w',s=⟨c+1,h',r',w'⟩/\(∀b,b<c->h'.get b=h.get b)/\∃cs,h'.get c=some (.cells ((.int .i64 X.op,0)::cs) 0 false)) ?_ λa s hq=>?_;have hfr:∀A B b,b<c->(V.upd (V.upd h c A) c B).get b=h.get b:=λA B b hb=>(d9 zy).trans (d9 zy);obtain⟨z,hz⟩:=hcall _ _ _ (hfr _ _);exact⟨_,_,hz,rfl,_,_,_,rfl,hfr _ _,_,o7 _ _ _⟩;obtain⟨rfl,h',r',w',rfl,hs,cs,hc⟩:=hq;have hne:beqBytes (S.a1r X) []=false:=by obtain⟨x,x1,x2,_⟩:=c4h pl pN;rw[x2];unfold rwT;cases hn:M8 x.1.op with|nil=>exact absurd hn (a4q x1.kn).ne|cons b l=>rfl
   have hadd:∀(n:Nat) t x y,n<=60->a0M Tryz.prog tab .add t x y (.string ⟨⟨a1b [32,32] n⟩⟩) (.string ⟨⟨S.a1r X⟩⟩)=V.M.pure (.string ⟨⟨S.pad n (S.a1r X)⟩⟩):=λn t x y hn=>a2e _ _ t x y ⟨⟨a1b [32,32] n⟩⟩ ⟨⟨S.a1r X⟩⟩ (by have:=S.e8M X pl pN s1;show x8 (a1b [32,32] n)+x8 (S.a1r X)<_;rw[c4n];omega);have push:∀(n:Nat) (h1:Trie VObj) (r w:List Nat) (K:Value->V.M (Xc×List Value)) (P:(Xc×List Value)->V.S->Prop),(∀b,b<c+1->h1.get b=h'.get b)->h1.get (c+1)=some (.cells [(.string ⟨⟨S.pad n (S.a1r X)⟩⟩,0)] 0 false)->(∀(u2:Sl) (c2:Nat) (h2:Trie VObj) (r2 w2:List Nat),OI c0 h0 c2 h2 u2 (l++[S.pad n (S.a1r X)])->l9 (go (K (.slice u2.a u2.n u2.e)) ⟨c2,h2,r2,w2⟩) P)->l9 (R8 (go (a4F ti9 (.slice u.a u.n u.e) (.slice (some ⟨c+1,0,some 0⟩) 1 1)) ⟨c+1+1,h1,r,w⟩) K) P:=by
    intro n h1 r w K P k1 k2 hK;have HG:=H.g.mono (c':=c+1+1) (h':=h1) zy λj k3 k4=>(k1 j zy).trans (hs j k3);have hn:u.n=l.length:=by have:=HG.1;rw[c9U]at this;omega
    refine l9.bindS (a5b d4y zu d4b (x:=⟨some ⟨c+1,0,some 0⟩,1,1⟩) (xs:=[.string ⟨⟨S.pad n (S.a1r X)⟩⟩]) HG ⟨rfl,Or.inr ⟨c+1,0,0,_,0,false,rfl,rfl,wE _,k2,rfl⟩⟩ rfl (by rw[hn];show(l.length+1)*4<_;omega) r w) λx s hq=>?_;obtain⟨c2,h2,r2,w2⟩:=s;obtain⟨u2,rfl,n1,g1,g2,g3,g4,_⟩:=hq;have g2:c+1+1<=c2:=g2;have cc:=H.cc;refine hK u2 c2 h2 r2 w2 ⟨zy,λj hj=>?_,?_,λj hj=>?_⟩;exact(g3 j zy λk=>by have:=H.o j k;omega).trans ((k1 j zy).trans ((hs j zy).trans (H.hh j hj)));unfold ls_ at g1⊢;rw[ul];exact g1;by_cases k:j<c+1+1;exact H.o j (g4 j k hj);omega
   have go_on:∀(n d':Nat) (a b:Value),S.ind X.op d=(n,d')->l++S.prT (((X,a,b)::Zs.drop (i+1)).map (·.1)) d=(l++[S.pad n (S.a1r X)])++S.prT ((Zs.drop (i+1)).map (·.1)) d':=λn d' a b e=>by show l++(S.pad (S.ind X.op d).1 (S.a1r X)::S.prT _ (S.ind X.op d).2)=_;rw[e,vw];rfl
   cases q2:decide (X.op=Int.ofNat 2)with|true=>simp(disch:=try exact dz)only[hne,hc,q2,hinc2,hmx,t56 M (d) zy,hadd (d) _ _ _ zy,h3,↓gP,gY];refine push (d) _ _ _ _ _ (λb hb=>d9 zy) (o7 _ _ _) λu2 c2 h2 r2 w2 W=>?_;simp(disch:=try exact dz)only[hinc,↓gP,gY];rw[go_on (d) (d+1) _ _ (by unfold S.ind;simp only[q2,U9])];exact ih e (i+1) c2 (d+1) h2 u2 _ _ _ _ zy zy yj W rfl rfl rfl|false=>cases q3:decide (X.op=Int.ofNat 3)with|true=>simp(disch:=try exact dz)only[hne,hc,q2,q3,hinc2,hmx,t56 M (d) zy,hadd (d) _ _ _ zy,h3,↓gP,gY];refine push (d) _ _ _ _ _ (λb hb=>d9 zy) (o7 _ _ _) λu2 c2 h2 r2 w2 W=>?_;simp(disch:=try exact dz)only[hinc,↓gP,gY];rw[go_on (d) (d+1) _ _ (by unfold S.ind;simp only[q2,q3,U9,V7])];exact ih e (i+1) c2 (d+1) h2 u2 _ _ _ _ zy zy yj W rfl rfl rfl|false=>cases q4:decide (X.op=Int.ofNat 4)with|true=>simp(disch:=try exact dz)only[hne,hc,q2,q3,q4,hinc2,hmx,t56 M (d) zy,hadd (d) _ _ _ zy,h3,↓gP,gY];refine push (d) _ _ _ _ _ (λb hb=>d9 zy) (o7 _ _ _) λu2 c2 h2 r2 w2 W=>?_;simp(disch:=try exact dz)only[hinc,↓gP,gY];rw[go_on (d) (d+1) _ _ (by unfold S.ind;simp only[q2,q3,q4,U9,V7])];exact ih e (i+1) c2 (d+1) h2 u2 _ _ _ _ zy zy yj W rfl rfl rfl|false=>cases q5:decide (X.op=Int.ofNat 5)with|true=>simp(disch:=try exact dz)only[hne,hc,q2,q3,q4,q5,hinc2,hmx,t56 M (d-1) zy,hadd (d-1) _ _ _ zy,h3,↓gP,gY];refine push (d-1) _ _ _ _ _ (λb hb=>d9 zy) (o7 _ _ _) λu2 c2 h2 r2 w2 W=>?_;simp(disch:=try exact dz)only[hinc,↓gP,gY];rw[go_on (d-1) (d) _ _ (by unfold S.ind;simp only[q2,q3,q4,q5,U9,V7])];exact ih e (i+1) c2 (d) h2 u2 _ _ _ _ zy zy yj W rfl rfl rfl|false=>cases q11:decide (X.op=Int.ofNat 11)with|true=>simp(disch:=try exact dz)only[hne,hc,q2,q3,q4,q5,q11,hinc2,hmx,t56 M (d-1) zy,hadd (d-1) _ _ _ zy,h3,↓gP,gY];refine push (d-1) _ _ _ _ _ (λb hb=>d9 zy) (o7 _ _ _) λu2 c2 h2 r2 w2 W=>?_;simp(disch:=try exact dz)only[hinc,↓gP,gY];rw[go_on (d-1) (d-1) _ _ (by unfold S.ind;simp only[q2,q3,q4,q5,q11,U9,V7])];exact ih e (i+1) c2 (d-1) h2 u2 _ _ _ _ zy zy yj W rfl rfl rfl|false=>simp(disch:=try exact dz)only[hne,hc,q2,q3,q4,q5,q11,hinc2,hmx,t56 M (d) zy,hadd (d) _ _ _ zy,h3,↓gP,gY];refine push (d) _ _ _ _ _ (λb hb=>d9 zy) (o7 _ _ _) λu2 c2 h2 r2 w2 W=>?_;simp(disch:=try exact dz)only[hinc,↓gP,gY];rw[go_on (d) (d) _ _ (by unfold S.ind;simp only[q2,q3,q4,q5,q11,V7])];exact ih e (i+1) c2 (d) h2 u2 _ _ _ _ zy zy yj W rfl rfl rfl
theorem t17 {c0 h0 v Zs}(HI:S.InsL c0 h0 v Zs)(hf:S.c5n Zs=true)(hP:∀x∈Zs,S.a3m x.1=true/\x.1.N<18446744073709551616)(M r w):l9 (go (o8 D8 (M+2) 17 [v]) ⟨c0,h0,r,w⟩) λx s=>∃u,x=.ret (.slice u.a u.n u.e)/\OI c0 h0 s.c s.h u (S.prT (Zs.map (·.1)) 0):=by
 obtain⟨hz,_⟩:=S.f0p hf;have hN:NN=Zs.length+1+(999999-Zs.length):=by show 1000000=_;omega
 have hlen:=HI.len;rw[e3y];simp(disch:=try exact dz)only[G17,hlen,↓gP,gY];refine l9.bindJ (P:=λy s=>∃u' xs',OI c0 h0 s.c s.h u' (S.prT (Zs.map (·.1)) 0)/\y=(.exit 0,xs')/\C9 xs' 39=.slice u'.a u'.n u'.e) ?_ λy xs1 s hq=>?_;have:=λxs e1 e2 e3=>n17 HI hf hP M Zs.length (999999-Zs.length) 0 c0 0 h0 ⟨none,0,0⟩ [] xs r w zy (wQ _) rfl ⟨wQ _,λ_ _=>rfl,X4.nil 1 c0 h0,λj hj=>by obtain⟨_,k,_⟩:=hj;cases k⟩ e1 e2 e3;rw[<-hN]at this;exact this _ rfl rfl rfl;obtain⟨u,xs',H,e1,e2⟩:=hq;cases e1;simp(disch:=try exact dz)only[e2,↓gP,gY];exact l9.done ⟨u,rfl,H⟩
end Go.Proofs.YtmomonnlmbljoaaGreatDoor
end
section
namespace Go.Proofs.YtmomonnlmbljoaaGreatDoor
open Go.V Go.RowKit Go.Shelf Go.Proofs
variable {mL:Int}
theorem d6v (op st):b1b (.ofNat op) st=wst op st:=by have d:∀n:Nat,decide (Int.ofNat op=Int.ofNat n)=decide (op=n):=λn=>qm.2 ⟨λh=>sZ h,λh=>by rw[h]⟩;unfold b1b wst blkB;rw[d,d,d,d,d];by_cases h2:op=2;subst h2;rfl;by_cases h3:op=3;subst h3;rfl;by_cases h4:op=4;subst h4;rfl;by_cases h5:op=5;subst h5;rfl;by_cases h11:op=11;subst h11;rfl;rw[wP h2,wP h3,wP h4,wP h5,wP h11,vN h5,vN h11];rfl
theorem b8F:∀(Zs) (st),whB Zs st=true->∀x∈Zs,S.a3m x.1=true:=by intro Zs;induction Zs with|nil=>intro st _ x hx;cases hx|cons z Zs ih=>intro st h x hx;have h':bcase (S.a3m z.1) (match b1b z.1.op st with|some st'=>whB Zs st'|none=>false) false=true:=h;cases hp:S.a3m z.1 with|false=>rw[hp]at h';cases h'|true=>rw[hp,A9]at h';cases e:b1b z.1.op st with|none=>rw[e]at h';cases h'|some st'=>rw[e]at h';rcases uw.1 hx with rfl|hx;exact hp;exact ih st' h' x hx
theorem d1V:∀(Zs) (st) (ps:List (Nat×Row)),whB Zs st=true->Zs.map (·.1)=ps.map (λp=>a1G p.2.1)->a2j (ps.map λp=>p.2.1.op) st=some []:=by
 intro Zs;induction Zs with
  |nil=>intro st ps h e;cases ps with|cons p ps=>cases e|nil=>have h':Nat.beq st.length 0=true:=h;have:=wR h';rw[uz.1 this];rfl
  |cons z Zs ih=>
   intro st ps h e;cases ps with
    |nil=>cases e|cons p ps=>
     rw[uy,uy,List.cons.injEq]at e;obtain⟨e1,e2⟩:=e;have h':bcase (S.a3m z.1) (match b1b z.1.op st with|some st'=>whB Zs st'|none=>false) false=true:=h;have eop:z.1.op=.ofNat p.2.1.op:=by rw[e1];rfl
     cases hp:S.a3m z.1 with|false=>rw[hp]at h';cases h'|true=>rw[hp,A9,eop,d6v]at h';show(wst p.2.1.op st).bind (a2j (ps.map λp=>p.2.1.op))=_;cases e:wst p.2.1.op st with|none=>rw[e]at h';cases h'|some st'=>rw[e]at h';exact ih st' ps h' e2
end Go.Proofs.YtmomonnlmbljoaaGreatDoor
end
section
namespace Go.Proofs.YtmomonnlmbljoaaGreatDoor
open Go.V Go.RowKit Go.Shelf Go.Proofs
variable {mL:Int}
attribute [local congr] y7 x9 A8 A7 D5 z8 E5 G8 G7
theorem c8A {U h v}{l:List Nat}{c}(H:SlU U h v (l.map iV))(hU:∀i,U i->i<c):K8 c h (.slice v.a v.n v.e) (S.M0 (l.map Int.ofNat)):=by
 have e:l.map iV=S.M0 (l.map Int.ofNat):=by unfold S.M0;rw[tC];rfl
 rw[e]at H;obtain⟨h1,h2⟩:=H;refine⟨v.a,v.e,by rw[h1],?_⟩;rcases h2 with h2|⟨b,o,g,cs,cur,ro,e1,e2,e3,e4,e5⟩;exact Or.inl h2;exact Or.inr ⟨b,o,g,cs,cur,ro,e1,e2,hU b e3,e4,e5⟩
theorem d0U {U h Rs Y c}(H:RIs U h Rs Y)(hU:∀i,U i->i<c):∃Cs:List S.IR,Cs.map (·.1)=Y.map a1G/\Rs.flatMap a2y=Cs.flatMap S.a4R/\∀x∈Cs,Sv c h x:=by induction H with|nil=>exact⟨[],rfl,rfl,λx hx=>by cases hx⟩| @cons R X Rs Y h1 h2 ih=>obtain⟨Cs,e1,e2,e3⟩:=ih;obtain⟨i,op,A,B,N,k,v,bi,ts,ls⟩:=R;obtain⟨⟨rfl,rfl,rfl,rfl,rfl,rfl,rfl⟩,h3,h4⟩:=h1;refine⟨(a1G X,.slice ts.a ts.n ts.e,.slice ls.a ls.n ls.e)::Cs,by rw[uy,uy,e1],by rw[vU,vU,e2];rfl,λx hx=>?_⟩;rcases uw.1 hx with rfl|k;exact⟨c8A h3 hU,c8A h4 hU⟩;exact e3 x k
abbrev GL6:=(λp0 p1 p2 p3 p4 s=>goE (d5m p0 p1 p2 p3 p4) s)
theorem e0M {sz c h u rows}(H:X4 sz c h u rows):b6c (.slice u.a u.n u.e)=V.M.pure (.int .i64 (.ofNat u.n)):=S9 u.a u.n u.e
noncomputable def inS (L:List (List UInt8)):List UInt8:=L.flatMap λl=>l++[32]
theorem n6 {c h u L}(H:X4 1 c h u (ls_ L))(hL:L.length<=60)(hb:∀l∈L,x8 l<=400)(call):∀(k e i) (acc) (xs) (r w),L.length=i+k->x8 acc<=401*i->C9 xs 14=.int .i64 (.ofNat i)->C9 xs 11=.string ⟨⟨acc⟩⟩->l9 (go (U4 (d9P o9 NN call (.slice u.a u.n u.e)) (k+1+e) xs) ⟨c,h,r,w⟩) λy s=>s.c=c/\s.h=h/\∃xs',y=(.exit 0,xs')/\C9 xs' 11=.string ⟨⟨acc++inS (L.drop i)⟩⟩:=by
 have hn:u.n=L.length:=by have:=H.1;rw[c9U]at this;omega
 have hlen:=e0M H;rw[hn]at hlen;intro k;induction k with
  |zero=>intro e i acc xs r w hk ha h1 h2;rw[vY 0 1 e,Y5];have e0:decide (i<L.length)=false:=wP zy;rw[hn];simp(disch:=try exact dz)only[GL6,h1,dL,e0,hlen,↓gP,gY];refine l9.done ⟨rfl,rfl,_,rfl,?_⟩;rw[tQ zy];show C9 xs 11=.string ⟨⟨acc++[]⟩⟩;rw[wH];exact h2|succ k ih=>
   intro e i acc xs r w hk ha h1 h2;rw[vY (k+1) 1 e,Y5];have hlt:i<L.length:=zy;obtain⟨z,hzi⟩:∃z,L[i]?=some z:=⟨_,wO hlt⟩;have hmem:=vP hzi;have hdr:L.drop i=z::L.drop (i+1):=yQ;have e0:decide (i<L.length)=true:=wL hlt;have hinc:=J6 i zy;have hz:=hb z hmem;obtain⟨hl1,hor⟩:=H;obtain⟨ab,g,cs,q1,q2,q3,q4,q5,q6⟩:∃ab g cs,u.a=some ⟨ab,0,some g⟩/\u.e=1/\ab<c/\h.get ab=some (.cells cs g false)/\(ls_ L).length<=x8 cs/\y8 g cs (ls_ L).length=some (ls_ L):=by rcases hor with h0|h0;rw[h0]at hn;simp at hn;omega;exact h0
   have tk:y8 g (H9 cs i) 1=some [.string ⟨⟨z⟩⟩]:=a2I q6 _ _ (by unfold ls_;rw[vM,hzi];rfl);have eI:a7i 1 (.slice (some ⟨ab,0,some g⟩) L.length 1) (.int .i64 (.ofNat i))=V.M.pure (.pointer (some ⟨ab,i,some g⟩)):=by rw[a1C 1 i L.length .i64 ab 0 (some g) hlt zu,a8S,uu]
   have a1:∀t x y,a0M Tryz.prog tab .add t x y (.string ⟨⟨z⟩⟩) (.string ⟨⟨[32]⟩⟩)=V.M.pure (.string ⟨⟨D7 z [32]⟩⟩):=λt x y=>a2e _ _ t x y ⟨⟨z⟩⟩ ⟨⟨[32]⟩⟩ (by show x8 z+1<_;omega);have a2:∀t x y,a0M Tryz.prog tab .add t x y (.string ⟨⟨acc⟩⟩) (.string ⟨⟨D7 z [32]⟩⟩)=V.M.pure (.string ⟨⟨D7 acc (D7 z [32])⟩⟩):=λt x y=>a2e _ _ t x y ⟨⟨acc⟩⟩ ⟨⟨D7 z [32]⟩⟩ (by show x8 acc+x8 (D7 z [32])<_;rw[X3];show _+(_+1)<_;omega);rw[hn,q1,q2]at ih⊢;rw[q1,q2]at hlen;simp(disch:=try exact dz)only[GL6,h1,h2,dL,e0,hlen,eI,q4,tk,a1,a2,hinc,↓gP,gY];refine l9.mono (ih e (i+1) (D7 acc (D7 z [32])) _ _ _ zy (by rw[X3,X3];show _+(_+1)<=_;omega) rfl rfl) λa s hq=>?_;obtain⟨p1,p2,xs',p3,p4⟩:=hq;refine⟨p1,p2,xs',p3,?_⟩;rw[p4,hdr];simp[inS,D9]
theorem d6a:∀L,(∀l∈L,x8 l<=400)->x8 (inS L)<=401*L.length:=by intro L;induction L with|nil=>intro _;exact wQ _|cons l L ih=>intro h;have h1:=h l zq;have h2:=ih λx hx=>h x zZ;unfold inS at h2⊢;rw[vU,F9,wG,wG,wI];rw[F9]at h1 h2;simp only[wI,vE];omega
theorem d9h (op d):(S.ind op d).1<=d/\(S.ind op d).2<=d+1:=by unfold S.ind;cases decide (op=.ofNat 2)<;>cases decide (op=.ofNat 3)<;>cases decide (op=.ofNat 4)<;>cases decide (op=.ofNat 5)<;>cases decide (op=.ofNat 11);all_goals(simp only[U9,V7];omega)
theorem d7K:∀(Xs) (d),d+Xs.length<=60->(∀X∈Xs,x8 (S.a1r X)<=260)->(S.prT Xs d).length=Xs.length/\∀l∈S.prT Xs d,x8 l<=400:=by intro Xs;induction Xs with|nil=>intro d _ _;exact⟨rfl,λl h=>zg⟩|cons X Xs ih=>intro d hd hX;obtain⟨i1,i2⟩:=d9h X.op d;rw[wI]at hd;obtain⟨h1,h2⟩:=ih (S.ind X.op d).2 zy λY hY=>hX Y (by simp[hY]);have h3:=hX X zq;refine⟨?_,λl hl=>?_⟩;show(S.prT _ _).length+1=_;rw[h1,wI];rcases uw.1 hl with rfl|hl;unfold S.pad;rw[X3,c4n];omega;exact h2 l hl
end Go.Proofs.YtmomonnlmbljoaaGreatDoor
end
section
namespace Go.Proofs.YtmomonnlmbljoaaGreatDoor
open Go.V Go.RowKit Go.Shelf Go.Proofs
variable {mL:Int}
theorem d5H {W}(h:a0O W=true):Wd W:=by match W,h with|[],h=>cases h|[b],h=>cases h|b::c::l,h=>have h':(decide (b.toNat=36)&&a5V (c::l))=true:=h;simp only[wK,vZ]at h';refine⟨zq,?_⟩;rw[qh,h'.1,wK];exact⟨zw,rq.2 λx hx=>(M4 _ _).1 h'.2 x hx⟩
noncomputable def b0v (W:List UInt8):List (List UInt8):=bcase (a0O W) [W] []
theorem c6A (W):b0A (b0v W):=by unfold b0v;cases h:a0O W with|false=>exact Or.inl rfl|true=>exact Or.inr ⟨W,rfl,h,d5H h⟩
theorem d1g {Zs k v i}(W)(hw:whB Zs []=true)(hN:∀x∈Zs,x.1.N<18446744073709551616)(hb:S.blkB k v i=true):∃(R:List AI) (l1 l2:List Nd) (j1 j2:Nat),a5B (c1P (a5W (b0v W) (S.a6L k v i)) (inS (S.prT (Zs.map (·.1)) 0)))=.ok l1 j1/\a5B (b7O (a5W (b0v W) (S.a6L k v i)) (inS (S.prT (Zs.map (·.1)) 0)))=.ok l2 j2/\(∀F L,a0k (I9 F (zs l1)) F L l1=.ok R)/\(∀fold F L,a0k fold F L l2=.ok R)/\R.length=10+5*Zs.length/\∀a∈R,(a.ts=[]/\a.ls=[])\/∃x∈Zs,x.1=a1G a:=by
 obtain⟨k',v',i',its,rfl,rfl,rfl,hbt,hs⟩:=b5E hb;have hp:=b8F Zs [] hw;obtain⟨ps,p1,p2,p3⟩:=d2H (Zs.map (·.1)) 0 λX hX=>by obtain⟨x,hx,rfl⟩:=uS.1 hX;exact⟨hp x hx,hN x hx⟩
 have hin:inS (S.prT (Zs.map (·.1)) 0)=inT 32 ps:=p2 32;have hwh:=d1V Zs [] ps hw p3;have hbb:=hs.imp (λh=>And.intro h.1 h.2.1) λh=>h.1;have hr:∀x∈ps.map (·.2),Ro x:=λx hx=>by obtain⟨p,h,rfl⟩:=uS.1 hx;exact p1 p h
 have hw2:a2j ((ps.map (·.2)).map λx=>x.1.op) []=some []:=by rw[tC];exact hwh
 rw[hin];obtain⟨ks,f1,f2⟩:=e1n hbt (c6A W) hbb p1;obtain⟨l1,j1,e1,e2⟩:=c3e f1 f2;have ft:=e0R hbt (c6A W) hbb p1;obtain⟨l2,j2,e3,e4⟩:=ft.parse;have h4:4<=zs l1:=by cases e2 with| @cons x _ l _ h1 h2=>show 4<=x.z+zs l;have:=a8J x;omega
 obtain⟨n,hn⟩:∃n,zs l1=n+2:=⟨zs l1-2,zy⟩;refine⟨(b1Y k' v' i' (b0v W) its (ps.map (·.2))).map (·.1),l1,l2,j1,j2,e1,e3,λF L=>by rw[hn];exact d6z hbt (c6A W) hr hw2 e2,λfold F L=>b0H ft.ro e4 (d9x hw2),?_,λa ha=>?_⟩;have:=wB List.length p3;rw[wF,wF]at this;unfold b1Y;simp only[wF,wI,wG,vE];omega;·
  obtain⟨x,hx,rfl⟩:=uS.1 ha;have hrs:∀x∈ps.map (·.2),(x.1.ts=[]/\x.1.ls=[])\/∃z∈Zs,z.1=a1G x.1:=λx hx=>by
   obtain⟨p,h,rfl⟩:=uS.1 hx;have h2:a1G p.2.1∈Zs.map (·.1):=by rw[p3];exact uS.2 ⟨p,h,rfl⟩
   obtain⟨z,z1,z2⟩:=uS.1 h2;exact Or.inr ⟨z,z1,z2⟩
  unfold b1Y at hx;simp only[uw,ut,ny,or_false]at hx;rcases hx with rfl|hx|rfl|rfl|hx|rfl|rfl|rfl|hx|rfl|hx|rfl|rfl|hx|rfl;all_goals first|exact hrs _ hx|exact Or.inl ⟨rfl,rfl⟩
end Go.Proofs.YtmomonnlmbljoaaGreatDoor
end
section
namespace Go.Proofs.YtmomonnlmbljoaaGreatDoor
open Go.V Go.RowKit Go.Shelf Go.Proofs
variable {mL:Int}
attribute [local congr] y7 x9 A8 A7 D5 z8 E5 G8 G7
theorem d8f:M8 2=[98,108,111,99,107]/\M8 3=[108,111,111,112]/\M8 4=[105,102]/\M8 5=[101,108,115,101]/\M8 11=[101,110,100]/\M8 65=[105,51,50,46,99,111,110,115,116]:=⟨zw,zw,zw,zw,zw,zw⟩
theorem c0z (hd inn):c1P hd inn=40::98::108::111::99::107::(hd++((inn++(41::40::108::111::111::112::(hd++((inn++(41::40::105::102::(hd++(40::105::51::50::46::99::111::110::115::116::32::49::41::40::116::104::101::110::32::(inn++(41::40::101::108::115::101::32::(inn++(41::41::40::105::102::(hd++(40::116::104::101::110::32::(inn++([41,41])))))))))))))))))):=by obtain⟨e2,e3,e4,e5,e11,e65⟩:=d8f;unfold c1P a5Z;rw[e2,e3,e4,e5,e65];simp only[vD,vR]
theorem c0w (hd inn):b7O hd inn=98::108::111::99::107::(hd++((inn++(101::110::100::32::108::111::111::112::(hd++((inn++(101::110::100::32::105::51::50::46::99::111::110::115::116::32::49::32::105::102::(hd++((inn++(101::108::115::101::32::(inn++(101::110::100::32::105::102::(hd++((inn++([101,110,100])))))))))))))))))):=by obtain⟨e2,e3,e4,e5,e11,e65⟩:=d8f;unfold b7O;rw[e2,e3,e4,e5,e11,e65];simp only[vD,vR]
abbrev G6:=λp0 p1 p2 p3 p4 p5 s=>goE (nf6 p0 p1 p2 p3 p4 p5) s
theorem e7J (n a b d):o8 D8 (n+1) 6 [a,b,d]=sh6 o9 NN (o8 D8 n) a b d:=b2s (q:=sh6) (N:=NN) zw n a b d
theorem c8F (t x y k n m):a0M Tryz.prog tab .mul t x y (.int k n) (.int k m)=V.M.pure (.int k (Q0 k (n*m))):=a5k _ _ (a5s zu zu _ _ _) rfl
theorem c1m (W bt):D7 (bcase (a0O W) (32::W) []) (32::D7 bt [32])=a5W (b0v W) bt:=by unfold a5W b0v;cases a0O W<;>simp[D9,U9,V7]
theorem d5M {k v i}(h:S.blkB k v i=true):x8 (S.a6L k v i)<=30:=by obtain⟨k',v',i',its,rfl,rfl,rfl,hbt,_⟩:=b5E h;cases hbt with|none=>exact(by decide:0<=30)|val u1 u2=>have hn:=S.a8T (.ofNat v');show x8 (bcase (a0X (.ofNat v')) (40::114::101::115::117::108::116::32::(Q9 (.ofNat v')++[41])) [])<=30;rw[F9]at hn⊢;cases a0X (.ofNat v');rw[V7,vE];omega;rw[U9];simp only[wI,wG,vE];omega|idx hu=>have hn:=S.L8 i' zy;show x8 (40::116::121::112::101::32::(Lib.itoa (.ofNat i')++[41]))<=30;rw[S.d2f];rw[F9]at hn⊢;simp only[wI,wG,vE];omega
theorem e6T {k v i}(h:S.blkB k v i=true):-9223372036854775808<=i/\i<=9223372036854775807:=by obtain⟨k',v',i',its,rfl,rfl,rfl,hbt,_⟩:=b5E h;cases hbt with|none=>exact⟨zu,zu⟩|val u1 u2=>exact⟨zu,zu⟩|idx hu=>simp only[vz];omega
theorem d0t {k b i}(hp:S.a3m ⟨.ofNat 2,.ofNat 0,.ofNat 0,0,k,b,i,[],[]⟩=true):S.blkB k b i=true:=by unfold S.a3m at hp;have hk:I1 (.ofNat 2)=true:=c1t;have h1:E9 (.ofNat 2)=1:=zw;dsimp only at hp;rw[hk,A9,h1]at hp;obtain⟨_,_,_,_,_,_,_,hr⟩:=c0y hp;exact hr
theorem d8F (n)(h:n<=60):Q0 .i64 (Int.ofNat 10+Q0 .i64 (Int.ofNat 5*Int.ofNat n))=.ofNat (10+5*n):=by have e:Q0 .i64 (Int.ofNat 5*Int.ofNat n)=.ofNat (5*n):=a4Y .i64 (5*n) (by show 5*n<9223372036854775808;omega);rw[e];exact a4Y .i64 (10+5*n) (by show 10+5*n<9223372036854775808;omega)
theorem d3b (T bt)(h1:x8 T<=20)(h2:x8 bt<=30):x8 (a5W (b0v T) bt)<=60:=by
 rw[<-c1m];have hlc:x8 (bcase (a0O T) (32::T) [])<=21:=by cases a0O T;rw[V7,a2a];omega;rw[U9,X8];omega
 rw[X3,X8,X3,X8,a2a];omega
theorem c4T {c h}:K8 c h (.slice none 0 0) (S.M0 []):=⟨none,0,rfl,Or.inl rfl⟩
theorem c6Y {c h v Xs}(H:S.InsL c h v Xs)(hN:∀x∈Xs,x.1.N<18446744073709551616)(k b i T M)(hM:3000000<=M)(r w):l9 (go (o8 D8 (M+1+1) 6 [v,.agg ⟨[.int .i64 k,.int .i64 b,.int .i64 i]⟩,.string ⟨⟨T⟩⟩]) ⟨c,h,r,w⟩) λx s=>x=.ret (.bool true):=by
 obtain⟨M1,rfl⟩:∃m,M=m+1:=⟨M-1,zy⟩;rw[e7J];simp(disch:=try exact dz)only[G6,↓gP,gY];refine l9.bindC (t10 (H.mono (c':=c+1) (vv _) λj hj=>d9 zy) (M1+1) _ _) λx s hq=>?_;obtain⟨c1,h1,r1,w1⟩:=s;obtain⟨rfl,e1,e2⟩:=hq;have e1:c1=c+1:=e1;have e2:h1=_:=e2;have hs1:∀j,j<c->h1.get j=h.get j:=λj hj=>by rw[e2];exact d9 zy
 have hb1:h1.get c=some (.cells [(.int .i64 k,0),(.int .i64 b,0),(.int .i64 i,0)] 0 false):=by rw[e2];exact o7 _ _ _
 clear e2;have H1:=H.mono (show c<=c1 by omega) hs1;cases hfew:S.c5n Xs with
  |false=>simp(disch:=try exact dz)only[b3w,↓gP,gY,gT];exact l9.done rfl|true=>
   obtain⟨hz,hsm⟩:=S.f0p hfew;simp(disch:=try exact dz)only[↓gP,gY,gT];refine l9.bindC (t23 H1 hfew M1 _ _) λx s hq=>?_;obtain⟨c2,h2,r2,w2⟩:=s;obtain⟨rfl,f1,f2⟩:=hq;have f1:c1<=c2:=f1;cases hwh:whB Xs []with
    |false=>simp(disch:=try exact dz)only[b3w,↓gP,gY,gT];exact l9.done rfl|true=>
     have hc2:c<c2:=zy;have hb2:=(f2 c zy).trans hb1;have H2:=H1.mono f1 f2;cases h20:decide (20<T.length)with
      |true=>simp(disch:=try exact dz)only[b3w,dL,h20,↓gP,gY,gT];exact l9.done rfl|false=>
       have hT20:T.length<=20:=by rw[vX]at h20;omega
       have hat:S.InsAt c2 h2 ⟨.ofNat 2,.ofNat 0,.ofNat 0,0,k,b,i,[],[]⟩ (S.D6 ⟨.ofNat 2,.ofNat 0,.ofNat 0,0,k,b,i,[],[]⟩ (.slice none 0 0) (.slice none 0 0)):=⟨⟨_,_,rfl,c4T,c4T⟩,by show 0<_;omega,by show 0<_;omega⟩;obtain⟨zz,hzz⟩:=S.d8Q (q:=λX=>some (.bool (S.a3m X))) hat (wQ _) (λ_ _=>rfl) rfl;have hcall19:∀r w,go (o8 D8 (M1+1+1) 19 [S.D6 ⟨.ofNat 2,.ofNat 0,.ofNat 0,0,k,b,i,[],[]⟩ (.slice none 0 0) (.slice none 0 0)]) ⟨c2,h2,r,w⟩=some (.ret (.bool (S.a3m ⟨.ofNat 2,.ofNat 0,.ofNat 0,0,k,b,i,[],[]⟩)),⟨c2,h2,zz r,w⟩):=λr w=>S.d4L zw (M1+1) (hzz r w);unfold S.D6 at hcall19;cases hp:S.a3m ⟨.ofNat 2,.ofNat 0,.ofNat 0,0,k,b,i,[],[]⟩with
        |false=>simp(disch:=try exact dz)only[b3w,dL,h20,hb2,hcall19,hp,↓gP,gY,gT];exact l9.done rfl|true=>
         have hB:=d0t hp;obtain⟨hi1,hi2⟩:=e6T hB;have hbl:=d5M hB;have h24:o8 D8 (M1+1+1) 24 [.string ⟨⟨T⟩⟩]=V.M.pure (.ret (.bool (a0O T))):=t24 zy M1;have h14:o8 D8 (M1+1+1) 14 [.agg ⟨[.int .i64 k,.int .i64 b,.int .i64 i]⟩]=V.M.pure (.ret (.string ⟨⟨S.a6L k b i⟩⟩)):=S.c6I (q:=S.b5b) zw (M1+1) (S.d6m k b i hi1 hi2);have hlT:x8 T<=20:=by rw[F9];exact hT20
         have hlc:x8 (bcase (a0O T) (32::T) [])<=21:=by cases a0O T;rw[V7,a2a];omega;rw[U9,X8];omega
         simp(disch:=try first|exact dz|(simp only[X3,X8,a2a];omega))only[dL,h20,hb2,hcall19,hp,h24,h14,c1m,↓gP,gY,gT];have hP:∀x∈Xs,S.a3m x.1=true/\x.1.N<18446744073709551616:=λx hx=>⟨b8F Xs [] hwh x hx,hN x hx⟩;refine l9.bindC (t17 H2 hfew hP M1 _ _) λx s hq=>?_;obtain⟨c3,h3,r3,w3⟩:=s;obtain⟨u,rfl,HO⟩:=hq;have HO:OI c2 h2 c3 h3 u (S.prT (Xs.map (·.1)) 0):=HO;obtain⟨hL1,hL2⟩:=d7K (Xs.map (·.1)) 0 (by rw[wF];omega) λX hX=>by obtain⟨x,hx,rfl⟩:=uS.1 hX;exact S.e8M x.1 (hP x hx).1 (hP x hx).2 (hsm x hx).1
         rw[wF]at hL1;obtain⟨e,hNe⟩:∃e,NN=(S.prT (Xs.map (·.1)) 0).length+1+e:=⟨1000000-((S.prT (Xs.map (·.1)) 0).length+1),by show 1000000=_;omega⟩;have lp:=λxs r w e1 e2=>n6 HO.g zy hL2 (o8 D8 (M1+1+1)) (S.prT (Xs.map (·.1)) 0).length e 0 [] xs r w zy (vC _) e1 e2;rw[<-hNe]at lp;have hli:=d6a _ hL2;have hlh:=d3b T _ hlT hbl;obtain⟨R,l1,l2,j1,j2,p1,p2,p3,p4,p5,p6⟩:=d1g T hwh hN hB;have hq1:(c1P (a5W (b0v T) (S.a6L k b i)) (inS (S.prT (Xs.map (·.1)) 0))).length<190000:=by rw[c0z,<-F9];simp only[<-D9,X3,X8,a2a];omega
         have hq2:(b7O (a5W (b0v T) (S.a6L k b i)) (inS (S.prT (Xs.map (·.1)) 0))).length<190000:=by rw[c0w,<-F9];simp only[<-D9,X3,X8,a2a];omega
         simp(disch:=try exact dz)only[↓gP,gY];refine l9.bindJ (lp _ _ _ rfl rfl) λy xs' s hq=>?_;obtain⟨c4,h4,r4,w4⟩:=s;obtain⟨g1,g2,xs1,g3,g4⟩:=hq;cases g3;have g1:c4=c3:=g1;have g2:h4=h3:=g2;subst g1 g2;rw[vR,uC]at g4;clear lp;generalize inS (S.prT (Xs.map (·.1)) 0)=inn at*;generalize a5W (b0v T) (S.a6L k b i)=hd at*;simp(disch:=try first|exact dz|(simp only[X3,X8,a2a];omega))only[R5,g4,↓gP,gY];simp only[D9,vw,vD,vR,<-c0z,<-c0w];refine l9.bindC (t21 (c0:=c4) (h0:=h4) (M1+1) _ _) λx s hq=>?_;obtain⟨c5,h5,r5,w5⟩:=s;obtain⟨rfl,d1,d2,d3⟩:=hq;have d1:c4+1<c5:=d1;simp(disch:=try exact dz)only[↓gP,gY];refine l9.bindC (t20 d3 hq1 (by show 0<100;decide) (M1+1) hM _ _) λx s hq=>?_;obtain⟨c6,h6,r6,w6⟩:=s;obtain⟨a1,a2,_,hor⟩:=hq;have a1:c5<=c6:=a1;have hs6:∀i,i<c4->h6.get i=h4.get i:=λi hi=>(a2 i ⟨zy,zy⟩).trans (d2 i hi);rcases hor with⟨p,e,k1,_⟩|⟨l',j',k1,_,k2⟩;rw[p1]at k1;cases k1;rw[p1]at k1;cases k1;rcases k2 with⟨Y,u2,Rs,U',k3,rfl,k4,k5,k6,k7⟩|⟨p,e,k3,_⟩;rotate_left;rw[p3]at k3;cases k3;rw[p3]at k3;cases k3;obtain⟨Cs,m1,m2,m3⟩:=d0U k5 k6;rw[m2]at k4;have hI1:=c4i k4 m3;simp(disch:=try exact dz)only[↓gP,gY];refine l9.bindC (t21 (c0:=c6) (h0:=h6) (M1+1) _ _) λx s hq=>?_;obtain⟨c7,h7,r7,w7⟩:=s;obtain⟨rfl,d4,d5,d6⟩:=hq;have d4:c6+1<c7:=d4;simp(disch:=try exact dz)only[↓gP,gY];refine l9.bindC (t20 d6 hq2 (by show 0<100;decide) (M1+1) hM _ _) λx s hq=>?_;obtain⟨c8,h8,r8,w8⟩:=s;obtain⟨a3,a4,_,hor⟩:=hq;have a3:c7<=c8:=a3;have hs8:∀i,i<c6->h8.get i=h6.get i:=λi hi=>(a4 i ⟨zy,zy⟩).trans (d5 i hi);rcases hor with⟨p,e,k1,_⟩|⟨l',j',k1,_,k2⟩;rw[p2]at k1;cases k1;rw[p2]at k1;cases k1;rcases k2 with⟨Y,u3,Rs3,U3,k3,rfl,k8,k9,k10,k11⟩|⟨p,e,k3,_⟩;rotate_left;rw[p4]at k3;cases k3;rw[p4]at k3;cases k3;obtain⟨Ds,n1,n2,n3⟩:=d0U k9 k10;rw[n2]at k8;have hI2:=c4i k8 n3;have hI3:=hI1.mono (show c6<=c8 by omega) hs8;have hCl:Cs.length=10+5*Xs.length:=by have:=wB List.length m1;rw[wF,wF]at this;omega
         have h22:=t22 hI3 hI2 (m1.trans n1.symm) zy (λx hx=>by
          have hm:x.1∈R.map a1G:=by rw[<-m1];exact List.mem_map_of_mem hx
          obtain⟨a,ha,hxa⟩:=uS.1 hm;rw[<-hxa];rcases p6 a ha with⟨q1,q2⟩|⟨z,q1,q2⟩;unfold a1G;rw[q1,q2];exact⟨Nat.zero_lt_succ _,Nat.zero_lt_succ _⟩;obtain⟨s1,s2⟩:=hsm z q1;rw[<-q2];exact⟨zy,zy⟩) M1;have hl2:=H.len;have hu:u2.n=10+5*Xs.length:=by have:=k4.1;rw[d5h]at this;omega
         have hw5:=d8F Xs.length hz;simp(disch:=try exact dz)only[↓gP,gY,gT];refine l9.bindC (h22 _ _) λx s hq=>?_;obtain⟨c9,h9,r9,w9⟩:=s;subst hq;simp(disch:=try exact dz)only[hl2,hw5,c8F,b3w,Y1,↓gP,gY,gT];rw[hu,wL rfl];exact l9.done rfl
end Go.Proofs.YtmomonnlmbljoaaGreatDoor
end
section
noncomputable section
namespace Go.V
open Go.RowKit (Below)
section
variable {P:Program}{T:Tab}{w:World}{rows:a2G}
def a6G (locs:List (Nat×Nat)):KM:=λb g=>if g=0 then(match locs[b]? with|some p=>some ⟨p.1,0,p.2,0,false⟩|none=>none)else none
theorem a3x {locs b g l}(h:a6G locs b g=some l):∃p,locs[b]?=some p/\g=0/\l=⟨p.1,0,p.2,0,false⟩:=by unfold a6G at h;grind
theorem b0j {locs b p}(h:locs[b]?=some p):a6G locs b 0=some ⟨p.1,0,p.2,0,false⟩:=by unfold a6G;rw[vH rfl,h]
end
end Go.V
end
