import Derived.Test.YtmomonnlmbljoaaGreatDoorGbj
set_option maxRecDepth 1000000
set_option maxHeartbeats 4000000
set_option linter.unusedVariables false
set_option linter.unusedSimpArgs false
noncomputable section
namespace Go.Proofs.YtmomonnlmbljoaaGreatDoor
open Go.V Go.RowKit Go.Shelf Go.Proofs
variable {mL:Int}
section
attribute [local congr] q9 x8 A8 z8 D5 x9 D6 D8 D7
abbrev V3 (a:Option Addr)(n q p e:Nat):List Value:=[.slice a n q,.int .i64 (.ofNat p),.int .i64 (.ofNat e)]
def c3 (a:Option Addr)(n q p e:Nat):VObj:=.cells [(.slice a n q,0),(.int .i64 (.ofNat p),0),(.int .i64 (.ofNat e),0)] 0 false
def c9 (R:RV):VObj:=.cells (J7 (λv=>(v,0)) (a0Y R)) 0 false
section
variable (R:RV)(a0 a:Option Addr)(n0 q0 p0 e0 n q p e c b:Nat)(h:Trie VObj)(r w:List Nat)
theorem e9F:go (b5j [(.slice none 0 0),(.int .i64 (.ofNat 0)),(.int .i64 (.ofNat 0))]) ⟨c,h,r,w⟩=some (.pointer (some ⟨c,0,some 0⟩),⟨c+1,V.upd h c (c3 none 0 0 0 0),r,c::w⟩):=a5p c h r w _ rfl
theorem st3:go (a6o 3 (.pointer (some ⟨b,0,some 0⟩)) (.agg ⟨V3 a n q p e⟩)) ⟨c,h,r,w⟩=stS (Nat.blt b c) (h.get b) 0 0 (V3 a n q p e) λcs cur ro=>some (undef,⟨c,V.upd h b (.cells cs cur ro),b::r,b::w⟩):=a2g c h r w 3 b 0 0 _ rfl
theorem e3O:a8R [(0,1)] [.slice a n q] [(.slice none 0 0),(.int .i64 (.ofNat 0)),(.int .i64 (.ofNat 0))]=M.pure (.agg ⟨V3 a n q 0 0⟩):=rfl
theorem e3E:a8R [(1,1),(2,1)] [.int .i64 (.ofNat p),.int .i64 (.ofNat e)] [(.slice none 0 0),(.int .i64 (.ofNat 0)),(.int .i64 (.ofNat 0))]=M.pure (.agg ⟨V3 none 0 0 p e⟩):=rfl
theorem e7w (op):a8R [(0,1)] [.int .i64 (.ofNat op)] [(.int .i64 (.ofNat 0)),(.int .i64 (.ofNat 0)),(.int .i64 (.ofNat 0)),(.int .u64 (.ofNat 0)),(.int .i64 (.ofNat 0)),(.int .i64 (.ofNat 0)),(.int .i64 (.ofNat 0)),(.slice none 0 0),(.slice none 0 0)]=M.pure (.agg ⟨a0Y (rvE op)⟩):=rfl
theorem e5A:go (a9X 9 1 [(0,9)] [.agg ⟨a0Y R⟩] [(.int .i64 (.ofNat 0)),(.int .i64 (.ofNat 0)),(.int .i64 (.ofNat 0)),(.int .u64 (.ofNat 0)),(.int .i64 (.ofNat 0)),(.int .i64 (.ofNat 0)),(.int .i64 (.ofNat 0)),(.slice none 0 0),(.slice none 0 0)]) ⟨c,h,r,w⟩=some (.slice (some ⟨c,0,some 0⟩) 1 9,⟨c+1,V.upd h c (c9 R),r,c::w⟩):=by rw[a6J];rfl
theorem c7D:go (a9X 9 0 [] [] []) ⟨c,h,r,w⟩=some (.slice (some ⟨c,0,some 0⟩) 0 9,⟨c+1,V.upd h c (.cells [] 0 false),r,c::w⟩):=by rw[a6J];rfl
section
variable {γ:Type}(k:List Value->Option γ)
theorem e4D:ldS true (some (c3 a n q p e)) 0 0 3 k=k (V3 a n q p e):=rfl
theorem e6e:ldS true (some (c3 a n q p e)) 0 0 1 k=k [.slice a n q]:=rfl
theorem e5X:ldS true (some (c3 a n q p e)) 1 0 1 k=k [.int .i64 (.ofNat p)]:=rfl
theorem e3h:ldS true (some (c3 a n q p e)) 2 0 1 k=k [.int .i64 (.ofNat e)]:=rfl
end
theorem e5F:stS true (some (c3 a0 n0 q0 p0 e0)) 0 0 (V3 a n q p e) (λcs cur ro=>some (undef,(⟨c,V.upd h b (.cells cs cur ro),r,w⟩:V.S)))=some (undef,⟨c,V.upd h b (c3 a n q p e),r,w⟩):=rfl
end
abbrev gU:=om @e9F<|om @st3<|om @e3O<|om @e3E<|om @e7w<|om @e5A @c7D
abbrev Y1:=om @e4D<|om @e6e<|om @e5X<|om @e3h @e5F
abbrev EdF (c:Nat)(h:Trie VObj)(ps:Ps)(z:Nat)(v:Value)(c':Nat)(h':Trie VObj):Prop:=c<=c'/\(∀i,i<c->h'.get i=h.get i)/\((∃T u,ps=.ok T/\v=.agg ⟨V3 u.a u.n u.e 0 0⟩/\OZ c c' h' u T/\T.length<=z)\/∃p e,ps=.er p e/\e≠0/\v=.agg ⟨V3 none 0 0 p e⟩)
def FZ (Ns:Nat->List (List UInt8))(n k:Nat):Prop:=∀(c:Nat) (h:Trie VObj) (vs:Nat->Sl) (vl:Sl) (L:List (List UInt8)) (x:Nd) (xv:Sl) (m:Nat),RE c h vs vl Ns L->x.z<=n->NdL (λi=>i<c) h xv x.l->x.t.length<1800000->L.length*4+x.z<3900->Ev (o8 A9 (m+k) 114 [.agg ⟨[.int .i64 (.ofNat x.k),.int .i64 (.ofNat x.p),.string ⟨⟨x.t⟩⟩,.slice xv.a xv.n xv.e]⟩,.agg ⟨sR vs vl⟩]) c h (EdF c h (I8 (frF Ns) n L x) x.z)
structure OL (B:Nat→Prop) (c0:Nat) (h0:Trie VObj) (vs:Nat→Sl) (vl:Sl) (c:Nat) (h:Trie VObj) (u:Sl) (T:List AI):Prop where
 cc:c0+2≤c
 fr:∀ i,i<c0→h.get i=h0.get i
 g0:h.get c0=some (cS vs vl)
 g1:h.get (c0+1)=some (c3 none 0 0 0 0)
 o:OB B (c0+2) c h u T
theorem OL.appB {β}{f:Value->M β}{Q B c0 c c2 h0 h h2 vs vl u x T X r w}(H:OL B c0 h0 vs vl c h u T)(hB:∀i,B i->i<c)(hc:c<=c2)(hh:∀i,i<c->h2.get i=h.get i)(hx:OZ c c2 h2 x X)(hl:(T.length+X.length)*4<4294967296)(k:∀u' c3 h3 r' w',OL B c0 h0 vs vl c3 h3 u' (T++X)->c2<=c3->(∀i,i<c2->¬u.own i->h3.get i=h2.get i)->(∀i,i<c2->u'.own i->u.own i)->l9 (go (f (.slice u'.a u'.n u'.e)) ⟨c3,h3,r',w'⟩) Q):l9 (U3 (go (a3G a6j (.slice u.a u.n u.e) (.slice x.a x.n x.e)) ⟨c2,h2,r,w⟩) f) Q:=by
 have hcc:=H.cc;have hu:=λi=>H.o.lt (i:=i);refine l9.bindS (OB.app (c1:=c) (H.o.mono (xD _) hc λi _ hi=>hh i hi) (λi ho=>(hu i ho).2) (λi hi=>by have:=hB i hi;omega) (hx.to (xD _) (xD _) (λi k1 _ k=>by have:=hB i k;omega) λ_ _ _ _=>rfl) zy zy hl r w) λy s hq=>?_;obtain⟨c3,h3,r3,w3⟩:=s;obtain⟨u',rfl,a1,a2,a3,a4⟩:=hq;simp only at a1 a2 a3 a4;have no:∀i,i<c0+2->¬u.own i:=λi hi ho=>by have:=(hu i ho).1;omega
 exact k u' c3 h3 r3 w3 ⟨zy,λi hi=>(a2 i zy (no i zy)).trans ((hh i zy).trans (H.fr i hi)),(a2 _ zy (no _ zy)).trans ((hh _ zy).trans H.g0),(a2 _ zy (no _ zy)).trans ((hh _ zy).trans H.g1),a3⟩ a1 a2 a4
abbrev e7Q:=om (λp0 p1 p2 p3 p4 s=>P6 (e5o p0 p1 p2 p3 p4) s)<| @D9
abbrev b6R:=om (λp0 p1 p2 p3 p4 p5 p6 s=>P6 (c5s p0 p1 p2 p3 p4 p5 p6) s)<| @D9
theorem e4W {b c0 c1 F}(hb:b<c1)(hc:c0<c1)(hF:Ft c1 F):a0v [(0,1),(0,4),(1,4),(2,4),(3,4),(0,6),(1,6),(2,6),(3,6),(4,6),(5,6)] [([],[]),([],[]),([],[]),([b],[]),([c0],[]),F,([],[c1]),([c1],[c1])]=true:=by obtain⟨f1,f2,f3⟩:=hF c1 (xD _);have n1:Nat.beq c1 b=false:=V5 zy;have n2:Nat.beq c1 c0=false:=V5 zy;simp only[a0W,a1v,O5,O4,a2p,a0N,O9,a1Q,a3v,a4w,n1,n2,f1,f2,f3,a9o,a4G,a7i,a0K]
theorem d9N (n a b):o8 A9 (n+1) 151 [a,b]=c0P o9 NN (o8 A9 n) a b:=a0Z (q:=c0P) (N:=NN) zw n a b
section
variable {c0:Nat}{h0:Trie VObj}{vs:Nat->Sl}{vl:Sl}{Ns:Nat->List (List UInt8)}{L:List (List UInt8)}{lv:Sl}{l:List Nd}{n k:Nat}
theorem f0h (hF:FZ Ns n k)(E:RE c0 h0 vs vl Ns L)(hl:NdL (λi=>i<c0) h0 lv l)(hz:zs l<=n)(hL:L.length*4+zs l<3900)(m):∀(j e i) (c) (h) (u) (T) (xs) (r w),i+j=l.length->OL noB c0 h0 vs vl c h u T->T.length+zs (l.drop i)<=zs l->C8 xs 34=.int .i64 (.ofNat i)->C8 xs 31=.slice u.a u.n u.e->l9 (go (Q5 (d1j o9 NN (o8 A9 (m+k)) (.slice lv.a lv.n lv.e) (.pointer (some ⟨c0+1,0,some 0⟩)) (.pointer (some ⟨c0,0,some 0⟩))) (j+1+e) xs) ⟨c,h,r,w⟩) λy s=>(∃xs' u' T',y=(.exit 0,xs')/\a3r (I8 (frF Ns) n L) (l.drop i) T=.ok T'/\OL noB c0 h0 vs vl s.c s.h u' T'/\T'.length<=zs l/\C8 xs' 31=.slice u'.a u'.n u'.e)\/(∃xs' p q,y=(.ret,xs')/\a3r (I8 (frF Ns) n L) (l.drop i) T=.er p q/\q≠0/\c0+2<=s.c/\(∀i,i<c0->s.h.get i=h0.get i)/\s.h.get (c0+1)=some (c3 none 0 0 p q)):=by
 have hll:=hl.len;obtain⟨la,ln,le⟩:=lv;simp only at hll;obtain⟨hln,hll⟩:=hll;subst hln;intro j;induction j with
  |zero=>intro e i c h u T xs r w hi H hT h1 h2;have hii:i=l.length:=zy;subst hii;rw[wX 0 1 e,O8,pz];have e0:decide (Int.ofNat l.length<Int.ofNat l.length)=false:=wy (Int.lt_irrefl _);simp(disch:=try exact dz)only[b6R,h1,e0,↓gU,Y1,↓gR,gS,↓gP,gY,gT];rw[pz]at hT;exact l9.done (Or.inl ⟨_,u,T,rfl,rfl,H,by have:zs ([]:List Nd)=0:=rfl;omega,h2⟩)|succ j ih=>
   intro e i c h u T xs r w hi H hT h1 h2;rw[wX (j+1) 1 e,O8];have hlt:i<l.length:=zy;obtain⟨y,hy⟩:∃y,l[i]?=some y:=⟨_,wz hlt⟩;have hd:l.drop i=y::l.drop (i+1):=by rw[wz hlt]at hy;cases hy;exact vV hlt
   have e0:decide (Int.ofNat i<Int.ofNat l.length)=true:=ww (vv.2 hlt);obtain⟨b,o,g,cs,cur,ro,nl,hb,hg,hN,hX,e1,e2,e3,e4,e5,e6⟩:=hl.get hy;have hcc:=H.cc;have g0:=H.g0;have g1:=H.g1;have hgb:=(H.fr b hb).trans hg;have hinc:=G9 i zy;rw[hd];have hzd:=a4j hy;have eA:∀T,a3r (I8 (frF Ns) n L) (y::l.drop (i+1)) T=bcase (decide (y.k=0)) (match I8 (frF Ns) n L y with|.ok T1=>a3r (I8 (frF Ns) n L) (l.drop (i+1)) (T++T1)|.er p e=>.er p e) (.er y.p 4):=λT=>rfl;rw[eA];cases q1:decide (y.k=0)with|false=>simp(disch:=try exact dz)only[b6R,h1,e0,e1,e3,e4,hgb,g1,J5,q1,↓gU,Y1,↓gR,gS,↓gP,gY,gT];exact l9.done (Or.inr ⟨_,_,_,rfl,rfl,zq,zV,λi hi=>by have:=H.fr i hi;simp(disch:=omega)only[d9,this],zX⟩)|true=>simp(disch:=try exact dz)only[b6R,h1,e0,e1,e2,e3,e4,hgb,g0,g1,J5,q1,↓gU,Y1,↓gR,gS,↓gP,gY,gT];have E1:=E.mono (show c0<=c by omega) H.fr;have hN1:=J6 hN (show c0<=c by omega) H.fr;have hF1:=hF c h vs vl L y nl m E1 zy hN1 hX zy;refine Ev.footC hF1 λv c1 h1' r1 w1 F hq hft=>?_;obtain⟨k1,hh1,hq⟩:=hq;have f0:=(hh1 c0 zy).trans g0;have f1:=(hh1 (c0+1) zy).trans g1;have hfe:=e4W (show b<c1 by omega) (show c0<c1 by omega) hft;rcases hq with⟨T1,x,ef,rfl,ox,hT1⟩|⟨p,q,ef,hne,rfl⟩;rw[ef];simp(disch:=try exact dz)only[f0,f1,h1,h2,hinc,b6R,↓gU,Y1,↓gR,gS,↓gP,gY,gT];refine OL.appB H (λ_ k=>k.elim) (c2:=c1+1) zy (λi hi=>by simp(disch:=omega)only[d9,hh1]) (ox.mono (xD _) (wZ _) λi _ hi=>zU) zy λu' c3 h3 r3 w3 H3 _ _ _=>?_;simp(disch:=try exact dz)only[↓gP,gY,gT];refine ih e (i+1) c3 h3 u' (T++T1) _ _ _ zy H3 yZ rfl rfl;rw[ef];have q2:decide (q=0)=false:=wy hne;simp(disch:=try exact dz)only[f0,f1,h1,h2,hinc,q2,J5,b6R,↓gU,Y1,↓gR,gS,↓gP,gY,gT];exact l9.done (Or.inr ⟨_,_,_,rfl,rfl,hne,zV,λi hi=>by have:=H.fr i hi;simp(disch:=omega)only[d9,hh1,this],zX⟩)
theorem d9f (hF:FZ Ns n k)(E:RE c0 h0 vs vl Ns L)(hl:NdL (λi=>i<c0) h0 lv l)(hz:zs l<=n)(hL:L.length*4+zs l<3900)(m):Ev (o8 A9 (m+k+1) 151 [.slice lv.a lv.n lv.e,.agg ⟨sR vs vl⟩]) c0 h0 (EdF c0 h0 (a3r (I8 (frF Ns) n L) l []) (zs l)):=by intro r w;have hll:=hl.len.2;obtain⟨e,hNe⟩:∃e,NN=l.length+1+e:=⟨NN-(l.length+1),by have:1900000<=NN:=zq;omega⟩;have lp:=λxs r w=>f0h hF E hl hz hL m l.length e 0 (c0+1+1) (V.upd (V.upd h0 c0 (cS vs vl)) (c0+1) (c3 none 0 0 0 0)) ⟨none,0,0⟩ [] xs r w zy ⟨zy,λi hi=>zU,yY,zX,OB.nil _ _ _⟩ zn;rw[<-hNe,ug]at lp;rw[d9N];simp(disch:=try exact dz)only[e7Q,↓gU,Y1,↓gR,gS,↓gP,gY,gT];refine l9.bindJ (lp _ _ _ rfl rfl) λy xs' s hq=>?_;obtain⟨c2,h2,r2,w2⟩:=s;rcases hq with⟨xs1,u,T,f1,f2,H,f3,f4⟩|⟨xs1,p,q,f1,f2,f3,f4,f5,f6⟩;cases f1;have hcc:=H.cc;have g1:=H.g1;have gfr:=H.fr;have hu:=λi=>H.o.lt (i:=i);simp only at hcc g1 gfr hu;rw[f2];simp(disch:=try exact dz)only[J4,f4,g1,↓gU,Y1,↓gR,gS,↓gP,gY,gT];exact l9.done ⟨_,rfl,zV,λi hi=>by simp(disch:=omega)only[gfr,d9],Or.inl ⟨T,u,rfl,rfl,H.o.mono zy (xD _) λi hi _=>zU,f3⟩⟩;cases f1;simp only at f4 f5 f6;rw[f2];simp(disch:=try exact dz)only[J4,f6,↓gU,Y1,↓gR,gS,↓gP,gY,gT];exact l9.done ⟨_,rfl,zV,f5,Or.inr ⟨p,q,rfl,f3,rfl⟩⟩
end
def a7N (U:Nat->Prop)(h:Trie VObj)(v:Value)(l:List (List UInt8)):Prop:=∃a e,v=.slice a l.length e/\(l=[]\/∃b o g cs cur ro,a=some ⟨b,o,some g⟩/\e=1/\U b/\h.get b=some (.cells cs cur ro)/\A7 g (F8 cs o) l.length=some (ls_ l))
theorem a7N.mono {U U' h h' v l}(H:a7N U h v l)(hu:∀i,U i->U' i/\h'.get i=h.get i):a7N U' h' v l:=yM
theorem a7N.at {U c h v l}(H:a7N U h v l)(hU:∀i,U i->i<c):U8 c h v l:=(H.mono λi hi=>⟨hU i hi,rfl⟩:a7N (λi=>i<c) h v l)
theorem U8.su {c h v l}(H:U8 c h v l):a7N (λi=>i<c) h v l:=H
theorem U8.own {U c h u l}(H:U8 c h (sv u) l)(hU:∀i,u.own i->U i):a7N U h (sv u) l:=by
 obtain⟨a,e,h1,hor⟩:=H;refine⟨a,e,h1,?_⟩;have ea:u.a=a:=by have:Value.slice u.a u.n u.e=.slice a l.length e:=h1;simp_all
 rcases hor with h0|⟨b,o,g,cs,cur,ro,e1,e2,e3,e4,e5⟩;grind;exact Or.inr ⟨b,o,g,cs,cur,ro,e1,e2,hU b ⟨_,ea.trans e1,rfl⟩,e4,e5⟩
abbrev d7Z:=om (λp0 p1 p2 p3 s=>P6 (e5v p0 p1 p2 p3) s)<| @D9
theorem d8i (n a):o8 A9 (n+1) 115 [a]=c0S o9 NN (o8 A9 n) a:=a1j (q:=c0S) (N:=NN) zw n a
theorem d0R (n a b):o8 A9 (n+1) 70 [a,b]=b5s o9 NN (o8 A9 n) a b:=a0Z (q:=b5s) (N:=NN) zw n a b
section
variable (c b:Nat)(h:Trie VObj)(r w:List Nat)
theorem e6y:go (b5j [(.slice none 0 0),(.slice none 0 0),(.slice none 0 0),(.slice none 0 0),(.slice none 0 0),(.slice none 0 0),(.slice none 0 0),(.slice none 0 0),(.slice none 0 0),(.slice none 0 0)]) ⟨c,h,r,w⟩=some (.pointer (some ⟨c,0,some 0⟩),⟨c+1,V.upd h c (cS (λ_=>U5) U5),r,c::w⟩):=a5p c h r w _ rfl
theorem e5J (vs vl):go (a6o 10 (.pointer (some ⟨b,0,some 0⟩)) (.agg ⟨sR vs vl⟩)) ⟨c,h,r,w⟩=stS (Nat.blt b c) (h.get b) 0 0 (sR vs vl) λcs cur ro=>some (undef,⟨c,V.upd h b (.cells cs cur ro),b::r,b::w⟩):=a2g c h r w 10 b 0 0 _ rfl
theorem e3m (vs a n e):a8R [(0,9),(9,1)] [.agg ⟨s9 vs⟩,.slice a n e] [(.slice none 0 0),(.slice none 0 0),(.slice none 0 0),(.slice none 0 0),(.slice none 0 0),(.slice none 0 0),(.slice none 0 0),(.slice none 0 0),(.slice none 0 0),(.slice none 0 0)]=M.pure (.agg ⟨sR vs ⟨a,n,e⟩⟩):=rfl
theorem e0T (vs a n e):a5l [(0,9),(9,1)] [.agg ⟨s9 vs⟩,.slice a n e] [(.slice none 0 0),(.slice none 0 0),(.slice none 0 0),(.slice none 0 0),(.slice none 0 0),(.slice none 0 0),(.slice none 0 0),(.slice none 0 0),(.slice none 0 0),(.slice none 0 0)]=some (sR vs ⟨a,n,e⟩):=rfl
theorem b2B (vs vs' vl vl'):stS true (some (cS vs' vl')) 0 0 (sR vs vl) (λcs cur ro=>some (undef,(⟨c,V.upd h b (.cells cs cur ro),r,w⟩:V.S)))=some (undef,⟨c,V.upd h b (cS vs vl),r,w⟩):=rfl
end
abbrev gW:=om @e6y<|om @e5J @e3m
section
variable {U:Nat->Prop}{c:Nat}{h:Trie VObj}{vs:Nat->Sl}{vl:Sl}{L:List (List UInt8)}
theorem t70 (H:U8 c h (sv vl) L)(hl:L.length<1000)(T m):Ev (o8 A9 (m+1) 70 [.agg ⟨sR vs vl⟩,.string ⟨⟨T⟩⟩]) c h λv c' h'=>c<=c'/\(∀i,i<c->h'.get i=h.get i)/\∃u,v=.agg ⟨sR vs u⟩/\a7N (λi=>c<=i/\i<c') h' (sv u) (L++[T]):=by intro r w;rw[d0R];refine(n70 H hl T (o8 A9 m) r w).mono λx s hq=>?_;obtain⟨h1,h2,_,u,rfl,h3,h4⟩:=hq;exact⟨_,rfl,h1,h2,u,rfl,h3.own h4⟩
theorem e9u (H:a7N U h (sv vl) L)(hU:∀i,U i->i<c)(hl:L.length<1000)(m):Ev (o8 A9 (m+1) 115 [.agg ⟨sR vs vl⟩]) c h λv c' h'=>c<=c'/\(∀i,i<c->h'.get i=h.get i)/\∃u,v=.agg ⟨sR vs u⟩/\a7N U h' (sv u) L.dropLast:=by
 intro r w;obtain⟨a,e,hv,hor⟩:=H;rw[d8i];cases L with
  |nil=>simp(disch:=try exact dz)only[d7Z,hv,J5,vM,↓gW,b2B,↓gR,gS,↓gP,gY,gT];exact l9.done ⟨_,rfl,zu,λi hi=>zl,vl,rfl,⟨a,e,hv,Or.inl rfl⟩⟩|cons y t=>
   obtain⟨b,o,g,cs,cur,ro,rfl,rfl,e3,e4,e5⟩:=hor.resolve_left zn;have hb:=hU b e3;have hlt:t.length+1<1000:=hl;have hdec:=a1u t.length zy;have e0:decide (t.length+1=0)=false:=wy zy;have hsl:∀k,a4d 1 (.slice (some ⟨b,o,some g⟩) (t.length+1) 1) none (some (.int k (.ofNat t.length)))=M.pure (.slice (some ⟨b,o,some g⟩) t.length 1):=λk=>a9M 1 b o g (t.length+1) t.length k (wZ _) zq;simp(disch:=try exact dz)only[d7Z,hv,J5,e0,hdec,hsl,wU,e0T,↓gW,b2B,↓gR,gS,↓gP,gY,gT];have hd:(y::t).dropLast.length=t.length:=by rw[rP];rfl
   refine l9.done ⟨_,rfl,zu,λi hi=>zl,⟨some ⟨b,o,some g⟩,t.length,1⟩,rfl,⟨some ⟨b,o,some g⟩,1,?_,Or.inr ⟨b,o,g,cs,cur,ro,rfl,rfl,e3,zl,?_⟩⟩⟩;rw[hd];rfl;have h1:=a7d _ _ _ t.length e5 (wZ _);rw[hd,h1];grind[ls_,List.dropLast_eq_take]
end
theorem b4F (op):decide (P9 (.ofNat op)=1)=blkB op:=by
 have hall:M0 (λr:a5j=>!(Nat.beq r.2.2 1)||blkB r.1) X4=true:=zw;have i2:P9 (.ofNat 2)=1:=zw;have i3:P9 (.ofNat 3)=1:=zw;have i4:P9 (.ofNat 4)=1:=zw;rw[tJ,uz];constructor;intro h1;unfold P9 at h1;cases e:a0a (.ofNat op) X4 with|none=>rw[e]at h1;cases h1|some r=>rw[e]at h1;obtain⟨m1,m2⟩:=b4N _ _ _ e;have:=(R5 _ _).1 hall r m1;have h1':r.2.2=1:=h1;rw[h1']at this;have m2:op=r.1:=Int.ofNat.inj m2;rw[m2];exact this
 intro h;unfold blkB at h;grind
def elK (b:Bk):Bool:=decide (b.op=4)&& !b.el
def a4y (b:Bk):List Value:=[.int .i64 (.ofNat b.p),.bool (elK b)]
theorem a8W:∀bs:List Bk,(bs.flatMap a4y).length=bs.length*2:=by intro bs;induction bs with|nil=>rfl|cons R Rs ih=>rw[vU,wW,ih,wU];show 2+_=_;omega
theorem a9z (b0 bs):((b0::bs).reverse.flatMap a4y)=bs.reverse.flatMap a4y++a4y b0:=zD
theorem b7M:(a8b tab 180).size=2:=zw
theorem b8h:Nat.blt (a8b tab 180).bytes 4096=true:=zw
theorem c7Z {c h bl b0 bs}(H:R7 2 c h bl ((b0::bs).reverse.flatMap a4y)):∃ab g cs,bl=⟨some ⟨ab,0,some g⟩,bs.length+1,2⟩/\ab<c/\h.get ab=some (.cells cs g false)/\A7 g (F8 cs (bs.length*2)) 1=some [.int .i64 (.ofNat b0.p)]/\A7 g (F8 cs (bs.length*2+1)) 1=some [.bool (elK b0)]/\A7 g cs (bs.length*2)=some (bs.reverse.flatMap a4y)/\bs.length*2<=F9 cs/\(∀k,a7l 2 (.slice (some ⟨ab,0,some g⟩) (bs.length+1) 2) (.int k (.ofNat bs.length))=M.pure (.pointer (some ⟨ab,bs.length*2,some g⟩)))/\∀k,a4d 2 (.slice (some ⟨ab,0,some g⟩) (bs.length+1) 2) none (some (.int k (.ofNat bs.length)))=M.pure (.slice (some ⟨ab,0,some g⟩) bs.length 2):=by
 have hl:(bs.reverse.flatMap a4y).length=bs.length*2:=by rw[a8W,vo]
 have hl2:((b0::bs).reverse.flatMap a4y).length=bs.length*2+2:=by rw[a8W,vo,wU];omega
 obtain⟨h1,hor⟩:=H;rw[hl2]at h1;obtain⟨ba,bn,be⟩:=bl;simp only at h1;have hbn:bn=bs.length+1:=zy;subst hbn;rcases hor with h0|⟨ab,g,cs,q2,q3,q4,q5,q6,q7⟩;cases h0;simp only at q2 q3;subst q2 q3;rw[hl2]at q6;have one:∀(j:Nat) (y:Value),(a4y b0)[j]?=some y->A7 g (F8 cs (bs.length*2+j)) 1=some [y]:=by intro j y hy;refine a1e q7 _ y ?_;rw[a9z,wH zy,hl,um];exact hy
 have hp:=a7d _ _ _ (bs.length*2) q7 (by rw[hl2];omega);rw[a9z,qm zy,tF zy]at hp;refine⟨ab,g,cs,rfl,q4,q5,one 0 _ rfl,one 1 _ rfl,hp,zy,λk=>?_,λk=>a9M 2 ab 0 g (bs.length+1) bs.length k (wZ _) zq⟩;rw[a1d 2 bs.length (bs.length+1) k ab 0 (some g) (wu _) zq,wM]
structure RZ (c0:Nat) (h0:Trie VObj) (vs:Nat→Sl) (l:List Nd) (c:Nat) (h:Trie VObj) (vl u bl:Sl) (T:List AI) (bs:List Bk) (L:List (List UInt8)) (i:Nat):Prop where
 ol:OL bl.own c0 h0 vs vl c h u T
 lb:a7N (fun j=>j<c∧j≠c0∧¬ u.own j∧¬ bl.own j) h (sv vl) L
 gb:R7 2 c h bl (bs.reverse.flatMap a4y)
 bo:∀ j,bl.own j→c0+2≤j
 z1:T.length+zs (l.drop i)≤zs l
 z2:L.length * 4+zs (l.drop i)<3900
 z3:bs.length+zs (l.drop i)≤zs l
section
variable {c0:Nat}{h0:Trie VObj}{vs:Nat->Sl}{l:List Nd}{c:Nat}{h:Trie VObj}{vl u bl:Sl}{T:List AI}{bs:List Bk}{L:List (List UInt8)}{i:Nat}
theorem RZ.bln (H:RZ c0 h0 vs l c h vl u bl T bs L i):bl.n=bs.length:=by have:=H.gb.1;rw[a8W,vo]at this;omega
theorem RZ.re {Ns vl0 L0}(E:RE c0 h0 vs vl0 Ns L0)(H:RZ c0 h0 vs l c h vl u bl T bs L i):RE c h vs vl Ns L:=⟨λj hj=>⟨(E.n j hj).1.mono (by have:=H.ol.cc;omega) H.ol.fr,(E.n j hj).2⟩,H.lb.at λi hi=>hi.1,by have:=H.z2;omega⟩
theorem RZ.chg (H:RZ c0 h0 vs l c h vl u bl T bs L i){c' h' vl' bl' bs' L'}(hc:c<=c')(fr:∀i,i<c->i≠c0->¬bl.own i->h'.get i=h.get i)(g0:h'.get c0=some (cS vs vl'))(lb:a7N (λj=>j<c'/\j≠c0/\¬u.own j/\¬bl'.own j) h' (sv vl') L')(gb:R7 2 c' h' bl' (bs'.reverse.flatMap a4y))(bo:∀j,bl'.own j->j<c->bl.own j){i'}(z1:T.length+zs (l.drop i')<=zs l)(z2:L'.length*4+zs (l.drop i')<3900)(z3:bs'.length+zs (l.drop i')<=zs l):RZ c0 h0 vs l c' h' vl' u bl' T bs' L' i':=by have hcc:=H.ol.cc;have hbo:=H.bo;refine⟨⟨zy,λi hi=>(fr i zy zy λk=>by have:=hbo i k;omega).trans (H.ol.fr i hi),g0,(fr _ zy zy λk=>by have:=hbo _ k;omega).trans H.ol.g1,H.ol.o.to (xD _) hc (λi _ k k2=>bo i k2 k) λi k1 k2 k3=>fr i k2 zy k3⟩,lb,gb,λj hj=>?_,z1,z2,z3⟩;grind
theorem RZ.to (H:RZ c0 h0 vs l c h vl u bl T bs L i){c' h'}(hc:c<=c')(hh:∀i,i<c->h'.get i=h.get i):RZ c0 h0 vs l c' h' vl u bl T bs L i:=by have hcc:=H.ol.cc;exact H.chg hc (λi k _ _=>hh i k) ((hh _ zy).trans H.ol.g0) (H.lb.mono λi k=>⟨⟨wY k.1 hc,k.2⟩,hh i k.1⟩) (H.gb.mono hc λb k _=>hh b k) (λj k _=>k) H.z1 H.z2 H.z3
theorem RZ.app {β}{f:Value->M β}{Q c2 h2 x X r w}(H:RZ c0 h0 vs l c h vl u bl T bs L i)(hc:c<=c2)(hh:∀i,i<c->h2.get i=h.get i)(hx:OZ c c2 h2 x X){i'}(hz:X.length+zs (l.drop i')<=zs (l.drop i))(hl:zs l<4000)(k:∀u' c3 h3 r' w',RZ c0 h0 vs l c3 h3 vl u' bl (T++X) bs L i'->c2<=c3->(∀i,i<c2->¬u.own i->h3.get i=h2.get i)->l9 (go (f (.slice u'.a u'.n u'.e)) ⟨c3,h3,r',w'⟩) Q):l9 (U3 (go (a3G a6j (.slice u.a u.n u.e) (.slice x.a x.n x.e)) ⟨c2,h2,r,w⟩) f) Q:=by have z1:=H.z1;have z2:=H.z2;have z3:=H.z3;refine H.ol.appB (λi hi=>H.gb.own_lt hi) hc hh hx zy λu' c3 h3 r' w' H3 k1 k2 k3=>k u' c3 h3 r' w' ⟨H3,H.lb.mono λj hj=>⟨⟨zy,hj.2.1,λho=>hj.2.2.1 (k3 j zy ho),hj.2.2.2⟩,(k2 j zy hj.2.2.1).trans (hh j hj.1)⟩,H.gb.mono zy λb kb ko=>(k2 b zy λho=>H.ol.o.nb ho ko).trans (hh b kb),H.bo,yZ,zy,zy⟩ k1 k2
end
abbrev G78:=om (λp0 p1 p2 p3 p4 s=>P6 (e9i p0 p1 p2 p3 p4) s)<| @D9
abbrev b1H:=om (λp0 p1 p2 p3 p4 p5 p6 s=>P6 (c4J p0 p1 p2 p3 p4 p5 p6) s)<| @D9
theorem e6P (n a b):o8 A9 (n+1) 78 [a,b]=c8a o9 NN (o8 A9 n) a b:=a0Z (q:=c8a) (N:=NN) zw n a b
section
variable {c:Nat}{h:Trie VObj}{r w:List Nat}(t:List UInt8)(p k:Nat)(a:Option Addr)(n e:Nat)(v:List Value)
def c4 (k p:Nat)(t:List UInt8)(a:Option Addr)(n e:Nat):VObj:=.cells [(.int .i64 (.ofNat k),0),(.int .i64 (.ofNat p),0),(.string ⟨⟨t⟩⟩,0),(.slice a n e,0)] 0 false
theorem b3v (c h r w):go (b5j [(.int .i64 (.ofNat 0)),(.int .i64 (.ofNat 0)),(.string ⟨⟨[]⟩⟩),(.slice none 0 0)]) ⟨c,h,r,w⟩=some (.pointer (some ⟨c,0,some 0⟩),⟨c+1,V.upd h c (c4 0 0 [] none 0 0),r,c::w⟩):=a5p c h r w _ rfl
section
variable {γ:Type}(q:List Value->Option γ)
theorem e5T:ldS true (some (c4 k p t a n e)) 0 0 4 q=q [.int .i64 (.ofNat k),.int .i64 (.ofNat p),.string ⟨⟨t⟩⟩,.slice a n e]:=rfl
theorem e5s:ldS true (some (c4 k p t a n e)) 0 0 1 q=q [.int .i64 (.ofNat k)]:=rfl
theorem e4a:ldS true (some (c4 k p t a n e)) 1 0 1 q=q [.int .i64 (.ofNat p)]:=rfl
theorem e5e:ldS true (some (c4 k p t a n e)) 2 0 1 q=q [.string ⟨⟨t⟩⟩]:=rfl
theorem e3l:ldS true (some (c4 k p t a n e)) 3 0 1 q=q [.slice a n e]:=rfl
end
theorem e4s (c h r w b k0 p0 t0 a0 n0 e0):stS true (some (c4 k0 p0 t0 a0 n0 e0)) 0 0 [.int .i64 (.ofNat k),.int .i64 (.ofNat p),.string ⟨⟨t⟩⟩,.slice a n e] (λcs cur ro=>some (undef,(⟨c,V.upd h b (.cells cs cur ro),r,w⟩:V.S)))=some (undef,⟨c,V.upd h b (c4 k p t a n e),r,w⟩):=rfl
end
abbrev gD4:=om @e5T<|om @e5s<|om @e4a<|om @e5e<|om @e3l @e4s
def b1J (F:Nat->List (Value×Value))(n c0:Nat)(h0:Trie VObj)(vs:Nat->Sl)(l:List Nd)(T:List AI)(bs:List Bk)(L:List (List UInt8))(i:Nat)(y:Xc×List Value)(s:V.S):Prop:=(∃xs' vl' u' bl' T' bs' L' i',y=(.normal,xs')/\i<i'/\C8 xs' 138=.int .i64 (.ofNat i')/\C8 xs' 135=.slice u'.a u'.n u'.e/\C8 xs' 125=.slice bl'.a bl'.n bl'.e/\i'<=l.length/\RZ c0 h0 vs l s.c s.h vl' u' bl' T' bs' L' i'/\∀K,a2b (I8 F n) F l (K+1) i bs L T=a2b (I8 F n) F l K i' bs' L' T')\/(∃xs' p q,y=(.ret,xs')/\q≠0/\c0+2<=s.c/\(∀i,i<c0->s.h.get i=h0.get i)/\s.h.get (c0+1)=some (c3 none 0 0 p q)/\∀K,a2b (I8 F n) F l (K+1) i bs L T=.er p q)
section
variable {c0:Nat}{h0:Trie VObj}{vs:Nat->Sl}{vl0:Sl}{Ns:Nat->List (List UInt8)}{L0:List (List UInt8)}{lv:Sl}{l:List Nd}{n k c:Nat}{h:Trie VObj}{vl u bl:Sl}{T:List AI}{bs:List Bk}{L:List (List UInt8)}{i:Nat}{x:Nd}
theorem a4n (F:Nat->List (Value×Value))(hi:l[i]?=some x)(K:Nat):a2b (I8 F n) F l (K+1) i bs L T=bcase (decide (x.k=0)) (match I8 F n L x with|.ok T1=>a2b (I8 F n) F l K (i+1) bs L (T++T1)|.er p e=>.er p e) (bcase (decide (x.k=2)) (bcase (a3f x.t||isEn x.t) (match bs with|[]=>.er x.p 16|b::bs'=>bcase (a3f x.t) (bcase (decide (b.op=4)&& !b.el) (a2b (I8 F n) F l K (i+1) (⟨b.p,b.op,true⟩::bs') L (T++[aiE 5])) (.er x.p 16)) (a2b (I8 F n) F l K (i+1) bs' L.dropLast (T++[aiE 11]))) (match a1N F L l i x with|.er p e=>.er p e|.ok X nm nx=>bcase (blkB X.op) (a2b (I8 F n) F l K nx (⟨x.p,X.op,false⟩::bs) (L++[nm]) (T++[X])) (a2b (I8 F n) F l K nx bs L (T++[X])))) (.er x.p 4)):=by show(match l[i]? with|none=>_|some n=>_)=_;rw[hi];rfl
theorem e3c (hF:FZ Ns n k)(E:RE c0 h0 vs vl0 Ns L0)(hl:NdL (λi=>i<c0) h0 lv l)(hz:zs l<=n)(hz4:zs l<4000)(H:RZ c0 h0 vs l c h vl u bl T bs L i)(hi:l[i]?=some x)(hk:x.k=0)(xs)(h1:C8 xs 138=.int .i64 (.ofNat i))(h2:C8 xs 135=.slice u.a u.n u.e)(h3:C8 xs 125=.slice bl.a bl.n bl.e)(m r w):l9 (go (a5u o9 NN (o8 A9 (m+(k+10))) (.slice lv.a lv.n lv.e) (.pointer (some ⟨c0,0,some 0⟩)) (.pointer (some ⟨c0+1,0,some 0⟩)) xs) ⟨c,h,r,w⟩) (b1J (frF Ns) n c0 h0 vs l T bs L i):=by have hll:=hl.len;obtain⟨hln,hll⟩:=hll;have hlt:=(xC.1 hi).1;have e0:decide (Int.ofNat i<Int.ofNat lv.n)=true:=ww (vv.2 zy);obtain⟨b,o,g,cs,cur,ro,nl,hb,hg,hN,hX,e1,e2,e3,e4,e5,e6⟩:=hl.get hi;have hcc:=H.ol.cc;have g0:=H.ol.g0;have g1:=H.ol.g1;have hgb:=(H.ol.fr b hb).trans hg;have hinc:=G9 i zy;have hzd:=a4j hi;have hzd2:=a8i l i;have z2:=H.z2;have e10:m+(k+10)=m+10+k:=zy;rw[hk]at e2;simp(disch:=try exact dz)only[b1H,h1,h3,e0,e1,e2,hgb,g0,g1,J5,↓b3v,gD4,↓gU,Y1,↓gR,gS,↓gP,gY,gT];rw[e10];have hs1:∀j,j<c->(V.upd (V.upd h c (c4 0 0 [] none 0 0)) c (c4 0 x.p x.t nl.a nl.n nl.e)).get j=h.get j:=λj hj=>zl;have H1:=H.to (wZ c) hs1;have hF1:=hF _ _ vs vl L x nl (m+10) (H1.re E) zy (J6 hN zy H1.ol.fr) hX zy;rw[hk]at hF1;have g0':=H1.ol.g0;have g1':=H1.ol.g1;refine Ev.bindC hF1 λv c1 h1' r1 w1 hq=>?_;obtain⟨k1,hh1,⟨T1,y,ef,rfl,oy,hT1⟩|⟨p,q,ef,hne,rfl⟩⟩:=hq;have f1:=(hh1 (c0+1) zy).trans g1';simp(disch:=try exact dz)only[f1,h1,h2,h3,hinc,↓gU,Y1,↓gR,gS,↓gP,gY,gT];refine H1.app (c2:=c1+1) (i':=i+1) zy (λi hi=>zl) (oy.mono (xD _) (wZ _) λi _ hi=>zl) zy hz4 λu' c3 h3 r3 w3 H3 _ _=>?_;simp(disch:=try exact dz)only[↓gP,gY,gT];refine l9.done (Or.inl ⟨_,vl,u',bl,T++T1,bs,L,i+1,rfl,wu i,rfl,rfl,rfl,hlt,H3,λK=>?_⟩);rw[a4n _ hi,ww hk,C9,ef];have f1:=(hh1 (c0+1) zy).trans g1';have q2:decide (q=0)=false:=wy hne;simp(disch:=try exact dz)only[f1,h1,h2,h3,hinc,q2,J5,↓gU,Y1,↓gR,gS,↓gP,gY,gT];refine l9.done (Or.inr ⟨_,p,q,rfl,hne,zu,λi hi=>by have:=H1.ol.fr i hi;grind[d9],zX,λK=>?_⟩);rw[a4n _ hi,ww hk,C9,ef]
theorem e5N (E:RE c0 h0 vs vl0 Ns L0)(hl:NdL (λi=>i<c0) h0 lv l)(H:RZ c0 h0 vs l c h vl u bl T bs L i)(hi:l[i]?=some x)(hk:decide (x.k=0)=false)(hk2:decide (x.k=2)=false)(xs)(h1:C8 xs 138=.int .i64 (.ofNat i))(h2:C8 xs 135=.slice u.a u.n u.e)(h3:C8 xs 125=.slice bl.a bl.n bl.e)(call r w):l9 (go (a5u o9 NN call (.slice lv.a lv.n lv.e) (.pointer (some ⟨c0,0,some 0⟩)) (.pointer (some ⟨c0+1,0,some 0⟩)) xs) ⟨c,h,r,w⟩) (b1J (frF Ns) n c0 h0 vs l T bs L i):=by have hll:=hl.len;obtain⟨hln,hll⟩:=hll;have hlt:=(xC.1 hi).1;have e0:decide (Int.ofNat i<Int.ofNat lv.n)=true:=ww (vv.2 zy);obtain⟨b,o,g,cs,cur,ro,nl,hb,hg,hN,hX,e1,e2,e3,e4,e5,e6⟩:=hl.get hi;have hcc:=H.ol.cc;have g0:=H.ol.g0;have g1:=H.ol.g1;have hgb:=(H.ol.fr b hb).trans hg;simp(disch:=try exact dz)only[b1H,h1,h2,h3,e0,e1,e2,hgb,g0,g1,J5,hk,hk2,↓b3v,gD4,↓gU,Y1,↓gR,gS,↓gP,gY,gT];refine l9.done (Or.inr ⟨_,x.p,4,rfl,zq,zu,λi hi=>by have:=H.ol.fr i hi;grind[d9],zX,λK=>?_⟩);rw[a4n _ hi,hk,F7,hk2,F7]
end
section
variable {c0:Nat}{h0:Trie VObj}{vs:Nat->Sl}{vl0:Sl}{Ns:Nat->List (List UInt8)}{L0:List (List UInt8)}{lv:Sl}{l:List Nd}{n k c:Nat}{h:Trie VObj}{vl u bl:Sl}{T:List AI}{bs:List Bk}{L:List (List UInt8)}{i:Nat}{x:Nd}
theorem d4M:N8 .i64 (Int.ofNat 0-Int.ofNat 1)=Int.negSucc 0:=zw
theorem c2p:decide (Int.negSucc 0<Int.ofNat 0)=true:=rfl
theorem d8K {t}(h:beqBytes t [101,110,100]=true):beqBytes t [101,108,115,101]=false:=by rw[V.a2N,rJ]at h;subst h;rfl
theorem e0m (E:RE c0 h0 vs vl0 Ns L0)(hl:NdL (λi=>i<c0) h0 lv l)(H:RZ c0 h0 vs l c h vl u bl T [] L i)(hi:l[i]?=some x)(hk2:x.k=2)(hen:beqBytes x.t [101,110,100]=true)(xs)(h1:C8 xs 138=.int .i64 (.ofNat i))(h2:C8 xs 135=.slice u.a u.n u.e)(h3:C8 xs 125=.slice bl.a bl.n bl.e)(call r w):l9 (go (a5u o9 NN call (.slice lv.a lv.n lv.e) (.pointer (some ⟨c0,0,some 0⟩)) (.pointer (some ⟨c0+1,0,some 0⟩)) xs) ⟨c,h,r,w⟩) (b1J (frF Ns) n c0 h0 vs l T [] L i):=by have hll:=hl.len;obtain⟨hln,hll⟩:=hll;have hlt:=(xC.1 hi).1;have e0:decide (Int.ofNat i<Int.ofNat lv.n)=true:=ww (vv.2 zy);obtain⟨b,o,g,cs,cur,ro,nl,hb,hg,hN,hX,e1,e2,e3,e4,e5,e6⟩:=hl.get hi;have hcc:=H.ol.cc;have g0:=H.ol.g0;have g1:=H.ol.g1;have hgb:=(H.ol.fr b hb).trans hg;have hbn:=H.bln;rw[hbn]at h3;rw[hk2]at e2;simp(disch:=try exact dz)only[b1H,h1,h2,h3,e0,e1,e2,hgb,g0,g1,J5,hen,vM,d4M,c2p,↓b3v,gD4,↓gU,Y1,↓gR,gS,↓gP,gY,gT,Nat.reduceEqDiff];refine l9.done (Or.inr ⟨_,x.p,16,rfl,zq,zu,λi hi=>by have:=H.ol.fr i hi;grind[d9],zX,λK=>?_⟩);have q1:isEn x.t=true:=hen;rw[a4n _ hi,hk2];simp_all[C9,F7]
theorem e4Z {b0}(E:RE c0 h0 vs vl0 Ns L0)(hl:NdL (λi=>i<c0) h0 lv l)(hz4:zs l<4000)(H:RZ c0 h0 vs l c h vl u bl T (b0::bs) L i)(hi:l[i]?=some x)(hk2:x.k=2)(hen:beqBytes x.t [101,110,100]=true)(xs)(h1:C8 xs 138=.int .i64 (.ofNat i))(h2:C8 xs 135=.slice u.a u.n u.e)(h3:C8 xs 125=.slice bl.a bl.n bl.e)(m r w):l9 (go (a5u o9 NN (o8 A9 (m+1)) (.slice lv.a lv.n lv.e) (.pointer (some ⟨c0,0,some 0⟩)) (.pointer (some ⟨c0+1,0,some 0⟩)) xs) ⟨c,h,r,w⟩) (b1J (frF Ns) n c0 h0 vs l T (b0::bs) L i):=by
 have hll:=hl.len;obtain⟨hln,hll⟩:=hll;have hlt:=(xC.1 hi).1;have e0:decide (Int.ofNat i<Int.ofNat lv.n)=true:=ww (vv.2 zy);obtain⟨b,o,g,cs,cur,ro,nl,hb,hg,hN,hX,e1,e2,e3,e4,e5,e6⟩:=hl.get hi;have hcc:=H.ol.cc;have g0:=H.ol.g0;have g1:=H.ol.g1;have hgb:=(H.ol.fr b hb).trans hg;have hinc:=G9 i zy;have hzd:=a4j hi;have hzx:=a3X x;have hzd2:=a8i l i;have z1:=H.z1;have z2:=H.z2;have z3:=H.z3;rw[wU]at z3;have hen1:=d8K hen;obtain⟨ab,g2,cs2,rfl,b1,b2,b3,b4,b5,b6,b7,b8⟩:=c7Z H.gb;have hdec:=a1u bs.length zy;have nneg:decide (Int.ofNat bs.length<Int.ofNat 0)=false:=wy (λh=>zN);rw[hk2]at e2;have hs1:∀j,j<c->(V.upd (V.upd h c (c4 0 0 [] none 0 0)) c (c4 2 x.p x.t nl.a nl.n nl.e)).get j=h.get j:=λj hj=>zl;have H1:=H.to (wZ c) hs1;have g0':=H1.ol.g0;simp(disch:=try exact dz)only[b1H,h1,h2,h3,e0,e1,e2,hgb,g0,g1,g0',J5,hen,hdec,nneg,b8,↓b3v,gD4,↓gU,Y1,↓gR,gS,↓gP,gY,gT,Nat.reduceEqDiff];refine Ev.bindC (e9u H1.lb (λj hj=>hj.1) zy m) λv c1 h1' r1 w1 hq=>?_;obtain⟨k1,hh1,vl',rfl,hsu⟩:=hq;have f0:=(hh1 c0 zy).trans g0';simp(disch:=try exact dz)only[f0,h1,h2,h3,hinc,↓gW,b2B,↓gU,Y1,↓gR,gS,↓gP,gY,gT];have H2:=H1.to k1 hh1;have own:∀n j,Sl.own ⟨some ⟨ab,0,some g2⟩,n,2⟩ j->ab=j:=λn j k1=>by obtain⟨_,q,e⟩:=k1;grind
 have owk:∀n j,ab=j->Sl.own ⟨some ⟨ab,0,some g2⟩,n,2⟩ j:=λn j k1=>⟨_,rfl,k1⟩;have hab:c0+2<=ab:=H.bo ab (owk _ _ rfl);have hgab:h1'.get ab=some (.cells cs2 g2 false):=(hh1 ab zy).trans ((hs1 ab b1).trans b2);have hfl:(bs.reverse.flatMap a4y).length=bs.length*2:=by rw[a8W,vo]
 have H3:RZ c0 h0 vs l c1 (V.upd h1' c0 (cS vs vl')) vl' u ⟨some ⟨ab,0,some g2⟩,bs.length,2⟩ T bs L.dropLast i:=by refine H2.chg (xD _) (λi _ k _=>d9 k) (o7 _ _ _) (hsu.mono λj hj=>⟨⟨zy,hj.2.1,hj.2.2.1,λho=>hj.2.2.2 (owk _ _ (own _ _ ho))⟩,d9 hj.2.1⟩) ⟨hfl,Or.inr ⟨ab,g2,cs2,rfl,rfl,zy,zl,by rw[hfl];exact b6,by rw[hfl];exact b5⟩⟩ (λj ho _=>owk _ _ (own _ _ ho)) z1 xM zy
 refine H3.app (c2:=c1+1) (X:=[aiE 11]) (x:=⟨some ⟨c1,0,some 0⟩,1,9⟩) (i':=i+1) zy (λi hi=>d9 zy) (OB.one (riE _ _ _) (xD _) (wu _) (λ_ _ k=>k) (o7 _ _ _)) zu hz4 λu' c3 h3 r3 w3 H4 _ _=>?_;simp(disch:=try exact dz)only[↓gP,gY,gT];refine l9.done (Or.inl ⟨_,vl',u',⟨some ⟨ab,0,some g2⟩,bs.length,2⟩,T++[aiE 11],bs,L.dropLast,i+1,rfl,wu i,rfl,rfl,rfl,hlt,H4,λK=>?_⟩);have q1:isEn x.t=true:=hen;have q2:a3f x.t=false:=hen1;rw[a4n _ hi,hk2];simp_all[C9,F7]
theorem b7T {t}(h:beqBytes t [101,108,115,101]=true):beqBytes t [101,110,100]=false:=by rw[V.a2N,rJ]at h;subst h;rfl
theorem d7W (E:RE c0 h0 vs vl0 Ns L0)(hl:NdL (λi=>i<c0) h0 lv l)(H:RZ c0 h0 vs l c h vl u bl T [] L i)(hi:l[i]?=some x)(hk2:x.k=2)(hel:beqBytes x.t [101,108,115,101]=true)(xs)(h1:C8 xs 138=.int .i64 (.ofNat i))(h2:C8 xs 135=.slice u.a u.n u.e)(h3:C8 xs 125=.slice bl.a bl.n bl.e)(call r w):l9 (go (a5u o9 NN call (.slice lv.a lv.n lv.e) (.pointer (some ⟨c0,0,some 0⟩)) (.pointer (some ⟨c0+1,0,some 0⟩)) xs) ⟨c,h,r,w⟩) (b1J (frF Ns) n c0 h0 vs l T [] L i):=by have hll:=hl.len;obtain⟨hln,hll⟩:=hll;have hlt:=(xC.1 hi).1;have e0:decide (Int.ofNat i<Int.ofNat lv.n)=true:=ww (vv.2 zy);obtain⟨b,o,g,cs,cur,ro,nl,hb,hg,hN,hX,e1,e2,e3,e4,e5,e6⟩:=hl.get hi;have hcc:=H.ol.cc;have g0:=H.ol.g0;have g1:=H.ol.g1;have hgb:=(H.ol.fr b hb).trans hg;have hbn:=H.bln;have hnn:=b7T hel;rw[hbn]at h3;rw[hk2]at e2;simp(disch:=try exact dz)only[b1H,h1,h2,h3,e0,e1,e2,hgb,g0,g1,J5,hel,hnn,vM,d4M,c2p,↓b3v,gD4,↓gU,Y1,↓gR,gS,↓gP,gY,gT,Nat.reduceEqDiff];refine l9.done (Or.inr ⟨_,x.p,16,rfl,zq,zV,λi hi=>by have:=H.ol.fr i hi;simp(disch:=omega)only[d9,this],zX,λK=>?_⟩);have q1:a3f x.t=true:=hel;rw[a4n _ hi,hk2];simp only[Nat.reduceEqDiff,vD,uh,C9,F7,q1,vP]
theorem e1d {b0}(E:RE c0 h0 vs vl0 Ns L0)(hl:NdL (λi=>i<c0) h0 lv l)(H:RZ c0 h0 vs l c h vl u bl T (b0::bs) L i)(hi:l[i]?=some x)(hk2:x.k=2)(hel:beqBytes x.t [101,108,115,101]=true)(hK:elK b0=false)(xs)(h1:C8 xs 138=.int .i64 (.ofNat i))(h2:C8 xs 135=.slice u.a u.n u.e)(h3:C8 xs 125=.slice bl.a bl.n bl.e)(hz4:zs l<4000)(call r w):l9 (go (a5u o9 NN call (.slice lv.a lv.n lv.e) (.pointer (some ⟨c0,0,some 0⟩)) (.pointer (some ⟨c0+1,0,some 0⟩)) xs) ⟨c,h,r,w⟩) (b1J (frF Ns) n c0 h0 vs l T (b0::bs) L i):=by
 have hll:=hl.len;obtain⟨hln,hll⟩:=hll;have hlt:=(xC.1 hi).1;have e0:decide (Int.ofNat i<Int.ofNat lv.n)=true:=ww (vv.2 zy);obtain⟨b,o,g,cs,cur,ro,nl,hb,hg,hN,hX,e1,e2,e3,e4,e5,e6⟩:=hl.get hi;have hcc:=H.ol.cc;have g0:=H.ol.g0;have g1:=H.ol.g1;have hgb:=(H.ol.fr b hb).trans hg;have z3:=H.z3;rw[wU]at z3;have hnn:=b7T hel;obtain⟨ab,g2,cs2,rfl,b1,b2,b3,b4,b5,b6,b7,b8⟩:=c7Z H.gb;rw[hK]at b4;have hdec:=a1u bs.length zy;have nneg:decide (Int.ofNat bs.length<Int.ofNat 0)=false:=wy (λh=>zN);rw[hk2]at e2;have hgab:(V.upd (V.upd h c (c4 0 0 [] none 0 0)) c (c4 2 x.p x.t nl.a nl.n nl.e)).get ab=some (.cells cs2 g2 false):=by simp(disch:=omega)only[d9,b2]
 simp(disch:=try exact dz)only[b1H,h1,h2,h3,e0,e1,e2,hgb,g0,g1,b2,J5,hel,hnn,hdec,nneg,b3,b4,b7,↓b3v,gD4,↓gU,Y1,↓gR,gS,↓gP,gY,gT,Nat.reduceEqDiff];refine l9.done (Or.inr ⟨_,x.p,16,rfl,zq,zV,λi hi=>by have:=H.ol.fr i hi;simp(disch:=omega)only[d9,this],zX,λK=>?_⟩);have q1:a3f x.t=true:=hel;have q2:(decide (b0.op=4)&& !b0.el)=false:=hK;rw[a4n _ hi,hk2];simp only[Nat.reduceEqDiff,vD,uh,C9,F7,q1,q2,vP]
theorem e0s {b0}(E:RE c0 h0 vs vl0 Ns L0)(hl:NdL (λi=>i<c0) h0 lv l)(H:RZ c0 h0 vs l c h vl u bl T (b0::bs) L i)(hi:l[i]?=some x)(hk2:x.k=2)(hel:beqBytes x.t [101,108,115,101]=true)(hK:elK b0=true)(xs)(h1:C8 xs 138=.int .i64 (.ofNat i))(h2:C8 xs 135=.slice u.a u.n u.e)(h3:C8 xs 125=.slice bl.a bl.n bl.e)(hz4:zs l<4000)(call r w):l9 (go (a5u o9 NN call (.slice lv.a lv.n lv.e) (.pointer (some ⟨c0,0,some 0⟩)) (.pointer (some ⟨c0+1,0,some 0⟩)) xs) ⟨c,h,r,w⟩) (b1J (frF Ns) n c0 h0 vs l T (b0::bs) L i):=by
 have hll:=hl.len;obtain⟨hln,hll⟩:=hll;have hlt:=(xC.1 hi).1;have e0:decide (Int.ofNat i<Int.ofNat lv.n)=true:=ww (vv.2 zy);obtain⟨b,o,g,cs,cur,ro,nl,hb,hg,hN,hX,e1,e2,e3,e4,e5,e6⟩:=hl.get hi;have hcc:=H.ol.cc;have g0:=H.ol.g0;have g1:=H.ol.g1;have hgb:=(H.ol.fr b hb).trans hg;have hinc:=G9 i zy;have hzd:=a4j hi;have hzx:=a3X x;have hzd2:=a8i l i;have z1:=H.z1;have z2:=H.z2;have z3:=H.z3;rw[wU]at z3;have hnn:=b7T hel;have hgbl:=H.gb;obtain⟨ab,g2,cs2,rfl,b1,b2,b3,b4,b5,b6,b7,b8⟩:=c7Z hgbl;rw[hK]at b4;have hdec:=a1u bs.length zy;have nneg:decide (Int.ofNat bs.length<Int.ofNat 0)=false:=wy (λh=>zN);rw[hk2]at e2;simp(disch:=try exact dz)only[b1H,h1,h2,h3,e0,e1,e2,hgb,g0,g1,b2,J5,hel,hnn,hdec,nneg,b3,b4,b7,b8,↓b3v,gD4,↓gU,Y1,↓gR,gS,↓gP,gY,gT,Nat.reduceEqDiff];obtain⟨hA,eA,f0,f1,f2⟩:∃hA,V.upd (V.upd (V.upd (V.upd (V.upd h c (c4 0 0 [] none 0 0)) c (c4 2 x.p x.t nl.a nl.n nl.e)) (c+1) (.cells [(.int .i64 (.ofNat 0),0),(.bool false,0)] 0 false)) (c+1) (.cells [(.int .i64 (.ofNat b0.p),0),(.bool false,0)] 0 false)) (c+1+1) (.cells [] 0 false)=hA/\(∀j,j<c->hA.get j=h.get j)/\hA.get (c+1)=some (.cells [(.int .i64 (.ofNat b0.p),0),(.bool false,0)] 0 false)/\hA.get (c+1+1)=some (.cells [] 0 false):=⟨_,rfl,λj hj=>zU,yY,o7 _ _ _⟩;rw[eA];clear eA;have hfl:(bs.reverse.flatMap a4y).length=bs.length*2:=by rw[a8W,vo]
 have onK:∀bs:List Bk,M0 P8 (bs.flatMap a4y)=true:=by intro bs;induction bs with|nil=>rfl|cons b bs ih=>show M0 P8 (bs.flatMap a4y)=true;exact ih
 refine l9.bindS (a0M (u:=⟨some ⟨c+1+1,0,some 0⟩,0,2⟩) (rows:=[]) (x:=⟨some ⟨ab,0,some g2⟩,bs.length,2⟩) (xs:=bs.reverse.flatMap a4y) b7M zq b8h ⟨rfl,Or.inr ⟨c+1+1,0,[],rfl,rfl,wu _,f2,xD _,rfl⟩⟩ ⟨hfl,Or.inr ⟨ab,0,g2,cs2,g2,false,rfl,rfl,zy,(f0 ab b1).trans b2,by rw[Y7,hfl];exact b5⟩⟩ (onK _) zV _ _) λy s hq=>?_;obtain⟨c3,h3',r3,w3⟩:=s;obtain⟨u1,rfl,n1,a1,a2,a3,a4,_⟩:=hq;simp only[a5f,uu]at n1 a1 a2 a3 a4;have own:∀j,Sl.own ⟨some ⟨c+1+1,0,some 0⟩,0,2⟩ j->c+1+1=j:=λj k1=>by obtain⟨_,q,e⟩:=k1;cases q;exact e
 have p1:h3'.get (c+1)=some (.cells [(.int .i64 (.ofNat b0.p),0),(.bool false,0)] 0 false):=(a3 _ zy λho=>by have:=own _ ho;omega).trans f1;simp(disch:=try exact dz)only[p1,↓gP,gY,gT];refine l9.bindS (a0M (u:=u1) (x:=⟨some ⟨c3,0,some 0⟩,1,2⟩) (xs:=[.int .i64 (.ofNat b0.p),.bool false]) b7M zq b8h (a1.mono (wZ _) λb hb _=>d9 zy) ⟨rfl,Or.inr ⟨c3,0,0,_,0,false,rfl,rfl,wu _,o7 _ _ _,rfl⟩⟩ rfl (by show(u1.n+1)*4<_;omega) _ _) λy s hq=>?_;obtain⟨c5,h5,r5,w5⟩:=s;obtain⟨u2,rfl,n2,d1,d2,d3,d4,_⟩:=hq;simp only at n2 d1 d2 d3 d4;have own1:∀j,u1.own j->c+1+1<=j:=λj ho=>by by_cases k:j<c+1+1+1;have:=own j (a4 j k ho);omega;omega
 have own2:∀j,u2.own j->c+1+1<=j:=λj ho=>by by_cases k:j<c3+1;exact own1 j (d4 j k ho);omega
 have fr:∀j,j<c->h5.get j=h.get j:=λj hj=>(d3 j zy λho=>by have:=own1 j ho;omega).trans ((d9 zy).trans ((a3 j zy λho=>by have:=own j ho;omega).trans (f0 j hj)));have H3:RZ c0 h0 vs l c5 h5 vl u u2 T (⟨b0.p,b0.op,true⟩::bs) L i:=by
  refine H.chg zy (λi k _ _=>fr i k) ((fr _ zy).trans g0) (H.lb.mono λj hj=>⟨⟨zy,hj.2.1,hj.2.2.1,λho=>by have:=own2 j ho;omega⟩,fr j hj.1⟩) ?_ (λj ho hj=>by have:=own2 j ho;omega) z1 z2 (by rw[wU];omega);rw[a9z];have e5:a4y ⟨b0.p,b0.op,true⟩=[.int .i64 (.ofNat b0.p),.bool false]:=by unfold a4y elK;simp only[a1o,uM]
  rw[e5];exact d1
 simp(disch:=try exact dz)only[↓gU,Y1,↓gR,gS,↓gP,gY,gT];refine H3.app (c2:=c5+1) (X:=[aiE 5]) (x:=⟨some ⟨c5,0,some 0⟩,1,9⟩) (i':=i+1) zy (λi hi=>d9 zy) (OB.one (riE _ _ _) (xD _) (wu _) (λ_ _ k=>k) (o7 _ _ _)) (by show 1+_<=_;omega) hz4 λu' c6 h6 r6 w6 H4 _ _=>?_;simp(disch:=try exact dz)only[hinc,↓gP,gY,gT];refine l9.done (Or.inl ⟨_,vl,u',u2,T++[aiE 5],⟨b0.p,b0.op,true⟩::bs,L,i+1,rfl,wu i,rfl,rfl,rfl,hlt,H4,λK=>?_⟩);have q1:a3f x.t=true:=hel;have q2:(decide (b0.op=4)&& !b0.el)=true:=hK;rw[a4n _ hi,hk2];simp only[Nat.reduceEqDiff,vD,uh,C9,F7,q1,q2,vP]
end
theorem OB.one1 {B c0 c b h R X}(hR:RIu (λi=>c0<=i/\i<c/\i≠b/\¬B i) h R X)(hb:c0<=b)(hbc:b<c)(hB:¬B b)(hg:h.get b=some (.cells (J7 (λv=>(v,0)) (a0Y R)) 0 false)):OB B c0 c h ⟨some ⟨b,0,some 0⟩,1,9⟩ [X]:=by
 have own:∀i,Sl.own ⟨some ⟨b,0,some 0⟩,1,9⟩ i->b=i:=λi k1=>by obtain⟨_,q,e⟩:=k1;cases q;exact e
 refine⟨⟨[R],?_,.cons (hR.mono λi hi=>⟨⟨hi.1,hi.2.1,λho=>hi.2.2.1 (own i ho).symm,hi.2.2.2⟩,rfl⟩) .nil⟩,λi ho=>by have:=own i ho;subst this;exact⟨hb,hB⟩⟩;rw[ui];exact⟨rfl,Or.inr ⟨b,0,_,rfl,rfl,hbc,hg,xD _,rfl⟩⟩
section
variable {c0:Nat}{h0:Trie VObj}{vs:Nat->Sl}{vl0:Sl}{Ns:Nat->List (List UInt8)}{L0:List (List UInt8)}{lv:Sl}{l:List Nd}{n k c:Nat}{h:Trie VObj}{vl u bl:Sl}{T:List AI}{bs:List Bk}{L:List (List UInt8)}{i:Nat}{x:Nd}
theorem RZ.app1 {β}{f:Value->M β}{Q c1 c2 h2 x X r w}(H:RZ c0 h0 vs l c h vl u bl T bs L i)(hc:c<=c2)(hh:∀i,i<c->h2.get i=h.get i)(hu:∀i,u.own i->i<c1)(h1:c0+2<=c1)(hx:OB bl.own c1 c2 h2 x X){i'}(hz:T.length+X.length+zs (l.drop i')<=zs l)(hz2:zs (l.drop i')<=zs (l.drop i))(hl:zs l<4000)(k:∀u' c3 h3 r' w',RZ c0 h0 vs l c3 h3 vl u' bl (T++X) bs L i'->c2<=c3->(∀i,i<c2->¬u.own i->h3.get i=h2.get i)->l9 (go (f (.slice u'.a u'.n u'.e)) ⟨c3,h3,r',w'⟩) Q):l9 (U3 (go (a3G a6j (.slice u.a u.n u.e) (.slice x.a x.n x.e)) ⟨c2,h2,r,w⟩) f) Q:=by
 have z1:=H.z1;have z2:=H.z2;have z3:=H.z3;have hcc:=H.ol.cc;have huu:=λi=>H.ol.o.lt (i:=i);have no:∀i,i<c0+2->¬u.own i:=λi hi ho=>by have:=(huu i ho).1;omega
 refine l9.bindS (OB.app (c1:=c1) (H.ol.o.mono (xD _) hc λi _ hi=>hh i hi) hu (λi hi=>by have:=H.gb.own_lt hi;omega) hx h1 zy zy r w) λy s hq=>?_;obtain⟨c3,h3,r3,w3⟩:=s;obtain⟨u',rfl,a1,a2,a3,a4⟩:=hq;simp only at a1 a2 a3 a4;exact k u' c3 h3 r3 w3 ⟨⟨zy,λi hi=>(a2 i zy (no i zy)).trans ((hh i zy).trans (H.ol.fr i hi)),(a2 _ zy (no _ zy)).trans ((hh _ zy).trans H.ol.g0),(a2 _ zy (no _ zy)).trans ((hh _ zy).trans H.ol.g1),a3⟩,H.lb.mono λj hj=>⟨⟨zy,hj.2.1,λho=>hj.2.2.1 (a4 j zy ho),hj.2.2.2⟩,(a2 j zy hj.2.2.1).trans (hh j hj.1)⟩,H.gb.mono zy λb kb ko=>(a2 b zy λho=>H.ol.o.nb ho ko).trans (hh b kb),H.bo,yZ,zy,zy⟩ a1 a2
theorem e6E (E:RE c0 h0 vs vl0 Ns L0) (hl:NdL (fun i=>i<c0) h0 lv l) (hz4:zs l<4000) (H:RZ c0 h0 vs l c h vl u bl T bs L i) (hi:l[i]?=some x) (hk2:x.k=2) (hel:beqBytes x.t [101, 108, 115, 101]=false) (hen:beqBytes x.t [101, 110, 100]=false) (xs) (h1:C8 xs 138=.int .i64 (.ofNat i)) (h2:C8 xs 135=.slice u.a u.n u.e) (h3:C8 xs 125=.slice bl.a bl.n bl.e) (m r w) :
 l9 (go (a5u o9 NN (o8 A9 (m+10)) (.slice lv.a lv.n lv.e) (.pointer (some ⟨c0, 0,some 0⟩)) (.pointer (some ⟨c0+1, 0,some 0⟩)) xs) ⟨c,h,r,w⟩) (b1J (frF Ns) n c0 h0 vs l T bs L i):=by
 have hll:=hl.len
 obtain ⟨hln,hll⟩:=hll
 have hlt:=(xC.1 hi).1
 have e0:decide (Int.ofNat i<Int.ofNat lv.n)=true:=ww (vv.2 zy)
 obtain ⟨b,o,g,cs,cur,ro,nl,hb,hg,hN,hX,e1,e2,e3,e4,e5,e6⟩:=hl.get hi
 have hcc:=H.ol.cc
 have g0:=H.ol.g0
 have g1:=H.ol.g1
 have hgb:=(H.ol.fr b hb).trans hg
 have hzd2:=a8i l i
 have z1:=H.z1
 have z2:=H.z2
 have z3:=H.z3
 have hbo:=H.bo
 have hbn:=H.bln
 have huo:=fun i=>H.ol.o.lt (i:=i)
 have hbw:=fun i (k:bl.own i)=>H.gb.own_lt k
 rw [hk2] at e2
 have hs1:∀ j,j<c→(V.upd (V.upd h c (c4 0 0 [] none 0 0)) c (c4 2 x.p x.t nl.a nl.n nl.e)).get j=h.get j:=fun j hj=>yg
 have H1:=H.to (wZ c) hs1
 have g0':=H1.ol.g0
 have g1':=H1.ol.g1
 simp (disch:=try exact dz) only [b1H,h1,h2,h3,e0,e1,e2,hgb,g0,g1,g0',J5,hel,hen, ↓b3v,gD4, ↓gU,Y1, ↓gR,gS, ↓gP,gY,gT,Nat.reduceEqDiff]
 have eS:∀ K,a2b (I8 (frF Ns) n) (frF Ns) l (K+1) i bs L T=match a1N (frF Ns) L l i x with
         | .er p e=>.er p e
         | .ok X nm nx=>bcase (blkB X.op) (a2b (I8 (frF Ns) n) (frF Ns) l K nx (⟨x.p,X.op,false⟩::bs) (L ++ [nm]) (T ++ [X])) (a2b (I8 (frF Ns) n) (frF Ns) l K nx bs L (T ++ [X])):=fun K=>by
  have q1:a3f x.t=false:=hel
  have q2:isEn x.t=false:=hen
  rw [a4n _ hi,hk2]
  simp only [Nat.reduceEqDiff,vD,uh,C9,F7,q1,q2,ow]
 refine l9.bindC (e1J (H1.re E) (J6 hl zy H1.ol.fr) hi m _ _) fun y s hq=>?_
 obtain ⟨c1,h1',r1,w1⟩:=s
 obtain ⟨k1,hh1,⟨X,nm,nx,R,eX,rfl,rfl,rfl,hR,hi1,hi2⟩ | ⟨p,q,R,eX,hne,rfl⟩⟩:=hq
 · simp only at k1 hh1 hR
   have f0:=(hh1 c0 zy).trans g0'
   have f1:=(hh1 (c0+1) zy).trans g1'
   have h46:o8 A9 (m+10) 46 [.int .i64 (.ofNat R.op)]=_:=a7Q (m+9) R.op
   have hzlt:=c7J (l:=l) hi1 hlt
   rw [eX] at eS
   simp only at eS
   cases hB:blkB R.op with
   | false=>
     have hB':decide (P9 (.ofNat R.op)=1)=false:=(b4F _).trans hB
     simp (disch:=try exact dz) only [f0,f1,h1,h2,h3,h46,hB',J5, ↓gU,Y1, ↓gR,gS, ↓gP,gY,gT,Nat.reduceEqDiff]
     have hX2:blkB X.op=false:=by rw [← hR.e.1]; exact hB
     have hz:zs (l.drop R.i)+4≤zs (l.drop i):=hzlt
     refine H1.app1 (c1:=c+1) (c2:=c1+1+1) (X:=[X]) (x:=⟨some ⟨c1+1, 0,some 0⟩, 1, 9⟩) (i':=R.i) zy (fun i hi=>xg) (fun j ho=>by have:=huo j ho; omega) zy (OB.one1 (hR.ru.mono fun j hj=>⟨⟨hj.1,zy,zy,fun ho=>by have:=hbw j ho; omega⟩,yg⟩) zy zy (fun ho=>by have:=hbw _ ho; omega) (o7 _ _ _)) (by show T.length+1+_≤_; omega) zy hz4 fun u' c3 h3' r3 w3 H4 _ fr4=>?_
     have p1:h3'.get c1=some (cR R 0 0):=(fr4 c1 zy fun ho=>by have:=huo _ ho; omega).trans (by simp (disch:=omega) only [d9,o7])
     simp (disch:=try exact dz) only [p1, ↓gU,Y1, ↓gR,gS, ↓gP,gY,gT]
     exact l9.done (Or.inl ⟨_,vl,u',bl,T ++ [X],bs,L,R.i,rfl,hi1,rfl,rfl,rfl,hi2,H4,fun K=>by rw [eS,hX2]; rfl⟩)
   | true=>
     have hB':decide (P9 (.ofNat R.op)=1)=true:=(b4F _).trans hB
     have hX2:blkB X.op=true:=by rw [← hR.e.1]; exact hB
     have hz:zs (l.drop R.i)+4≤zs (l.drop i):=hzlt
     have fc:h1'.get c=some (c4 2 x.p x.t nl.a nl.n nl.e):=(hh1 c zy).trans (o7 _ _ _)
     simp (disch:=try exact dz) only [fc,f0,f1,h1,h2,h3,h46,hB',J5,gD4, ↓gU,Y1, ↓gR,gS, ↓gP,gY,gT,Nat.reduceEqDiff]
     refine l9.bindS (a0M (u:=bl) (rows:=bs.reverse.flatMap a4y) (x:=⟨some ⟨c1+1, 0,some 0⟩, 1, 2⟩) (xs:=[.int .i64 (.ofNat x.p),.bool (decide (R.op=4))]) b7M zq b8h (H.gb.mono zy fun b hb _=>xg) ⟨rfl,Or.inr ⟨c1+1, 0, 0,_, 0,false,rfl,rfl,wu _,o7 _ _ _,rfl⟩⟩ rfl (by show (bl.n+1) * 4<_; omega) _ _) fun y s hq=>?_
     obtain ⟨c3,h3',r3,w3⟩:=s
     obtain ⟨bl',rfl,n3,a1,a2,a3,a4,_⟩:=hq
     simp only at n3 a1 a2 a3 a4
     have nbl:∀ j,c≤j→¬ bl.own j:=fun j hj ho=>by have:=hbw j ho; omega
     have nb0:∀ j,j<c0+2→¬ bl.own j:=fun j hj ho=>by have:=hbo j ho; omega
     have obl:∀ j,bl'.own j→bl.own j∨c1+1+1≤j:=fun j ho=>by
      by_cases k:j<c1+1+1
      · exact Or.inl (a4 j k ho)
      · omega
     have d0:h3'.get c0=some (cS vs vl):=(a3 c0 zy (nb0 _ zy)).trans (by simp (disch:=omega) only [d9,f0])
     have d2:h3'.get c1=some (cR R 0 0):=(a3 c1 zy (nbl _ zy)).trans (by simp (disch:=omega) only [d9,o7])
     have fr3:∀ j,j<c→¬ bl.own j→h3'.get j=h.get j:=fun j hj ho=>(a3 j zy ho).trans xg
     simp (disch:=try exact dz) only [d0,d2, ↓gU,Y1, ↓gR,gS, ↓gP,gY,gT]
     refine Ev.bindC (t70 ((H.lb.mono (U':=fun j=>j<c3) fun j hj=>⟨zy,fr3 j hj.1 hj.2.2.2⟩).at fun j k=>k) zy R.nm (m+9)) fun v c4' h4 r4 w4 hq=>?_
     obtain ⟨k4,hh4,vl',rfl,hsu⟩:=hq
     have e0':=(hh4 c0 zy).trans d0
     have e2':=(hh4 c1 zy).trans d2
     simp (disch:=try exact dz) only [e0',e2', ↓gW,b2B, ↓gU,Y1, ↓gR,gS, ↓gP,gY,gT]
     have ebl:∀ j,bl'.own j→j<c3:=fun j ho=>a1.own_lt ho
     have H3:RZ c0 h0 vs l c4' (V.upd h4 c0 (cS vs vl')) vl' u bl' T (⟨x.p,X.op,false⟩::bs) (L ++ [R.nm]) R.i:=by
      refine H.chg zy (fun j hj hj0 ho=>(d9 hj0).trans ((hh4 j zy).trans (fr3 j hj ho))) (o7 _ _ _) (hsu.mono fun j hj=>⟨⟨zy,zy,fun ho=>by have:=huo j ho; omega,fun ho=>by have:=ebl j ho; omega⟩,d9 zy⟩) ?_ (fun j ho hj=>(obl j ho).resolve_right zy) zy (by rw [wW]; show (L.length+1) * 4+_<_; omega) (by rw [wU]; omega)
      rw [a9z]
      have e5:a4y ⟨x.p,X.op,false⟩=[.int .i64 (.ofNat x.p),.bool (decide (R.op=4))]:=by
       unfold a4y elK
       simp only [a0K,a4G,hR.e.1]
      rw [e5]
      exact a1.mono k4 fun b hb ho=>(d9 (by rcases obl b ho with k | k; have:=hbo b k; omega; omega)).trans (hh4 b hb)
     refine H3.app1 (c1:=c+1) (c2:=c4'+1) (X:=[X]) (x:=⟨some ⟨c4', 0,some 0⟩, 1, 9⟩) (i':=R.i) zy (fun i hi=>yg) (fun j ho=>by have:=huo j ho; omega) zy (OB.one1 (hR.ru.mono fun j hj=>⟨⟨hj.1,zy,zy,fun ho=>by rcases obl j ho with k | k; exact nbl j zy k; omega⟩, ?_⟩) zy zy (fun ho=>by have:=ebl _ ho; omega) (o7 _ _ _)) (by show T.length+1+_≤_; omega) zy hz4 fun u' c5 h5 r5 w5 H4 _ fr5=>?_
     · have k:=(hh4 j zy).trans (a3 j zy (nbl j zy))
       simp (disch:=omega) only [d9,k]
     have p1:h5.get c1=some (cR R 0 0):=(fr5 c1 zy fun ho=>by have:=huo _ ho; omega).trans (by simp (disch:=omega) only [d9,e2'])
     simp (disch:=try exact dz) only [p1, ↓gU,Y1, ↓gR,gS, ↓gP,gY,gT]
     exact l9.done (Or.inl ⟨_,vl',u',bl',T ++ [X],⟨x.p,X.op,false⟩::bs,L ++ [R.nm],R.i,rfl,hi1,rfl,rfl,rfl,hi2,H4,fun K=>by rw [eS,hX2]; rfl⟩)
 · simp only at k1 hh1
   have f1:=(hh1 (c0+1) zy).trans g1'
   have q2:decide (q=0)=false:=wy hne
   rw [eX] at eS
   simp (disch:=try exact dz) only [f1,h1,h2,h3,q2,J5, ↓gU,Y1, ↓gR,gS, ↓gP,gY,gT]
   exact l9.done (Or.inr ⟨_,p,q,rfl,hne,zO,fun i hi=>by have:=H1.ol.fr i hi; simp (disch:=omega) only [d9,hh1,this],by simp only [o7],eS⟩)
end
section
variable {c0:Nat}{h0:Trie VObj}{vs:Nat->Sl}{vl0:Sl}{Ns:Nat->List (List UInt8)}{L0:List (List UInt8)}{lv:Sl}{l:List Nd}{n k:Nat}
theorem s78 {c h vl u bl T bs L i x}(hF:FZ Ns n k)(E:RE c0 h0 vs vl0 Ns L0)(hl:NdL (λi=>i<c0) h0 lv l)(hz:zs l<=n)(hz4:zs l<4000)(H:RZ c0 h0 vs l c h vl u bl T bs L i)(hi:l[i]?=some x)(xs)(h1:C8 xs 138=.int .i64 (.ofNat i))(h2:C8 xs 135=.slice u.a u.n u.e)(h3:C8 xs 125=.slice bl.a bl.n bl.e)(m r w):l9 (go (a5u o9 NN (o8 A9 (m+(k+10))) (.slice lv.a lv.n lv.e) (.pointer (some ⟨c0,0,some 0⟩)) (.pointer (some ⟨c0+1,0,some 0⟩)) xs) ⟨c,h,r,w⟩) (b1J (frF Ns) n c0 h0 vs l T bs L i):=by
 cases q0:decide (x.k=0)with
  |true=>exact e3c hF E hl hz hz4 H hi (wP q0) xs h1 h2 h3 m r w|false=>
   cases q2:decide (x.k=2)with
    |false=>grind[e5N]|true=>
     have hk2:=wP q2;cases q3:beqBytes x.t [101,110,100]with
      |true=>cases bs<;>first|rfl|grind[e0m,e4Z]
      |false=>
       cases q4:beqBytes x.t [101,108,115,101]with
        |true=>cases bs<;>first|rfl|grind[d7W,e0s,e1d]
        |false=>grind[e6E]
def d1v (T:List AI):List Bk->Ps|[]=>.ok T|b::_=>.er b.p 3
theorem c9q (F){i}(hi:l[i]?=none)(K bs L T):a2b (I8 F n) F l (K+1) i bs L T=d1v T bs:=by show(match l[i]? with|none=>_|some n=>_)=_;rw[hi];cases bs<;>rfl
theorem l78 (hF:FZ Ns n k)(E:RE c0 h0 vs vl0 Ns L0)(hl:NdL (λi=>i<c0) h0 lv l)(hz:zs l<=n)(hz4:zs l<4000)(m):∀(j e i) (c) (h) (vl u bl) (T) (bs) (L) (xs) (r w),i<=l.length->l.length<=i+j->RZ c0 h0 vs l c h vl u bl T bs L i->C8 xs 138=.int .i64 (.ofNat i)->C8 xs 135=.slice u.a u.n u.e->C8 xs 125=.slice bl.a bl.n bl.e->l9 (go (Q5 (a5u o9 NN (o8 A9 (m+(k+10))) (.slice lv.a lv.n lv.e) (.pointer (some ⟨c0,0,some 0⟩)) (.pointer (some ⟨c0+1,0,some 0⟩))) (j+1+e) xs) ⟨c,h,r,w⟩) λy s=>(∃xs' vl' u' bl' T' bs' L',y=(.exit 0,xs')/\C8 xs' 135=.slice u'.a u'.n u'.e/\C8 xs' 125=.slice bl'.a bl'.n bl'.e/\RZ c0 h0 vs l s.c s.h vl' u' bl' T' bs' L' l.length/\a2b (I8 (frF Ns) n) (frF Ns) l (j+1) i bs L T=d1v T' bs')\/(∃xs' p q,y=(.ret,xs')/\q≠0/\c0+2<=s.c/\(∀i,i<c0->s.h.get i=h0.get i)/\s.h.get (c0+1)=some (c3 none 0 0 p q)/\a2b (I8 (frF Ns) n) (frF Ns) l (j+1) i bs L T=.er p q):=by
 have hll:=hl.len;obtain⟨hln,hll⟩:=hll;have hend:∀(j e i c:Nat) (h:Trie VObj) (vl u bl:Sl) (T:List AI) (bs:List Bk) (L:List (List UInt8)) (xs:List Value) (r w:List Nat),i=l.length->RZ c0 h0 vs l c h vl u bl T bs L i->C8 xs 138=.int .i64 (.ofNat i)->C8 xs 135=.slice u.a u.n u.e->C8 xs 125=.slice bl.a bl.n bl.e->l9 (go (Q5 (a5u o9 NN (o8 A9 (m+(k+10))) (.slice lv.a lv.n lv.e) (.pointer (some ⟨c0,0,some 0⟩)) (.pointer (some ⟨c0+1,0,some 0⟩))) (j+1+e) xs) ⟨c,h,r,w⟩) λy s=>(∃xs' vl' u' bl' T' bs' L',y=(.exit 0,xs')/\C8 xs' 135=.slice u'.a u'.n u'.e/\C8 xs' 125=.slice bl'.a bl'.n bl'.e/\RZ c0 h0 vs l s.c s.h vl' u' bl' T' bs' L' l.length/\a2b (I8 (frF Ns) n) (frF Ns) l (j+1) i bs L T=d1v T' bs'):=by
  intro j e i c h vl u bl T bs L xs r w hi H h1 h2 h3;subst hi;rw[wX j 1 e,O8];have e0:decide (Int.ofNat l.length<Int.ofNat lv.n)=false:=by rw[hln];simp_all
  simp(maxSteps:=9999999) (disch:=try exact dz)only[b1H,h1,h2,h3,e0,↓gU,Y1,↓gR,gS,↓gP,gY,gT];exact l9.done ⟨_,vl,u,bl,T,bs,L,rfl,rfl,rfl,H,c9q _ (wT (xD _)) _ _ _ _⟩
 intro j;induction j with|zero=>intro e i c h vl u bl T bs L xs r w hi1 hi2 H h1 h2 h3;exact(hend 0 e i c h vl u bl T bs L xs r w zy H h1 h2 h3).mono λ_ _ h=>Or.inl h|succ j ih=>intro e i c h vl u bl T bs L xs r w hi1 hi2 H h1 h2 h3;by_cases hlt:i<l.length;rw[wX (j+1) 1 e,O8];refine l9.bindJ (s78 hF E hl hz hz4 H (wz hlt) xs h1 h2 h3 m r w) λy xs' s hq=>?_;obtain⟨c1,h1',r1,w1⟩:=s;rcases hq with⟨xs1,vl',u',bl',T',bs',L',i',f1,f2,f3,f4,f5,f6,H',eS⟩|⟨xs1,p,q,f1,f2,f3,f4,f5,eS⟩;cases f1;rw[eS];exact ih e i' c1 h1' vl' u' bl' T' bs' L' _ _ _ f6 zy H' f3 f4 f5;cases f1;rw[eS];exact l9.done (Or.inr ⟨_,p,q,rfl,f2,f3,f4,f5,rfl⟩);exact(hend (j+1) e i c h vl u bl T bs L xs r w zy H h1 h2 h3).mono λ_ _ h=>Or.inl h
theorem t78 (hF:FZ Ns n k)(E:RE c0 h0 vs vl0 Ns L0)(hl:NdL (λi=>i<c0) h0 lv l)(hz:zs l<=n)(hL:L0.length*4+zs l<3900)(m):Ev (o8 A9 (m+(k+11)) 78 [.slice lv.a lv.n lv.e,.agg ⟨sR vs vl0⟩]) c0 h0 (EdF c0 h0 (a1x (I8 (frF Ns) n) (frF Ns) L0 l) (zs l)):=by
 intro r w;have hll:=hl.len.2;obtain⟨e,hNe⟩:∃e,NN=l.length+1+e:=⟨NN-(l.length+1),by have:1900000<=NN:=zq;omega⟩;have H0:RZ c0 h0 vs l (c0+1+1) (V.upd (V.upd h0 c0 (cS vs vl0)) (c0+1) (c3 none 0 0 0 0)) vl0 ⟨none,0,0⟩ ⟨none,0,0⟩ [] [] L0 0:=⟨⟨zy,λi hi=>zl,zW,zX,OB.nil _ _ _⟩,E.l.su.mono λj hj=>⟨⟨zy,zy,c6P j,c6P j⟩,zl⟩,R7.nil _ _ _,λj ho=>absurd ho (c6P j),zn,by rw[ug];exact hL,zn⟩;have lp:=λxs r w=>l78 hF E hl hz zy m l.length e 0 _ _ _ _ _ _ _ _ xs r w (vY _) zy H0;rw[<-hNe]at lp;have eS:a1x (I8 (frF Ns) n) (frF Ns) L0 l=a2b (I8 (frF Ns) n) (frF Ns) l (l.length+1) 0 [] L0 []:=rfl;rw[eS];show l9 (go (o8 A9 (m+(k+10)+1) 78 _) _) _;rw[e6P];simp(disch:=try exact dz)only[G78,↓gU,Y1,↓gR,gS,↓gP,gY,gT];refine l9.bindJ (lp _ _ _ rfl rfl rfl) λy xs' s hq=>?_;obtain⟨c2,h2,r2,w2⟩:=s;rcases hq with⟨xs1,vl,u,bl,T,bs,L,f1,f2,f3,H,eR⟩|⟨xs1,p,q,f1,f2,f3,f4,f5,eR⟩;cases f1;have hcc:=H.ol.cc;have g1:=H.ol.g1;have gfr:=H.ol.fr;have hbn:=H.bln;have z1:=H.z1;have z3:=H.z3;simp only at hcc g1 gfr;rw[eR];cases bs with|nil=>rw[hbn]at f3;have e0:decide (Int.ofNat 0<Int.ofNat 0)=false:=rfl;simp(disch:=try exact dz)only[J4,f2,f3,g1,e0,X6,vJ,vM,↓gU,Y1,↓gR,gS,↓gP,gY,gT];exact l9.done ⟨_,rfl,zu,λi hi=>zl,Or.inl ⟨T,u,rfl,rfl,H.ol.o.to zy (xD _) (λ_ _ _ k=>k.elim) λi hi _ _=>zl,zy⟩⟩|cons b0 bs=>obtain⟨ab,g2,cs2,rfl,b1,b2,b3,b4,b5,b6,b7,b8⟩:=c7Z H.gb;rw[wU]at z3;have hdec:=a1u bs.length zy;have e0:decide (0<bs.length+1)=true:=ww zy;simp only at b1 b2;simp(disch:=try exact dz)only[J4,f2,f3,g1,e0,X6,hdec,b2,b3,b7,↓gU,Y1,↓gR,gS,↓gP,gY,gT];exact l9.done ⟨_,rfl,zu,λi hi=>zl,Or.inr ⟨b0.p,3,rfl,zq,rfl⟩⟩
 cases f1;simp only at f3 f4 f5;rw[eR];simp(disch:=try exact dz)only[J4,f5,↓gU,Y1,↓gR,gS,↓gP,gY,gT];exact l9.done ⟨_,rfl,zu,f4,Or.inr ⟨p,q,rfl,f2,rfl⟩⟩
end
theorem OB.app2 {B c0 c1 c h u x T X}(H:OB B c0 c h u T)(hB:∀i,B i->i<c)(hx:OB (λj=>B j\/u.own j) c1 c h x X)(h01:c0<=c1)(h0c:c0<=c)(hl:(T.length+X.length)*4<4294967296)(r w):l9 (go (a3G a6j (.slice u.a u.n u.e) (.slice x.a x.n x.e)) ⟨c,h,r,w⟩) λy s=>∃u',y=.slice u'.a u'.n u'.e/\c<=s.c/\(∀i,i<c->¬u.own i->s.h.get i=h.get i)/\OB B c0 s.c s.h u' (T++X)/\∀i,i<c->u'.own i->u.own i:=by have hun:=H.len;have hxn:=hx.len;have hux:=λi=>hx.lt (i:=i);have huu:=λi=>H.lt (i:=i);obtain⟨⟨Rs,h1,h2⟩,h3⟩:=H;obtain⟨⟨Rx,x1,x2⟩,x3⟩:=hx;refine(a0M (x:=x) (xs:=Rx.flatMap a0Y) c2C zq c2b h1 x1.rows (c1Z Rx) (by rw[hun,hxn];exact hl) r w).mono ?_;rintro y s ⟨u',rfl,hn',hg,hc2,hs2,hown,_⟩;refine⟨u',rfl,hc2,hs2,⟨⟨Rs++Rx,by rw[uZ];exact hg,?_⟩,λi ho=>?_⟩,hown⟩;exact RIs.app (h2.mono λi hi=>⟨⟨hi.1,zy,λho=>hi.2.2.1 (hown i hi.2.1 ho),hi.2.2.2⟩,hs2 i hi.2.1 hi.2.2.1⟩) (x2.mono λi hi=>⟨⟨zy,zy,λho=>hi.2.2.2 (Or.inr (hown i hi.2.1 ho)),λk=>hi.2.2.2 (Or.inl k)⟩,hs2 i hi.2.1 λho=>hi.2.2.2 (Or.inr ho)⟩);grind
theorem d1D (sz b o g n i j k k')(hij:i<=j)(h:j<=n)(h0:sz≠0):a4d sz (.slice (some ⟨b,o,some g⟩) n sz) (some (.int k (.ofNat i))) (some (.int k' (.ofNat j)))=M.pure (.slice (some ⟨b,o+i*sz,some g⟩) (j-i) sz):=by show M.guard (Nat.beq sz sz) (cutN sz ⟨b,o,some g⟩ n (some (.int k (.ofNat i))) (some (.int k' (.ofNat j))))=_;rw[J4,V4];show M.guard (Nat.ble i j&&Nat.ble j n&& !(Nat.beq sz 0)) (M.pure (Value.slice (some ⟨b,o+i*sz,some g⟩) (j-i) sz))=_;rw[a2e hij,a2e h,V5 h0];rfl
theorem NdL.mid {U h v l}(H:NdL U h v l){i j}(hij:i<=j)(hj:j<=l.length):∃v',(∀k k',a4d 4 (.slice v.a v.n v.e) (some (.int k (.ofNat i))) (some (.int k' (.ofNat j)))=M.pure (.slice v'.a v'.n v'.e))/\NdL U h v' ((l.take j).drop i):=by
 cases H with
  |nil=>have:j=0:=zu;subst this;have:i=0:=zy;subst this;exact⟨⟨none,0,0⟩,λk k'=>by cases k<;>cases k'<;>kernel_rfl,.nil⟩| @row b o g cur cs ro _ vs h1 h2 h3 h4 h5=>
   have e:((l.take j).drop i).length=j-i:=by rw[vz,tQ];omega
   have eg:∀(a:Nat) n,((l.take j).drop i)[a]?=some n->l[i+a]?=some n:=λa n hi=>by rw[uW,uP]at hi;simp_all
   refine⟨⟨some ⟨b,o+i*4,some g⟩,((l.take j).drop i).length,4⟩,λk k'=>?_,.row (λa=>vs (i+a)) h1 h2 zy (λa n hi=>?_) λa n hi=>?_⟩;rw[e];grind[d1D];grind;simp_all
abbrev b5u:=om (λp0 p1 p2 p3 p4 p5 s=>P6 (e2U p0 p1 p2 p3 p4 p5) s)<| @D9
abbrev c0l:=λp0 p1 p2 p3 p4 s=>P6 (c4E p0 p1 p2 p3 p4) s
theorem e2f (n a b d):o8 A9 (n+1) 150 [a,b,d]=b9P o9 NN (o8 A9 n) a b d:=a5I (q:=b9P) (N:=NN) zw n a b d
abbrev thW:List UInt8:=[116,104,101,110]
section
variable {c0:Nat}{h0:Trie VObj}{lv:Sl}{l:List Nd}
theorem e9U (hl:NdL (λi=>i<c0) h0 lv l)(m:Nat):∀(j e i c:Nat) (h:Trie VObj) (xs:List Value) (r w:List Nat),i+j=l.length->c0<=c->(∀a,a<c0->h.get a=h0.get a)->C8 xs 20=.int .i64 (.ofNat i)->l9 (go (Q5 (d0S o9 NN (o8 A9 (m+1)) (.slice lv.a lv.n lv.e)) (j+1+e) xs) ⟨c,h,r,w⟩) λy s=>∃xs' i',y=(.exit 0,xs')/\C8 xs' 20=.int .i64 (.ofNat i')/\i<=i'/\i'<=l.length/\c<=s.c/\(∀a,a<c->s.h.get a=h.get a)/\(∀a y,i<=a->a<i'->l[a]?=some y->y.k=0)/\(∀y,l[i']?=some y->(decide (y.k=0)&& !(Z4 y.k (a0f y.l) thW))=false)/\∀(fold:Nd->Ps) (row:List Nd->Ps) (q:Nat) (X:AI) (T:List AI),ifS fold row q X (l.drop i) T=match a3r fold ((l.take i').drop i) T with|.ok T1=>ifS fold row q X (l.drop i') T1|.er p e=>.er p e:=by
 have hll:=hl.len;obtain⟨hln,hll⟩:=hll;intro j;induction j with
  |zero=>
   intro e i c h xs r w hi hc hfr h1;have hii:i=l.length:=zy;subst hii;rw[wX 0 1 e,O8];have e0:decide (Int.ofNat l.length<Int.ofNat lv.n)=false:=by rw[hln];simp_all
   simp(disch:=try exact dz)only[c0l,h1,e0,↓gP,gY,gT];refine l9.done ⟨_,l.length,rfl,rfl,xD _,xD _,xD _,λ_ _=>rfl,λa y h1 h2=>zy,λy hy=>?_,λfold row q X T=>?_⟩;rw[wT (xD _)]at hy;cases hy;rw[qA,pz];rfl|succ j ih=>
   intro e i c h xs r w hi hc hfr h1;have hlt:i<l.length:=zy;obtain⟨y,hy⟩:∃y,l[i]?=some y:=⟨_,wz hlt⟩;have hd:l.drop i=y::l.drop (i+1):=by rw[wz hlt]at hy;grind[List.drop_eq_getElem_cons]
   obtain⟨b,o,g,cs,cur,ro,nl,hb,hg,hN,hX,e1,e2,e3,e4,e5,e6⟩:=hl.get hy;have hgb:=(hfr b hb).trans hg;have hinc:=G9 i zy;have e0:decide (Int.ofNat i<Int.ofNat lv.n)=true:=by rw[hln];simp_all
   have hstop:(decide (y.k=0)&& !(Z4 y.k (a0f y.l) thW))=false->∀y',l[i]?=some y'->(decide (y'.k=0)&& !(Z4 y'.k (a0f y'.l) thW))=false:=λhh y' hy'=>by rw[hy]at hy';simp_all
   have hnil:∀(fold:Nd->Ps) (row:List Nd->Ps) (q:Nat) (X:AI) (T:List AI),ifS fold row q X (l.drop i) T=match a3r fold ((l.take i).drop i) T with|.ok T1=>ifS fold row q X (l.drop i) T1|.er p e=>.er p e:=λfold row q X T=>by have:(l.take i).drop i=[]:=vH (by rw[tQ];omega);rw[this];rfl
   rw[wX (j+1) 1 e,O8];cases q1:decide (y.k=0)with
    |false=>simp(disch:=try exact dz)only[c0l,h1,e0,e1,e3,hgb,J5,q1,↓gP,gY,gT];exact l9.done ⟨_,i,rfl,rfl,xD _,Nat.le_of_lt hlt,xD _,λ_ _=>rfl,λa y h1 h2=>zy,hstop (by rw[q1];rfl),hnil⟩|true=>
     simp(disch:=try exact dz)only[c0l,h1,e0,e1,e3,hgb,J5,q1,↓gP,gY,gT];refine Rv.bindC (b3a (J6 hl hc hfr) i [116,104,101,110] m) λc1 h1' r1 w1 k1 hh1=>?_;have eh:hdB l i [116,104,101,110]=Z4 y.k (a0f y.l) thW:=by grind[hdB]
     rw[eh];cases q2:Z4 y.k (a0f y.l) thW with
      |true=>simp(disch:=try exact dz)only[c0l,h1,↓gP,gY,gT];exact l9.done ⟨_,i,rfl,rfl,xD _,Nat.le_of_lt hlt,k1,hh1,λa y h1 h2=>zy,hstop (by rw[q1,q2];rfl),hnil⟩|false=>
       simp(disch:=try exact dz)only[h1,hinc,↓gP,gY,gT];refine(ih e (i+1) c1 h1' _ _ _ zy zy (λa ha=>(hh1 a zy).trans (hfr a ha)) rfl).mono λy' s hq=>?_;obtain⟨xs',i',f1,f2,f3,f4,f5,f6,f7,f8,f9⟩:=hq;refine⟨xs',i',f1,f2,zy,f4,zy,λa ha=>(f6 a zy).trans (hh1 a ha),λa y' h1 h2 hy'=>?_,f8,λfold row q X T=>?_⟩;grind;have et:(l.take i').drop i=y::(l.take i').drop (i+1):=by
        have h5:(l.take i')[i]?=some y:=by rw[uP,vX zy];exact hy
        grind[List.drop_eq_getElem_cons]
       rw[et,hd];have eA:a3r fold (y::(l.take i').drop (i+1)) T=bcase (decide (y.k=0)) (match fold y with|.ok T1=>a3r fold ((l.take i').drop (i+1)) (T++T1)|.er p e=>.er p e) (.er y.p 4):=rfl;have eI:ifS fold row q X (y::l.drop (i+1)) T=bcase (Z4 y.k (a0f y.l) thW) (match row y.l.tail with|.ok T1=>b2a row (T++[X]++T1) (l.drop (i+1))|.er p e=>.er p e) (bcase (decide (y.k=0)) (match fold y with|.ok T1=>ifS fold row q X (l.drop (i+1)) (T++T1)|.er p e=>.er p e) (.er y.p 4)):=rfl;rw[eA,eI,q1,q2,F7,C9,C9];cases fold y<;>grind
end
abbrev EdB (cb c:Nat)(h:Trie VObj)(ps:Ps)(z:Nat)(v:Value)(c':Nat)(h':Trie VObj):Prop:=c<=c'/\(∀i,i<c->h'.get i=h.get i)/\((∃T u,ps=.ok T/\v=.agg ⟨V3 u.a u.n u.e 0 0⟩/\OZ cb c' h' u T/\T.length<=z)\/∃p e,ps=.er p e/\e≠0/\v=.agg ⟨V3 none 0 0 p e⟩)
theorem e2G {a b c1 F}(hb:a<c1)(hc:b<c1)(hF:Ft c1 F):a0v [(0,1),(0,2),(0,3),(1,3),(2,3),(0,5),(1,5),(2,5),(3,5),(4,5),(0,7),(1,7),(2,7),(3,7),(4,7),(5,7),(6,7)] [([],[]),([],[]),([a],[]),([],[]),([],[]),([b],[]),F,([],[c1]),([c1],[c1])]=true:=zB
theorem d8s {a b c1 F}(hb:a<c1)(hc:b<c1)(hF:Ft c1 F):a0v [(0,1),(0,6),(1,6),(2,6),(3,6),(4,6),(5,6),(0,8),(1,8),(2,8),(3,8),(4,8),(5,8),(6,8),(7,8)] [([],[]),([],[]),([],[]),([],[]),([a],[]),([],[]),([b],[]),F,([],[c1]),([c1],[c1])]=true:=zB
theorem e0Z {a b c1 F}(hb:a<c1)(hc:b<c1)(hF:Ft c1 F):a0v [(0,1),(0,2),(0,7),(1,7),(2,7),(3,7),(4,7),(5,7),(6,7),(0,9),(1,9),(2,9),(3,9),(4,9),(5,9),(6,9),(7,9),(8,9)] [([],[]),([],[]),([],[]),([],[]),([],[]),([a],[]),([],[]),([b],[]),F,([],[c1]),([c1],[c1])]=true:=zB
def B3 (c j:Nat):Prop:=c<=j/\j<c+3
structure KZ (cb c:Nat) (h:Trie VObj) (R:RV) (vs:Nat→Sl) (vl:Sl) (c':Nat) (h':Trie VObj) (u:Sl) (T:List AI):Prop where
 cc:c+3≤c'
 kb:cb≤c
 fr:∀ a,a<c→h'.get a=h.get a
 g0:h'.get c=some (cR R 0 0)
 g1:h'.get (c+1)=some (cS vs vl)
 g2:h'.get (c+1+1)=some (c3 none 0 0 0 0)
 o:OB (B3 c) cb c' h' u T
 uo:∀ j,u.own j→c+3≤j
section
variable {cb c:Nat}{h:Trie VObj}{R:RV}{vs:Nat->Sl}{vl:Sl}{c':Nat}{h':Trie VObj}{u:Sl}{T:List AI}
theorem KZ.to (H:KZ cb c h R vs vl c' h' u T){c2 h2}(hc:c'<=c2)(hh:∀i,i<c'->h2.get i=h'.get i):KZ cb c h R vs vl c2 h2 u T:=by have hcc:=H.cc;exact⟨zy,H.kb,λa ha=>(hh a zy).trans (H.fr a ha),(hh _ zy).trans H.g0,(hh _ zy).trans H.g1,(hh _ zy).trans H.g2,H.o.mono (xD _) hc λi _ hi=>hh i hi,H.uo⟩
theorem KZ.app {β}{f:Value->M β}{Q c1 c2 h2 x X r w}(H:KZ cb c h R vs vl c' h' u T)(hc:c'<=c2)(hh:∀i,i<c'->h2.get i=h'.get i)(hx:OB (λj=>B3 c j\/u.own j) c1 c2 h2 x X)(h01:cb<=c1)(hl:(T.length+X.length)*4<4294967296)(k:∀u' c3 h3 r' w',KZ cb c h R vs vl c3 h3 u' (T++X)->c2<=c3->(∀i,i<c2->¬u.own i->h3.get i=h2.get i)->(∀i,i<c2->u'.own i->u.own i)->l9 (go (f (.slice u'.a u'.n u'.e)) ⟨c3,h3,r',w'⟩) Q):l9 (U3 (go (a3G a6j (.slice u.a u.n u.e) (.slice x.a x.n x.e)) ⟨c2,h2,r,w⟩) f) Q:=by
 have hcc:=H.cc;have hcb:=H.kb;have huo:=H.uo;have H2:=H.to hc hh;have no:∀i,i<c+3->¬u.own i:=λi hi ho=>by have:=huo i ho;omega
 refine l9.bindS (OB.app2 H2.o (λi hi=>by have:=hi.2;omega) hx h01 zy hl r w) λy s hq=>?_;obtain⟨c3,h3,r3,w3⟩:=s;obtain⟨u',rfl,a1,a2,a3,a4⟩:=hq;simp only at a1 a2 a3 a4;exact k u' c3 h3 r3 w3 ⟨zy,hcb,λa ha=>(a2 a zy (no a zy)).trans (H2.fr a ha),(a2 _ zy (no _ zy)).trans H2.g0,(a2 _ zy (no _ zy)).trans H2.g1,(a2 _ zy (no _ zy)).trans H2.g2,a3,λj ho=>zu⟩ a1 a2 a4
theorem KZ.appL {β}{f:Value->M β}{Q c1 c1' x X r w}(H:KZ cb c h R vs vl c' h' u T)(hx:OZ c1 c1' h' x X)(hcc':c1'<=c')(hc1:c+3<=c1)(hu:∀j,u.own j->j<c1\/c1'<=j)(hl:(T.length+X.length)*4<4294967296)(k:∀u' c3 h3 r' w',KZ cb c h R vs vl c3 h3 u' (T++X)->c'<=c3->(∀i,i<c'->¬u.own i->h3.get i=h'.get i)->(∀i,i<c'->u'.own i->u.own i)->l9 (go (f (.slice u'.a u'.n u'.e)) ⟨c3,h3,r',w'⟩) Q):l9 (U3 (go (a3G a6j (.slice u.a u.n u.e) (.slice x.a x.n x.e)) ⟨c',h',r,w⟩) f) Q:=by have hcb:=H.kb;exact H.app (xD _) (λ_ _=>rfl) (hx.to (xD _) hcc' (λi k1 k2 k=>by rcases k with k|k;have:=k.2;omega;grind) λ_ _ _ _=>rfl) zy hl k
theorem d0q (i)(h:i<4294967296):N8 .i64 (Int.ofNat i+Int.ofNat 2)=Int.ofNat (i+2):=b0r .i64 (i+2) (by show i+2<9223372036854775808;omega)
theorem KZ.appE {β}{f:Value->M β}{Q op r w}(H:KZ cb c h R vs vl c' h' u T)(hl:(T.length+1)*4<4294967296)(k:∀u' c3 h3 r' w',KZ cb c h R vs vl c3 h3 u' (T++[aiE op])->c'+1<=c3->(∀i,i<c'+1->¬u.own i->h3.get i=(V.upd h' c' (c9 (rvE op))).get i)->(∀i,i<c'+1->u'.own i->u.own i)->l9 (go (f (.slice u'.a u'.n u'.e)) ⟨c3,h3,r',w'⟩) Q):l9 (U3 (go (a3G a6j (.slice u.a u.n u.e) (.slice (some ⟨c',0,some 0⟩) 1 9)) ⟨c'+1,V.upd h' c' (c9 (rvE op)),r,w⟩) f) Q:=by have hcc:=H.cc;have hcb:=H.kb;refine H.app (x:=⟨some ⟨c',0,some 0⟩,1,9⟩) (X:=[aiE op]) (c1:=c') (wZ _) (λi hi=>d9 zy) (OB.one1 (riE _ _ _) (xD _) (wu _) (λk=>?_) (o7 _ _ _)) zy hl k;rcases k with k|k;have:=k.2;omega;have:=(H.o.lt k).2;omega
theorem KZ.appX {β}{f:Value->M β}{Q X r w}(H:KZ cb c h R vs vl c' h' u T)(hR:RIu (λj=>cb<=j/\j<c) h R X)(hl:(T.length+1)*4<4294967296)(k:∀u' c3 h3 r' w',KZ cb c h R vs vl c3 h3 u' (T++[X])->c'+1<=c3->(∀i,i<c'+1->¬u.own i->h3.get i=(V.upd h' c' (c9 R)).get i)->(∀i,i<c'+1->u'.own i->u.own i)->l9 (go (f (.slice u'.a u'.n u'.e)) ⟨c3,h3,r',w'⟩) Q):l9 (U3 (go (a3G a6j (.slice u.a u.n u.e) (.slice (some ⟨c',0,some 0⟩) 1 9)) ⟨c'+1,V.upd h' c' (c9 R),r,w⟩) f) Q:=by have hcc:=H.cc;have hcb:=H.kb;have huo:=H.uo;refine H.app (x:=⟨some ⟨c',0,some 0⟩,1,9⟩) (X:=[X]) (c1:=cb) (wZ _) (λi hi=>d9 zy) (OB.one1 (hR.mono λj hj=>⟨⟨hj.1,zy,zy,λk=>?_⟩,(d9 zy).trans (H.fr j hj.2)⟩) zy (wu _) (λk=>?_) (o7 _ _ _)) (xD _) hl k;rcases k with k|k;have:=k.1;omega;grind;rcases k with k|k;have:=k.2;omega;have:=(H.o.lt k).2;omega
theorem KZ.done (H:KZ cb c h R vs vl c' h' u T):OZ cb c' (V.upd h' (c+1+1) (c3 u.a u.n u.e 0 0)) u T:=by have hcc:=H.cc;exact H.o.to (xD _) (xD _) (λ_ _ _ k=>k.elim) λi k1 k2 k3=>d9 λe=>k3 ⟨zy,zy⟩
end
section
variable {c cb:Nat}{h:Trie VObj}{vs:Nat->Sl}{vl:Sl}{Ns:Nat->List (List UInt8)}{L:List (List UInt8)}{lv:Sl}{l:List Nd}{n k:Nat}{R:RV}{X:AI}{wn:Nd}
theorem d8e (a b):zs (a++b)=zs a+zs b:=by induction a<;>simp_all[zs,tN]
theorem d9i (l:List Nd){i j}(hij:i<=j):zs ((l.take j).drop i)+zs (l.drop j)=zs (l.drop i):=by grind[List.take_append_drop,d8e]
end
end
end Go.Proofs.YtmomonnlmbljoaaGreatDoor
