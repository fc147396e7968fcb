import Derived.Test.YtmomonnlmbljoaaGreatDoorHbh
set_option maxRecDepth 1000000
set_option maxHeartbeats 4000000
set_option linter.unusedVariables false
set_option linter.unusedSimpArgs false
section
namespace Go.Proofs.YtmomonnlmbljoaaGreatDoor
open Go.V Go.RowKit Go.Shelf Go.Proofs
variable {mL:Int}
attribute [local congr] m0 l9 n8 n9 q9 m8 s9 A1 A0
theorem e0W (n a b c d):j0 r7 (n+1) 65 [a,b,c,d]=c2A i7 NN (j0 r7 n) a b c d:=d7m (q:=c2A) (N:=NN) zw n a b c d
def z4:List (Value×Nat):=[(.slice none 0 0,0),(.int .i64 (.ofNat 0),0),(.int .i64 (.ofNat 0),0),(.int .i64 (.ofNat 0),0)]
def d7O (v:Sl)(i p e:Nat):List (Value×Nat):=[(.slice v.a v.n v.e,0),(.int .i64 (.ofNat i),0),(.int .i64 (.ofNat p),0),(.int .i64 (.ofNat e),0)]
structure TI (c0:Nat) (h0:Trie VObj) (c:Nat) (h:Trie VObj) (u:Sl) (rows:List (Nd×Sl)):Prop where
 le:c0+1≤c
 fr:∀ i,i<c0→h.get i=h0.get i
 bx:h.get c0=some (.cells z4 0 false)
 g:K9 4 c h u (rows.flatMap b0o)
 o:∀ i,u.own i→c0<i
 nd:∀ x∈rows,NdL (fun i=>c0<i∧i<c∧¬ u.own i) h x.2 x.1.l∧x.1.t.length<90000
theorem b5y:∀bs:List (Nd×Sl),(bs.flatMap b0o).length=bs.length*4:=by intro bs;induction bs with|nil=>rfl|cons R Rs ih=>rw[wW,xE,ih,xH];show 4+_=_;omega
theorem TI.n {c0 c h0 h u rows}(H:TI c0 h0 c h u rows):u.n=rows.length:=by have:=H.g.1;rw[b5y]at this;omega
theorem TI.to {c0 c h0 h u rows}(H:TI c0 h0 c h u rows){c' h'}(hc:c<=c')(hs:∀i,i<c->h'.get i=h.get i):TI c0 h0 c' h' u rows:=by have le:=H.le;exact⟨zy,λi hi=>(hs i zy).trans (H.fr i hi),(hs c0 zy).trans H.bx,H.g.mono hc λb k _=>hs b k,H.o,λx hx=>⟨(H.nd x hx).1.mono λi k=>⟨⟨k.1,xI k.2.1 hc,k.2.2⟩,hs i k.2.1⟩,(H.nd x hx).2⟩⟩
theorem TI.app {β c0 c h0 h u rows x v b}{f:Value->M β}{Q r w}(H:TI c0 h0 c h u rows)(hl:rows.length<100000)(hx:NdL (λi=>c0<i/\i<c/\¬u.own i) h v x.l)(ht:x.t.length<90000)(b2:b<c)(hb:h.get b=some (.cells [(.int .i64 (.ofNat x.k),0),(.int .i64 (.ofNat x.p),0),(.string ⟨⟨x.t⟩⟩,0),(.slice v.a v.n v.e,0)] 0 false))(k:∀(u') (c') (h') (r' w'),c<=c'->(∀i,i<c->¬u.own i->h'.get i=h.get i)->TI c0 h0 c' h' u' (rows++[(x,v)])->d8 (go (f (.slice u'.a u'.n u'.e)) ⟨c',h',r',w'⟩) Q):d8 (H7 (go (a2B b3s (.slice u.a u.n u.e) (.slice (some ⟨b,0,some 0⟩) 1 4)) ⟨c,h,r,w⟩) f) Q:=by
 have hn:=H.n;refine d8.bindS (a0V (x:=⟨some ⟨b,0,some 0⟩,1,4⟩) (xs:=b0o (x,v)) d2y zv d2q H.g ⟨rfl,Or.inr ⟨b,0,0,_,0,false,rfl,rfl,b2,hb,rfl⟩⟩ rfl zc r w) λy s hq=>?_;obtain⟨c',h',r',w'⟩:=s;obtain⟨u',rfl,hn',hg,hc,hs1,hown,hww⟩:=hq;have hc:c<=c':=hc;have le:=H.le;have ho':∀i,u'.own i->u.own i\/c<=i:=λi hi=>by rcases wK i c with k1|k1;exact Or.inl (hown i k1 hi);exact Or.inr k1
 have key:∀i,(c0<i/\i<c/\¬u.own i)->(c0<i/\i<c'/\¬u'.own i)/\h'.get i=h.get i:=λi k=>⟨⟨k.1,xI k.2.1 hc,λho=>by rcases ho' i ho with k1|k1;exact k.2.2 k1;have:=k.2.1;omega⟩,hs1 i k.2.1 k.2.2⟩;have hno:∀i,i<=c0->¬u.own i:=λi hi ho=>by have:=H.o i ho;omega
 refine k u' c' h' r' w' hc hs1 ⟨zy,λi hi=>(hs1 i zy (hno i zy)).trans (H.fr i hi),(hs1 c0 zy (hno c0 (xR _))).trans H.bx,?_,λi hi=>?_,λy hy=>?_⟩;rw[vv,vA];exact hg;rcases ho' i hi with k1|k1;exact H.o i k1;omega;rcases wU.1 hy with k1|k1;exact⟨(H.nd y k1).1.mono key,(H.nd y k1).2⟩;rw[wx]at k1;subst k1;exact⟨hx.mono key,ht⟩
theorem TI.fin {c0 c h0 h u rows}(H:TI c0 h0 c h u rows)(hl:rows.length<90000):NdL (λi=>c0<i/\i<c) h u (rows.map (·.1)):=H.g.nd (λi hi=>⟨H.o i hi,H.g.own_lt hi⟩) (λx hx=>⟨(H.nd x hx).1.mono λi k=>⟨⟨k.1,k.2.1⟩,rfl⟩,(H.nd x hx).2⟩) hl
def RdV (c0 c:Nat)(h:Trie VObj)(i0 n:Nat)(v:Sl)(i p e:Nat):Rd->Prop|.ok l j=>NdL (λb=>c0<b/\b<c) h v l/\i=j/\p=0/\e=0/\i0<=j/\j<=n|.er p' e'=>v=⟨none,0,0⟩/\i=0/\p=p'/\e=e'/\e'≠0
theorem RdV.mono {c0 c c' h h' i0 n v i p e rd}(H:RdV c0 c h i0 n v i p e rd)(hc:c<=c')(hs:∀b,c0<b->b<c->h'.get b=h.get b):RdV c0 c' h' i0 n v i p e rd:=by cases rd with|er p' e'=>exact H|ok l j=>exact⟨H.1.mono λb k=>⟨⟨k.1,xI k.2 hc⟩,hs b k.1 k.2⟩,H.2⟩
def e4R (c0:Nat)(h0:Trie VObj)(i0 n:Nat)(rd:Rd)(x:CR)(s:V.S):Prop:=c0<=s.c/\(∀i,i<c0->s.h.get i=h0.get i)/\∃v i p e,x=.ret (.agg ⟨[.slice v.a v.n v.e,.int .i64 (.ofNat i),.int .i64 (.ofNat p),.int .i64 (.ofNat e)]⟩)/\RdV c0 s.c s.h i0 n v i p e rd
def d0G (tu:Sl)(ts:List Tok)(k:Nat):Prop:=∀(m i deep op c0:Nat) (h0:Trie VObj) (r w:List Nat),K9 3 c0 h0 tu (ts.flatMap b2A)->ts.length-i<k->i<=ts.length->deep<201->d8 (go (j0 r7 (m+k+1) 65 [.slice tu.a tu.n tu.e,.int .i64 (.ofNat i),.int .i64 (.ofNat deep),.int .i64 (.ofNat op)]) ⟨c0,h0,r,w⟩) (e4R c0 h0 i ts.length (Z4 ts k i deep op []))
def e6f (c0:Nat)(h0:Trie VObj)(i0 n deep op:Nat)(rd:Rd)(y:Xc×List Value)(s:V.S):Prop:=(∃xs' u rows i,y=(.exit 0,xs')/\r6 xs' 70=.slice u.a u.n u.e/\r6 xs' 73=.int .i64 (.ofNat i)/\TI c0 h0 s.c s.h u rows/\rows.length<=i/\i<=n/\i0<=i/\rd=a9F i deep op (rows.map (·.1)))\/(∃xs' v i p e,y=(.ret,xs')/\s.h.get c0=some (.cells (d7O v i p e) 0 false)/\c0+1<=s.c/\(∀i,i<c0->s.h.get i=h0.get i)/\RdV c0 s.c s.h i0 n v i p e rd)
theorem a6y {ts:List Tok}{k i deep op:Nat}{acc:List Nd}{t:Tok}(h:ts[i]?=some t):Z4 ts (k+1) i deep op acc=bcase (decide (t.k=4)) (a9F i deep op acc) (bcase (decide (t.k=1)) (bcase (decide (deep=0)) (.er t.p 4) (.ok acc (i+1))) (bcase (decide (t.k=0)) (bcase (decide (deep=200)) (.er t.p 6) (match Z4 ts k (i+1) (deep+1) t.p []with|.er p e=>.er p e|.ok l j=>Z4 ts k j deep op (acc++[.mk 0 t.p [] l]))) (Z4 ts k (i+1) deep op (acc++[.mk t.k t.p t.t []])))):=by show(match ts[i]? with|none=>_|some t=>_)=_;rw[h];rfl
section
variable {tu:Sl}{ts:List Tok}{c0:Nat}{h0:Trie VObj}{i0:Nat}
theorem n65 (hn:ts.length<90000)(htx:∀t∈ts,t.t.length<90000)(hG:K9 3 c0 h0 tu (ts.flatMap b2A))(K)(hP:∀j,j<K->d0G tu ts j)(m deep op)(hde:deep<201):∀(k e i) (c) (h) (u) (rows) (xs) (r w),k<=K->ts.length-i<k->i<=ts.length->i0<=i->rows.length<=i->TI c0 h0 c h u rows->r6 xs 73=.int .i64 (.ofNat i)->r6 xs 70=.slice u.a u.n u.e->d8 (go (I9 (c6Z i7 NN (j0 r7 (m+K)) (.slice tu.a tu.n tu.e) (.int .i64 (.ofNat deep)) (.pointer (some ⟨c0,0,some 0⟩))) (k+e) xs) ⟨c,h,r,w⟩) (e6f c0 h0 i0 ts.length deep op (Z4 ts k i deep op (rows.map (·.1)))):=by
 intro k;induction k with
  |zero=>intro e i c h u rows xs r w hkK hk;omega|succ k ih=>
   intro e i c h u rows xs r w hkK hk hi hi0 hr H h1 h2;rw[wm k 1 e,N7];have htn:tu.n=ts.length:=by have:=hG.1;rw[b6j]at this;omega
   cases ht:ts[i]? with
    |none=>
     have hge:=uK.1 ht;have e0:decide (i<tu.n)=false:=xO zy;have eS:Z4 ts (k+1) i deep op (rows.map (·.1))=a9F i deep op (rows.map (·.1)):=by show(match ts[i]? with|none=>_|some t=>_)=_;rw[ht]
     rw[eS];simp(disch:=try exact dz)only[b2R,h1,h2,dL,e0,↓gP,gY];exact d8.done (Or.inl ⟨_,u,rows,i,rfl,rfl,rfl,H,hr,hi,hi0,rfl⟩)|some t=>
     have hlt:=(xQ.1 ht).1;have e0:decide (i<tu.n)=true:=xL zy;rw[a6y ht];obtain⟨ab,g,cs,b1,b2,b3,b4,b5,b6⟩:=hG.at (f:=b2A) (λ_=>rfl) zv ht;have t0:=b6 0 _ rfl;rw[wV]at t0;have le:=H.le;have b7:ab<c:=zy;have b8:=(H.fr ab b1).trans b3;have b9:ab≠c:=zy;have hinc:=B8 i zy;have b5':j8 g (z7 cs (i*3)) 3=some [.int .i64 (.ofNat t.k),.int .i64 (.ofNat t.p),.string ⟨⟨t.t⟩⟩]:=b5;have htl:=htx t (we ht);have bx:=H.bx;have c1:c0<c:=zy;have c2:c0≠c:=zy;cases q4:decide (t.k=4)with
      |true=>simp(disch:=try exact dz)only[b2R,h1,h2,dL,di,e0,b4,b8,t0,q4,↓gP,gY,gT];exact d8.done (Or.inl ⟨_,u,rows,i,rfl,rfl,rfl,H,hr,hi,hi0,rfl⟩)|false=>
       rw[m7];cases q1:decide (t.k=1)with
        |true=>rw[o9];cases qd:decide (deep=0)with|true=>simp(disch:=try exact dz)only[b2R,h1,h2,dL,di,e0,b4,b8,t0,b5',q4,q1,qd,bx,z4,↓gP,gY,gT];refine d8.done (Or.inr ⟨_,⟨none,0,0⟩,0,t.p,4,rfl,d9 _ _ _,zc,λj hj=>?_,rfl,rfl,rfl,rfl,zv⟩);have k1:j≠c:=zy;have k2:j≠c0:=zy;simp(disch:=first|assumption|omega)only[c9];exact H.fr j hj|false=>simp(disch:=try exact dz)only[b2R,h1,h2,dL,di,e0,b4,b8,t0,b5',q4,q1,qd,hinc,bx,z4,↓gP,gY,gT];refine d8.done (Or.inr ⟨_,u,i+1,0,0,rfl,d9 _ _ _,zc,λj hj=>?_,(H.fin zy).mono λj k=>⟨⟨k.1,by have:=k.2;dsimp only;omega⟩,?_⟩,rfl,rfl,rfl,zy,hlt⟩);have k1:j≠c:=zy;have k2:j≠c0:=zy;simp(disch:=first|assumption|omega)only[c9];exact H.fr j hj;have k3:=k.1;have k4:=k.2;have k1:j≠c:=zy;have k2:j≠c0:=zy;simp(disch:=first|assumption|omega)only[c9]
        |false=>
         rw[m7];cases q0:decide (t.k=0)with
          |true=>
           rw[o9];cases qd:decide (deep=200)with
            |true=>simp(disch:=try exact dz)only[b2R,h1,h2,dL,di,e0,b4,b8,t0,b5',q4,q1,q0,qd,bx,z4,↓gP,gY,gT];refine d8.done (Or.inr ⟨_,⟨none,0,0⟩,0,t.p,6,rfl,d9 _ _ _,zc,λj hj=>?_,rfl,rfl,rfl,rfl,zv⟩);have k1:j≠c:=zy;have k2:j≠c0:=zy;simp(disch:=first|assumption|omega)only[c9];exact H.fr j hj|false=>
             have hdi:=B8 deep zy;have qd':=vp qd;simp(disch:=try exact dz)only[b2R,h1,h2,dL,di,e0,b4,b8,t0,b5',q4,q1,q0,qd,hinc,hdi,↓gP,gY,gT];have hb:∀j,j<c->(V.O2 (V.O2 h c (.cells [(.int .i64 (.ofNat 0),0),(.int .i64 (.ofNat 0),0),(.string ⟨⟨[]⟩⟩,0)] 0 false)) c (.cells [(.int .i64 (.ofNat t.k),0),(.int .i64 (.ofNat t.p),0),(.string ⟨⟨t.t⟩⟩,0)] 0 false)).get j=h.get j:=λj hj=>by have k1:j≠c:=zy;simp(disch:=first|assumption|omega)only[c9]
             have hG2:K9 3 (c+1) (V.O2 (V.O2 h c (.cells [(.int .i64 (.ofNat 0),0),(.int .i64 (.ofNat 0),0),(.string ⟨⟨[]⟩⟩,0)] 0 false)) c (.cells [(.int .i64 (.ofNat t.k),0),(.int .i64 (.ofNat t.p),0),(.string ⟨⟨t.t⟩⟩,0)] 0 false)) tu (ts.flatMap b2A):=hG.mono zy λj k _=>(hb j zy).trans (H.fr j k);have hcall:=hP k zy (m+(K-(k+1))) (i+1) (deep+1) t.p (c+1) (V.O2 (V.O2 h c (.cells [(.int .i64 (.ofNat 0),0),(.int .i64 (.ofNat 0),0),(.string ⟨⟨[]⟩⟩,0)] 0 false)) c (.cells [(.int .i64 (.ofNat t.k),0),(.int .i64 (.ofNat t.p),0),(.string ⟨⟨t.t⟩⟩,0)] 0 false)) (c::c::c::ab::ab::r) (c::c::w) hG2 zy hlt zy;have eK:m+(K-(k+1))+k+1=m+K:=zy;rw[eK]at hcall;refine d8.bindC hcall λx s hq=>?_;obtain⟨c',h',r',w'⟩:=s;obtain⟨g1,g2,v,i2,p2,e2,rfl,hR⟩:=hq;have g1:c+1<=c':=g1;have g2:∀j,j<c+1->h'.get j=(V.O2 (V.O2 h c (.cells [(.int .i64 (.ofNat 0),0),(.int .i64 (.ofNat 0),0),(.string ⟨⟨[]⟩⟩,0)] 0 false)) c (.cells [(.int .i64 (.ofNat t.k),0),(.int .i64 (.ofNat t.p),0),(.string ⟨⟨t.t⟩⟩,0)] 0 false)).get j:=g2;have hs:∀j,j<c->h'.get j=h.get j:=λj hj=>(g2 j zy).trans (hb j hj);have hbc:=g2 c (xG c);rw[d9]at hbc;have bx':=(hs c0 c1).trans bx;have k4:c0≠c':=zy;have k5:c≠c':=zy;have k6:c<c':=zy;have k7:c0<c':=zy;cases q7:Z4 ts k (i+1) (deep+1) t.p []with
              |er p' e'=>rw[q7]at hR;obtain⟨rfl,rfl,rfl,rfl,hne⟩:=hR;have q8:decide (e2=0)=false:=xO hne;simp(disch:=try exact dz)only[di,q8,bx',z4,↓gP,gY,gT];refine d8.done (Or.inr ⟨_,⟨none,0,0⟩,0,p2,e2,rfl,d9 _ _ _,zc,λj hj=>?_,rfl,rfl,rfl,rfl,hne⟩);have k1:j≠c':=zy;have k2:j≠c0:=zy;simp(disch:=first|assumption|omega)only[c9];exact(hs j zy).trans (H.fr j hj)|ok l j2=>
               rw[q7]at hR;obtain⟨hN,rfl,rfl,rfl,j3,j4⟩:=hR;have hN:NdL (λb=>c+1<b/\b<c') h' v l:=hN;simp(disch:=try exact dz)only[hbc,↓gP,gY,gT];refine TI.app (x:=.mk 0 t.p [] l) (v:=v) ((H.to (c':=c') zy hs).to (c':=c'+1+1) zy λj hj=>?_) zy (hN.mono λj k=>⟨⟨by have:=k.1;omega,by have:=k.2;omega,λho=>by have:=H.g.own_lt ho;have:=k.1;omega⟩,?_⟩) (by show 0<90000;omega) (xG _) (d9 _ _ _) λu' c3 h3 r3 w3 hc3 hs3 H3=>?_;have k1:j≠c':=zy;have k2:j≠c'+1:=zy;simp(disch:=first|assumption|omega)only[c9];have k3:=k.2;have k1:j≠c':=zy;have k2:j≠c'+1:=zy;simp(disch:=first|assumption|omega)only[c9];have hno:∀j,c<=j->¬u.own j:=λj k ho=>by have:=H.g.own_lt ho;omega
               have hb3:=hs3 c' zy (hno _ zy);have k8:c'≠c'+1:=zy;simp(disch:=first|assumption|omega)only[c9,d9]at hb3;have k9:c'<c3:=zy;simp(disch:=try exact dz)only[hb3,↓gP,gY];have hfin:=ih e i2 c3 h3 u' (rows++[(.mk 0 t.p [] l,v)]);rw[wJ]at hfin;refine hfin _ _ _ zy zy j4 zy zo H3 ?_ ?_;rfl;rfl
          |false=>simp(disch:=try exact dz)only[b2R,h1,h2,dL,di,e0,b4,b8,t0,b5',q4,q1,q0,hinc,↓gP,gY,gT];refine TI.app (x:=.mk t.k t.p t.t []) (v:=⟨none,0,0⟩) (H.to (c':=c+1+1) zy λj hj=>?_) zy .nil htl (xG _) (d9 _ _ _) λu' c3 h3 r3 w3 hc3 hs3 H3=>?_;have k1:j≠c:=zy;have k2:j≠c+1:=zy;simp(disch:=first|assumption|omega)only[c9];simp(disch:=try exact dz)only[↓gP,gY];have hfin:=ih e (i+1) c3 h3 u' (rows++[(.mk t.k t.p t.t [],⟨none,0,0⟩)]);rw[wJ]at hfin;refine hfin _ _ _ zy zy zy zy zo H3 ?_ ?_;rfl;rfl
end
end Go.Proofs.YtmomonnlmbljoaaGreatDoor
end
section
namespace Go.Proofs.YtmomonnlmbljoaaGreatDoor
open Go.V Go.RowKit Go.Shelf Go.Proofs
variable {mL:Int}
attribute [local congr] m0 l9 n8 n9 q9 m8 s9 A1 A0
theorem e2T {tu ts}(hn:ts.length<90000)(htx:∀t∈ts,t.t.length<90000):∀B K,K<B->K<=95000->d0G tu ts K:=by
 intro B;induction B with
  |zero=>intro K h;omega|succ B ihB=>
   intro K hK hK9 m i deep op c0 h0 r w hG hk hi hde;have hNN:95001<=NN:=zv;obtain⟨e,hNe⟩:∃e,NN=K+e:=⟨NN-K,zy⟩;rw[e0W];simp(disch:=try exact dz)only[G65,↓gP,gY];have hT0:TI c0 h0 (c0+1) (V.O2 h0 c0 (.cells z4 0 false)) ⟨none,0,0⟩ []:=⟨xR _,λj hj=>c9 zy,d9 _ _ _,K9.nil _ _ _,λj hj=>(by obtain⟨a,h,_⟩:=hj;cases h),λx hx=>(by cases hx)⟩;have hloop:=n65 (i0:=i) hn htx hG K (λj hj=>ihB j zy zy) m deep op hde K e i (c0+1) _ ⟨none,0,0⟩ [] [undef,undef,undef,undef,undef,undef,undef,undef,undef,undef,undef,undef,undef,undef,undef,undef,undef,undef,undef,undef,undef,undef,undef,undef,undef,undef,undef,undef,undef,undef,undef,undef,undef,undef,undef,undef,undef,undef,undef,undef,undef,undef,undef,undef,undef,undef,undef,undef,undef,undef,undef,undef,undef,undef,undef,undef,undef,undef,undef,undef,undef,undef,undef,undef,undef,undef,undef,undef,undef,undef,.slice none 0 0,undef,undef,.int .i64 (.ofNat i)] r (c0::w) (xR _) hk hi (xR _) (wR _) hT0 rfl rfl;rw[<-hNe]at hloop;refine d8.bindJ hloop λy xs' s hq=>?_;obtain⟨c',h',r',w'⟩:=s;rcases hq with⟨xs1,u,rows,i2,e1,e2,e3,H,e4,e5,e6,e7⟩|⟨xs1,v,i2,p,e',e1,e2,e3,e4,e5⟩;cases e1;have le:=H.le;have bx:=H.bx;simp only at le bx;have k1:c0<c':=zy;rw[List.map_nil]at e7;rw[e7];unfold a9F;cases qd:decide (deep=0)with|true=>have q2:decide (0<deep)=false:=xO (by have:=wj qd;omega);simp(disch:=try exact dz)only[e2,e3,dL,q2,bx,z4,a1d,↓gP,gY];refine d8.done ⟨zc,λj hj=>?_,u,i2,0,0,rfl,(H.fin zy).mono λj k=>⟨k,c9 (by have:=k.1;omega)⟩,rfl,rfl,rfl,e6,e5⟩;dsimp only;rw[c9 zy];exact H.fr j hj|false=>have q2:decide (0<deep)=true:=xL (by have:=vp qd;omega);simp(disch:=try exact dz)only[e2,e3,dL,q2,bx,z4,a1d,↓gP,gY];refine d8.done ⟨zc,λj hj=>?_,⟨none,0,0⟩,0,op,3,rfl,rfl,rfl,rfl,rfl,zv⟩;dsimp only;rw[c9 zy];exact H.fr j hj
   cases e1;simp only at e2 e3;have k1:c0<c':=zy;simp(disch:=try exact dz)only[e2,d7O,↓gP,gY];exact d8.done ⟨zc,e4,v,i2,p,e',rfl,e5⟩
theorem e2M (n a):j0 r7 (n+1) 27 [a]=c2I i7 NN (j0 r7 n) a:=O0 (q:=c2I) (N:=NN) zw n a
theorem c6x {T:List UInt8}{a t}(hd:T.drop a=t){q e W}(h:a3M a t=.ok q W e):W.length<=T.length:=by
 have hl:t.length<=T.length:=by rw[<-hd,wM];omega
 cases t with
  |nil=>cases h|cons b t=>
   simp only[xH]at hl;unfold a3M at h;simp only at h;cases q1:decide (b.toNat=40)with
    |true=>rw[q1]at h;cases h;exact wR _|false=>
     rw[q1,m7]at h;cases q2:decide (b.toNat=41)with
      |true=>rw[q2]at h;cases h;exact wR _|false=>
       rw[q2,m7]at h;cases q3:decide (b.toNat=34)with
        |true=>rw[q3,o9]at h;cases q4:decide ((a0a a (t.length+1) t (a+1)).2=0)with|true=>rw[q4]at h;cases h;rw[vV];omega|false=>rw[q4]at h;cases h
        |false=>rw[q3,m7]at h;cases q4:decide (U0 sgN (b::t)=0)with|true=>rw[q4]at h;cases h|false=>rw[q4]at h;cases h;rw[vV,xH];omega
theorem d0e {T}:∀(k a) (l l'),(∀x∈l,x.t.length<=T.length)->a3Z T k a l=.ok l'->∀x∈l',x.t.length<=T.length:=by intro k;induction k with|zero=>intro a l l' _ h;cases h|succ k ih=>intro a l l' hl h;have h':(match T.drop a with|[]=>Lx.ok (l++[(⟨4,T.length,[]⟩:Tok)])|b::t=>match a4Q (b::t)with|none=>.er a 3|some (n+1)=>a3Z T k (a+(n+1)) l|some 0=>match a3M a (b::t)with|.er p e=>.er p e|.ok q W e=>a3Z T k e (l++[(⟨q,a,W⟩:Tok)]))=.ok l':=h;cases hd:T.drop a with|nil=>rw[hd]at h';cases h';intro x hx;rcases wU.1 hx with k1|k1;exact hl x k1;rw[wx]at k1;subst k1;exact wR _|cons b t=>rw[hd]at h';simp only at h';cases q1:a4Q (b::t)with|none=>rw[q1]at h';cases h'|some n=>rw[q1]at h';cases n with|succ n=>exact ih _ _ _ hl h'|zero=>simp only at h';cases q2:a3M a (b::t)with|er p e=>rw[q2]at h';cases h'|ok q W e=>rw[q2]at h';refine ih _ _ _ (λx hx=>?_) h';rcases wU.1 hx with k1|k1;exact hl x k1;rw[wx]at k1;subst k1;exact c6x hd q2
theorem c2b (a x):zs (a++[x])=zs a+x.z:=by induction a with|nil=>show x.z+0=0+x.z;omega|cons y a ih=>show y.z+zs (a++[x])=y.z+zs a+x.z;rw[ih];omega
theorem d2M {ts}:∀(k i deep op) (acc l) (j),Z4 ts k i deep op acc=.ok l j->i<=j/\zs l<=zs acc+4*(j-i):=by
 intro k;induction k with
  |zero=>intro i deep op acc l j h;cases h|succ k ih=>
   intro i deep op acc l j h;have fin:a9F i deep op acc=.ok l j->i<=j/\zs l<=zs acc+4*(j-i):=λh=>by unfold a9F at h;cases q:decide (deep=0)with|true=>rw[q]at h;cases h;exact⟨xR _,zy⟩|false=>rw[q]at h;cases h
   cases ht:ts[i]? with
    |none=>have h':(match ts[i]? with|none=>a9F i deep op acc|some t=>_)=Rd.ok l j:=h;rw[ht]at h';exact fin h'|some t=>
     rw[a6y ht]at h;cases q4:decide (t.k=4)with
      |true=>rw[q4]at h;exact fin h|false=>
       rw[q4,m7]at h;cases q1:decide (t.k=1)with
        |true=>rw[q1,o9]at h;cases qd:decide (deep=0)with|true=>rw[qd]at h;cases h|false=>rw[qd]at h;cases h;exact⟨wy _,zy⟩
        |false=>
         rw[q1,m7]at h;cases q0:decide (t.k=0)with
          |true=>rw[q0,o9]at h;cases qd:decide (deep=200)with|true=>rw[qd]at h;cases h|false=>rw[qd,m7]at h;cases e:Z4 ts k (i+1) (deep+1) t.p []with|er p e'=>rw[e]at h;cases h|ok l1 j1=>rw[e]at h;obtain⟨a1,a2⟩:=ih _ _ _ _ _ _ e;obtain⟨b1,b2⟩:=ih _ _ _ _ _ _ h;rw[c2b]at b2;have hz:=a6x (.mk 0 t.p [] l1);have e1:zs (Nd.mk 0 t.p [] l1).l=zs l1:=rfl;have e2:zs ([]:List Nd)=0:=rfl;exact⟨zy,zy⟩
          |false=>rw[q0,m7]at h;obtain⟨b1,b2⟩:=ih _ _ _ _ _ _ h;rw[c2b]at b2;have hz:=a6x (.mk t.k t.p t.t []);have e1:zs (Nd.mk t.k t.p t.t []).l=0:=rfl;exact⟨zy,zy⟩
noncomputable def a4H (T:List UInt8):Rd:=match a3Z T (T.length+1) 0 []with|.er p e=>.er p e|.ok ts=>Z4 ts (ts.length+1) 0 0 0 []
theorem t27 {T}(hT:T.length<89000)(M)(hM:90010<=M)(c0 h0 r w):d8 (go (j0 r7 (M+1) 27 [.string ⟨⟨T⟩⟩]) ⟨c0,h0,r,w⟩) λx s=>c0<=s.c/\(∀i,i<c0->s.h.get i=h0.get i)/\((∃l j v,a4H T=.ok l j/\x=.ret (.tuple ⟨[.slice v.a v.n v.e,.int .i64 (.ofNat 0),.int .i64 (.ofNat 0)]⟩)/\NdL (λb=>c0<=b/\b<s.c) s.h v l/\zs l<=4*(T.length+1))\/(∃p e,a4H T=.er p e/\e≠0/\x=.ret (.tuple ⟨[.slice none 0 0,.int .i64 (.ofNat p),.int .i64 (.ofNat e)]⟩))):=by
 rw[e2M];obtain⟨M3,rfl⟩:∃k,M=k+3:=⟨M-3,zy⟩;simp(disch:=try exact dz)only[G27,↓gP];refine d8.bindC (t64 zy M3 _ _) λx s hq=>?_;obtain⟨c1,h1,r1,w1⟩:=s;obtain⟨f1,f2,⟨ts,u,f3,rfl,H,f4⟩|⟨p,e,f3,f4,rfl⟩⟩:=hq;have f1:c0<=c1:=f1;have htx:∀t∈ts,t.t.length<90000:=λt ht=>by have:=d0e _ _ _ _ (λx hx=>by cases hx) f3 t ht;omega
 have eP:a4H T=Z4 ts (ts.length+1) 0 0 0 []:=by unfold a4H;rw[f3]
 rw[eP];simp(disch:=try exact dz)only[↓gP,gY,gT];have hcall:=e2T (tu:=u) zy htx (ts.length+2) (ts.length+1) zy zy (M3+3-(ts.length+1+1)) 0 0 0 c1 h1 r1 w1 H.g zy (wR _) zv;have eM:M3+3-(ts.length+1+1)+(ts.length+1)+1=M3+3:=zy;rw[eM]at hcall;refine d8.bindC hcall λx s hq=>?_;obtain⟨c2,h2,r2,w2⟩:=s;obtain⟨g1,g2,v,i2,p2,e2,rfl,hR⟩:=hq;have g1:c1<=c2:=g1;simp(disch:=try exact dz)only[G27,↓gP,gY];refine d8.done ⟨zc,λj hj=>?_,?_⟩;have k1:j≠c2:=zy;simp(disch:=first|assumption|omega)only[c9];exact(g2 j zy).trans (f2 j hj);cases q7:Z4 ts (ts.length+1) 0 0 0 []with|er p' e'=>rw[q7]at hR;obtain⟨rfl,rfl,rfl,rfl,hne⟩:=hR;exact Or.inr ⟨p2,e2,rfl,hne,rfl⟩|ok l j=>rw[q7]at hR;obtain⟨hN,rfl,rfl,rfl,_,hj⟩:=hR;obtain⟨_,hz⟩:=d2M _ _ _ _ _ _ _ q7;have e0:zs ([]:List Nd)=0:=rfl;refine Or.inl ⟨l,i2,v,rfl,rfl,hN.mono λb k=>⟨⟨by have:=k.1;omega,by have:=k.2;dsimp only at this⊢;omega⟩,?_⟩,zy⟩;have k3:=k.2;dsimp only at k3;have k1:b≠c2:=zy;simp(disch:=first|assumption|omega)only[c9]
 have q8:decide (e=0)=false:=xO f4;simp(disch:=try exact dz)only[di,q8,↓gP,gY,gT];refine d8.done ⟨f1,f2,Or.inr ⟨p,e,?_,f4,rfl⟩⟩;unfold a4H;rw[f3]
end Go.Proofs.YtmomonnlmbljoaaGreatDoor
end
section
namespace Go.Proofs.YtmomonnlmbljoaaGreatDoor
open Go.V Go.RowKit Go.Shelf Go.Proofs
variable {mL:Int}
attribute [local congr] m0 l9 n8 n9 q9 m8 s9 A1 A0
theorem d1s (n a):j0 r7 (n+1) 30 [a]=c2P i7 NN (j0 r7 n) a:=O0 (q:=c2P) (N:=NN) zw n a
theorem d1X (b c1 r1 w1 r2 w2)(h1:L9 w1 [b]=true)(h2:L9 [c1] [b]=true)(h3:L9 w2 [b]=true):V5 [(0,1),(0,2),(1,2),(0,3),(0,4),(0,5),(0,6),(1,6),(2,6),(3,6),(4,6),(5,6),(0,7),(1,7),(2,7),(3,7),(4,7),(5,7),(6,7),(0,8),(1,8),(2,8),(3,8),(4,8),(5,8),(0,9),(1,9),(2,9),(3,9),(4,9),(5,9),(0,10),(1,10),(2,10),(3,10),(4,10),(5,10),(0,11),(1,11),(2,11),(3,11),(4,11),(5,11),(6,11),(7,11),(8,11),(9,11),(10,11),(0,12),(1,12),(2,12),(3,12),(4,12),(5,12),(6,12),(7,12),(8,12),(9,12),(10,12),(11,12),(0,13),(1,13),(2,13),(3,13),(4,13),(5,13),(6,13),(7,13),(8,13),(9,13),(10,13),(0,14),(1,14),(2,14),(3,14),(4,14),(5,14),(6,14),(7,14),(8,14),(9,14),(10,14),(0,15),(1,15),(2,15),(3,15),(4,15),(5,15),(6,15),(7,15),(8,15),(9,15),(10,15),(0,16),(1,16),(2,16),(3,16),(4,16),(5,16),(6,16),(7,16),(8,16),(9,16),(10,16),(11,16),(12,16),(13,16),(14,16),(15,16),(0,17),(1,17),(2,17),(3,17),(4,17),(5,17),(6,17),(7,17),(8,17),(9,17),(10,17),(11,17),(12,17),(13,17),(14,17),(15,17),(16,17),(0,18),(1,18),(2,18),(3,18),(4,18),(5,18),(6,18),(7,18),(8,18),(9,18),(10,18),(11,18),(12,18),(13,18),(14,18),(15,18),(0,19),(1,19),(2,19),(3,19),(4,19),(5,19),(6,19),(7,19),(8,19),(9,19),(10,19),(11,19),(12,19),(13,19),(14,19),(15,19),(0,20),(1,20),(2,20),(3,20),(4,20),(5,20),(6,20),(7,20),(8,20),(9,20),(10,20),(11,20),(12,20),(13,20),(14,20),(15,20),(0,21),(1,21),(2,21),(3,21),(4,21),(5,21),(6,21),(7,21),(8,21),(9,21),(10,21),(11,21),(12,21),(13,21),(14,21),(15,21),(0,22),(0,23)] [([],[]),([],[]),([],[]),([],[]),([],[]),([b],[]),([],[]),([],[]),([],[]),([],[]),([b],[]),([],[]),([],[]),([],[]),([],[]),([b],[]),([],[]),([],[]),([],[]),([],[]),([b],[]),(r1,w1),([],[]),([],[c1]),(r2,w2),([],[])]=true:=by simp only[a3g,a4f,E8,E6,a4E,a2e,J4,h1,a8K]
structure CI (c0:Nat) (h0:Trie VObj) (c:Nat) (h:Trie VObj) (u:Sl) (rows:List (Nd×Sl)) (w0 w:List Nat):Prop where
 le:c0≤c
 fr:∀ i,i<c0→h.get i=h0.get i
 g:K9 4 c h u (rows.flatMap b0o)
 o:∀ i,u.own i→c0≤i
 nd:∀ x∈rows,NdL (fun i=>c0≤i∧i<c∧¬ u.own i) h x.2 x.1.l∧x.1.t.length<90000
 w:∀ i∈w,i∈w0∨c0≤i
section
variable {U:Nat->Prop}{lv:Sl}{l:List Nd}{c0:Nat}{h0:Trie VObj}
def e4V (c0:Nat)(h0:Trie VObj)(l:List Nd)(w0:List Nat)(x:CR)(s:V.S):Prop:=c0<=s.c/\(∀i,i<c0->s.h.get i=h0.get i)/\(∀i∈s.w,i∈w0\/c0<=i)/\∃v,x=.ret (.slice v.a v.n v.e)/\NdL (λb=>c0<=b/\b<s.c) s.h v l
def c5o (n:Nat):Prop:=∀(m:Nat) (U:Nat->Prop) (lv:Sl) (l:List Nd) (c0:Nat) (h0:Trie VObj) (r w:List Nat),NdL U h0 lv l->(∀i,U i->i<c0)->zs l<=n->d8 (go (j0 r7 (m+n+1) 30 [.slice lv.a lv.n lv.e]) ⟨c0,h0,r,w⟩) (e4V c0 h0 l w)
theorem n30 {n}(hC:c5o n)(hn:NdL U h0 lv l)(hU:∀i,U i->i<c0)(hz:zs l<=n+1)(m w0):∀(k e i) (c) (h) (u) (rows) (xs) (r w),l.length=i+k->rows.map (·.1)=l.take i->CI c0 h0 c h u rows w0 w->r6 xs 32=.int .i64 (.ofNat i)->r6 xs 29=.slice u.a u.n u.e->d8 (go (I9 (d1G i7 NN (j0 r7 (m+n+1)) (.slice lv.a lv.n lv.e)) (k+1+e) xs) ⟨c,h,r,w⟩) λy s=>∃xs' u rows,y=(.exit 0,xs')/\r6 xs' 29=.slice u.a u.n u.e/\rows.map (·.1)=l/\CI c0 h0 s.c s.h u rows w0 s.w:=by
 intro k;induction k with
  |zero=>intro e i c h u rows xs r w hk hr H h1 h2;rw[wm 0 1 e,N7];have hlen:=hn.len.1;obtain⟨la,ln,le⟩:=lv;simp only at hlen;subst hlen;have e0:decide (i<l.length)=false:=xO zy;simp(disch:=try exact dz)only[d0v,h1,h2,dL,e0,↓gP,gY];exact d8.done ⟨_,u,rows,rfl,rfl,by rw[hr,uz zy],H⟩|succ k ih=>
   intro e i c h u rows xs r w hk hr H h1 h2;rw[wm (k+1) 1 e,N7];have hlt:i<l.length:=zy;obtain⟨y,hy⟩:∃y,l[i]?=some y:=⟨_,xP hlt⟩;obtain⟨b,p,g,cs,cur,ro,nl,hb,hg,hNn,hT,e1,e2,e3,e4,e5,e6⟩:=hn.get hy;have hlen:=hn.len.1;have hll:=hn.len.2;obtain⟨la,ln,le⟩:=lv;simp only at hlen e1;subst hlen;have b1:=hU b hb;have b2:=(H.fr b b1).trans hg;have cle:=H.le;have b3:b<c:=zy;have hinc:=B8 i zy;have e0:decide (i<l.length)=true:=xL hlt;simp(disch:=try exact dz)only[d0v,h1,h2,dL,e0,e1,b2,e3,e4,e5,e6,↓gP,gY];have hm:=b8V hy;have hzy:=a6x y;refine d8.footS (d8.bindC (hC m (λi=>i<c0) nl y.l c h [] [] (hNn.mono λi k=>⟨hU i k,H.fr i (hU i k)⟩) (λi k=>zy) zy) (λx s hq=>?_) (Q:=λa s=>∃v,a=.slice v.a v.n v.e/\c<=s.c/\(∀i,i<c->s.h.get i=h.get i)/\(∀i∈s.w,c<=i)/\NdL (λb=>c<=b/\b<s.c) s.h v y.l)) λa s hq=>?_;obtain⟨q1,q2,q3,v,rfl,q4⟩:=hq;exact d8.done ⟨v,rfl,q1,q2,λi hi=>(q3 i hi).resolve_left (by intro h;cases h),q4⟩;obtain⟨c',h',r',w'⟩:=s;obtain⟨v,rfl,q1,q2,q3,q4⟩:=hq;have q1:c<=c':=q1;have hnn:=H.g.1;rw[b5y]at hnn;have hrl:rows.length=i:=by have:=xC List.length hr;rw[xF,vV]at this;omega
   simp(disch:=try exact dz)only[↓gP,gY];refine d8.footS (a0V (x:=⟨some ⟨c',0,some 0⟩,1,4⟩) (xs:=b0o (y,v)) d3M zv d2V (H.g.mono (c':=c'+1) (h':=V.O2 h' c' (.cells [(.int .i64 (.ofNat y.k),0),(.int .i64 (.ofNat y.p),0),(.string ⟨⟨y.t⟩⟩,0),(.slice v.a v.n v.e,0)] 0 false)) zy λj k1 k2=>(c9 zy).trans (q2 j k1)) ⟨rfl,Or.inr ⟨c',0,0,_,0,false,rfl,rfl,xG _,d9 _ _ _,rfl⟩⟩ rfl zc [] []) λa s hq=>?_;obtain⟨c2,h2',r2,w2⟩:=s;obtain⟨u',rfl,hn',hg2,hc2,hs2,hown,hww⟩:=hq;have hc2:c'+1<=c2:=hc2;have hft:=(d1X _ _ _ _ _ _ (X6 λi hi hj=>by rw[wx]at hj;subst hj;have:=q3 _ hi;omega) (X6 λi hi hj=>zA) (X6 λi hi hj=>by rw[wx]at hj;subst hj;rcases hww _ hi with k|k|k;cases k;have:=H.o _ k;omega;omega):V5 _ [([],[]),([],[]),([],[]),([],[]),([],[]),([b],[]),([],[]),([],[]),([],[]),([],[]),([b],[]),([],[]),([],[]),([],[]),([],[]),([b],[]),([],[]),([],[]),([],[]),([],[]),([b],[]),(r',w'),([],[]),([],[c']),(r2,w2),([],[])]=true);simp(disch:=try exact dz)only[G30,hinc,↓gP,gY];have ho':∀j,u'.own j->u.own j\/c'+1<=j:=λj hj=>by rcases wK j (c'+1)with k1|k1;exact Or.inl (hown j k1 hj);exact Or.inr k1
   have hso:∀j,j<c'+1->¬u.own j->j≠c'->h2'.get j=h'.get j:=λj k1 k2 k3=>(hs2 j k1 k2).trans (c9 k3);have huc:∀j,u.own j->j<c:=λj hj=>H.g.own_lt hj;have key:∀j,(c0<=j/\j<c/\¬u.own j)->(c0<=j/\j<c2/\¬u'.own j)/\h2'.get j=h.get j:=λj kk=>⟨⟨kk.1,by have:=kk.2.1;omega,λho=>by rcases ho' j ho with k1|k1;exact kk.2.2 k1;have:=kk.2.1;omega⟩,(hso j (by have:=kk.2.1;omega) kk.2.2 (by have:=kk.2.1;omega)).trans (q2 j kk.2.1)⟩;have H2:CI c0 h0 c2 h2' u' (rows++[(y,v)]) w0 (m9 w2 (c'::m9 w' w)):=by refine⟨zy,λj hj=>?_,?_,λj hj=>?_,λz hz=>?_,λj hj=>?_⟩;exact(hso j zy (λho=>by have:=H.o j ho;omega) zy).trans ((q2 j zy).trans (H.fr j hj));rw[vv,vA];exact hg2;rcases ho' j hj with k1|k1;exact H.o j k1;omega;rcases wU.1 hz with k1|k1;exact⟨(H.nd z k1).1.mono key,(H.nd z k1).2⟩;rw[wx]at k1;subst k1;refine⟨q4.mono λj kk=>⟨⟨by have:=kk.1;omega,xp,λho=>?_⟩,hso j xp (λho=>by have:=huc j ho;have:=kk.1;omega) xp⟩,hT⟩;rcases ho' j ho with k1|k1;have:=huc j k1;have:=kk.1;omega;have:=kk.2;dsimp only at this;omega;rw[v8,wU,wG,v8,wU]at hj;rcases hj with k1|k1|k1|k1;rcases hww j k1 with k2|k2|k2;cases k2;exact Or.inr (H.o j k2);exact Or.inr zy;exact Or.inr zy;have:=q3 j k1;exact Or.inr zy;exact H.w j k1
   refine ih e (i+1) c2 h2' u' (rows++[(y,v)]) _ _ _ zy ?_ H2 ?_ ?_;rw[wJ,hr,List.take_add_one,hy];rfl;rfl;rfl
theorem d7V:∀n,c5o n:=by
 intro n;induction n with
  |zero=>intro m U lv l c0 h0 r w hn hU hz;cases l with|cons y l=>have h1:zs (y::l)=y.z+zs l:=rfl;have h2:=a6x y;omega|nil=>have hlen:=hn.len.1;obtain⟨la,ln,le⟩:=lv;simp only[wF]at hlen;subst hlen;have e0:decide (0<0)=false:=rfl;have hNe:NN=99999+1:=rfl;rw[d1s];simp(disch:=try exact dz)only[G30,↓gP];rw[hNe,N7];simp(disch:=try exact dz)only[d0v,dL,a1d,↓gP,gY,gT,Nat.reduceAdd,Nat.reduceLT];exact d8.done ⟨xR _,λ_ _=>rfl,λi hi=>Or.inl hi,⟨none,0,0⟩,rfl,.nil⟩
  |succ n ih=>
   intro m U lv l c0 h0 r w hn hU hz;have hll:=hn.len.2;have hNN:90001<=NN:=zv;obtain⟨e,hNe⟩:∃e,NN=l.length+1+e:=⟨NN-(l.length+1),zy⟩;show d8 (go (j0 r7 (m+n+1+1) 30 _) _) _;rw[d1s];simp(disch:=try exact dz)only[G30,↓gP];have hloop:=n30 ih hn hU hz m w l.length e 0 c0 h0 ⟨none,0,0⟩ [] [undef,undef,undef,undef,undef,undef,undef,undef,undef,undef,undef,undef,undef,undef,undef,undef,undef,undef,undef,undef,undef,undef,undef,undef,undef,undef,undef,undef,undef,.slice none 0 0,undef,undef,.int .i64 (.ofNat 0)] r w zy rfl ⟨xR _,λ_ _=>rfl,K9.nil _ _ _,λj hj=>(by obtain⟨a,h,_⟩:=hj;cases h),λx hx=>(by cases hx),λi hi=>Or.inl hi⟩ rfl rfl;rw[<-hNe]at hloop;refine d8.bindJ hloop λy xs' s hq=>?_;obtain⟨c',h',r',w'⟩:=s;obtain⟨xs1,u,rows,f1,f2,f3,H⟩:=hq;cases f1;simp(disch:=try exact dz)only[f2,a1d,↓gP,gY];refine d8.done ⟨H.le,H.fr,H.w,u,rfl,?_⟩;have hrl:rows.length=l.length:=by rw[<-f3,xF]
   have:=H.g.nd (U:=λb=>c0<=b/\b<c') (λi hi=>⟨H.o i hi,H.g.own_lt hi⟩) (λx hx=>⟨(H.nd x hx).1.mono λi k=>⟨⟨k.1,k.2.1⟩,rfl⟩,(H.nd x hx).2⟩) zy;rw[f3]at this;exact this
end
end Go.Proofs.YtmomonnlmbljoaaGreatDoor
end
section
namespace Go.Proofs.YtmomonnlmbljoaaGreatDoor
open Go.V Go.RowKit Go.Shelf Go.Proofs
variable {mL:Int}
def Tok.e (x:Tok):Nat×List UInt8:=(x.k,x.t)
noncomputable def b8n:List UInt8->Bool|[]=>false|b::_=>sgN b.toNat
def Lk (t:List UInt8)(ks:List (Nat×List UInt8)):Prop:=∀(T:List UInt8) (a:Nat),T.drop a=t->∃ts,ts.map Tok.e=ks/\∀k acc,T.length-a<k->a3Z T k a acc=.ok (acc++ts++[(⟨4,T.length,[]⟩:Tok)])
theorem c1n {T t:List UInt8}{b:UInt8}{a:Nat}(hd:T.drop a=b::t)(k:Nat)(l:List Tok):a3Z T (k+1) a l=(match a4Q (b::t)with|none=>.er a 3|some (n+1)=>a3Z T k (a+(n+1)) l|some 0=>match a3M a (b::t)with|.er p e=>.er p e|.ok q W e=>a3Z T k e (l++[⟨q,a,W⟩])):=by show(match T.drop a with|[]=>_|b::t=>_)=_;rw[hd];rfl
theorem Lk.nil:Lk [] []:=by intro T a hd;refine⟨[],rfl,λk acc hk=>?_⟩;obtain⟨k,rfl⟩:∃j,k=j+1:=⟨k-1,zy⟩;show(match T.drop a with|[]=>_|b::t=>_)=_;rw[hd,xJ]
theorem Lk.ws {b t ks}(hb:wsB b.toNat=true)(H:Lk t ks):Lk (b::t) ks:=by
 intro T a hd;obtain⟨d1,d2,d3⟩:=a3I hd;obtain⟨ts,h1,h2⟩:=H T (a+1) d2;refine⟨ts,h1,λk acc hk=>?_⟩;obtain⟨k,rfl⟩:∃j,k=j+1:=⟨k-1,zy⟩;have e:a4Q (b::t)=some 1:=by show bcase (wsB b.toNat) (some 1) _=_;rw[hb];rfl
 rw[c1n hd,e];exact h2 k acc zy
theorem Lk.tok {b t t' ks q n W}(hs:a4Q (b::t)=some 0)(hn:∀a,a3M a (b::t)=.ok q W (a+(n+1)))(ht:t.drop n=t')(H:Lk t' ks):Lk (b::t) ((q,W)::ks):=by
 intro T a hd;obtain⟨d1,d2,d3⟩:=a3I hd;have hd2:T.drop (a+(n+1))=t':=by rw[<-tH,hd,List.drop_succ_cons,ht]
 obtain⟨ts,h1,h2⟩:=H T (a+(n+1)) hd2;refine⟨⟨q,a,W⟩::ts,by rw[vh,h1];rfl,λk acc hk=>?_⟩;obtain⟨k,rfl⟩:∃j,k=j+1:=⟨k-1,zy⟩;rw[c1n hd,hs];simp only;rw[hn];simp only;rw[h2 k _ zy];simp only[wq,wO,wQ]
theorem c4g {b t}(h1:wsB b.toNat=false)(h2:b≠59)(h3:b=40->t.head?≠some 59):a4Q (b::t)=some 0:=by
 show bcase (wsB b.toNat) (some 1) _=_;rw[h1,m7];cases t with
  |nil=>rfl|cons b1 t1=>
   have e1:beqBytes [b,b1] [59,59]=false:=by cases q:beqBytes [b,b1] [59,59]with|false=>rfl|true=>have:=a2Q q;cases this;exact absurd rfl h2
   have e2:beqBytes [b,b1] [40,59]=false:=by cases q:beqBytes [b,b1] [40,59]with|false=>rfl|true=>have:=a2Q q;cases this;exact absurd rfl (h3 rfl)
   show bcase _ _ _=_;rw[e1,e2];rfl
theorem Lk.op {t ks}(h:t.head?≠some 59)(H:Lk t ks):Lk (40::t) ((0,[])::ks):=Lk.tok (n:=0) (c4g rfl zv λ_=>h) (λa=>rfl) (vK) H
theorem Lk.cl {t ks}(H:Lk t ks):Lk (41::t) ((1,[])::ks):=Lk.tok (n:=0) (c4g rfl zv λh=>absurd h zv) (λa=>rfl) (vK) H
theorem c8n:∀(W t),W.all (λb=>sgN b.toNat)=true->b8n t=false->U0 sgN (W++t)=W.length:=by
 intro W;induction W with
  |nil=>intro t _ h;cases t with|nil=>rfl|cons b t=>have h:sgN b.toNat=false:=h;show U0 sgN (b::t)=0;unfold U0;rw[h];rfl
  |cons b W ih=>intro t h1 h2;rw[tt,xM]at h1;show U0 sgN (b::(W++t))=_;unfold U0;rw[h1.1,o9,ih t h1.2 h2];rfl
theorem c4i {b:UInt8}(h:sgN b.toNat=true):wsB b.toNat=false/\b≠59/\b≠40/\decide (b.toNat=40)=false/\decide (b.toNat=41)=false/\decide (b.toNat=34)=false:=by
 have key:∀n,n<256->sgN n=true->wsB n=false/\n≠59/\n≠40/\n≠41/\n≠34:=by have hall:A9 (λn=>!(sgN n)||(!(wsB n)&&(!(Nat.beq n 59)&&(!(Nat.beq n 40)&&(!(Nat.beq n 41)&& !(Nat.beq n 34)))))) (upN 256)=true:=zw;intro n hn hs;have:=(C9 _ _).1 hall n (vd.2 hn);rw[hs]at this;simp only[ut,wZ,xM,vS]at this;obtain⟨a1,a2,a3,a4,a5⟩:=this;exact⟨a1,uU a2,uU a3,uU a4,uU a5⟩
 obtain⟨k1,k2,k3,k4,k5⟩:=key b.toNat (UInt8.toNat_lt b) h;exact⟨k1,λe=>k2 (by rw[e];rfl),λe=>k3 (by rw[e];rfl),xO k3,xO k4,xO k5⟩
theorem Lk.wd {W t ks}(h0:W≠[])(h1:W.all (λb=>sgN b.toNat)=true)(h2:b8n t=false)(H:Lk t ks):Lk (W++t) ((2,W)::ks):=by
 cases W with
  |nil=>exact absurd rfl h0|cons b W=>
   have hs:=c8n (b::W) t h1 h2;have hb:sgN b.toNat=true:=by rw[tt,xM]at h1;exact h1.1
   obtain⟨k1,k2,k3,k4,k5,k6⟩:=c4i hb;have hs':U0 sgN (b::(W++t))=W.length+1:=hs;refine Lk.tok (n:=W.length) (c4g k1 k2 λe=>absurd e k3) (λa=>?_) List.drop_left H;show a3M a (b::(W++t))=_;unfold a3M;have e0:decide (W.length+1=0)=false:=rfl;simp only[k4,k5,k6,m7,hs',e0];have e1:(b::(W++t)).take (W.length+1)=b::W:=by rw[List.take_succ_cons,List.take_left]
   rw[e1]
inductive Sp where
 | w (t:List UInt8)
 | l (xs:List Sp)
mutual
inductive Is:Nd→Sp→Prop
 | w {p:Nat} {t:List UInt8}:Is (.mk 2 p t []) (.w t)
 | l {p:Nat} {ns:List Nd} {xs:List Sp}:IsL ns xs→Is (.mk 0 p [] ns) (.l xs)
inductive IsL:List Nd→List Sp→Prop
 | nil:IsL [] []
 | cons {n:Nd} {x:Sp} {ns:List Nd} {xs:List Sp}:Is n x→IsL ns xs→IsL (n::ns) (x::xs)
end
inductive Bal:Nat→List (Nat×List UInt8)→List Sp→Prop
 | nil {d:Nat}:Bal d [] []
 | w {d:Nat} {W:List UInt8} {ks:List (Nat×List UInt8)} {xs:List Sp}:Bal d ks xs→Bal d ((2,W)::ks) (.w W::xs)
 | l {d:Nat} {k1 k2:List (Nat×List UInt8)} {x1 x2:List Sp}:Bal d k1 x1→Bal (d+1) k2 x2→Bal (d+1) ((0, [])::(k1 ++ (1, [])::k2)) (.l x1::x2)
theorem Bal.app {d k1 k2 x1 x2}(h1:Bal d k1 x1)(h2:Bal d k2 x2):Bal d (k1++k2) (x1++x2):=by induction h1 with|nil=>exact h2|w _ ih=>exact .w (ih h2)|l a b _ ih2=>have:=ih2 h2;rw[wO,wq];exact .l a this
theorem Bal.up {d d' ks xs}(h:Bal d ks xs)(hd:d<=d'):Bal d' ks xs:=by induction h generalizing d' with|nil=>exact .nil|w _ ih=>exact .w (ih hd)|l _ _ ih1 ih2=>obtain⟨e,rfl⟩:∃e,d'=e+1:=⟨d'-1,zy⟩;exact .l (ih1 zy) (ih2 hd)
theorem IsL.app {n1 n2 x1 x2}(h1:IsL n1 x1)(h2:IsL n2 x2):IsL (n1++n2) (x1++x2):=by induction n1 generalizing x1 with|nil=>cases h1;exact h2|cons n ns ih=>cases h1 with|cons a b=>exact .cons a (ih b)
theorem b3G {ts:List Tok}{A B q}(h:ts.map Tok.e=A++q::B):∃t,ts[A.length]?=some t/\t.k=q.1/\t.t=q.2:=by
 have h1:(ts.map Tok.e)[A.length]?=some q:=by rw[h,wo (xR _),Nat.sub_self];rfl
 rw[wc]at h1;cases e:ts[A.length]? with|none=>rw[e]at h1;cases h1|some t=>rw[e]at h1;cases h1;exact⟨t,rfl,rfl,rfl⟩
theorem c8g {ts}:∀{d} {ks} {xs},Bal d ks xs->∀(A B) (deep),ts.map Tok.e=A++(ks++B)->deep+d<=200->∃ns,IsL ns xs/\∀k op acc,ts.length-A.length<k->∃k',ts.length-(A++ks).length<k'/\k'<=k/\Z4 ts k A.length deep op acc=Z4 ts k' (A++ks).length deep op (acc++ns):=by
 intro d ks xs H;induction H with
  |nil=>intro A B deep h hd;exact⟨[],.nil,λk op acc hk=>⟨k,by rw[xJ];exact hk,xR _,by rw[xJ,xJ]⟩⟩| @w d W ks xs _ ih=>intro A B deep h hd;obtain⟨t,h1,h2,h3⟩:=b3G (B:=ks++B) (by rw[h];rfl);have hlt:=(xQ.1 h1).1;obtain⟨ns,g1,g2⟩:=ih (A++[(2,W)]) B deep zd hd;refine⟨.mk 2 t.p W []::ns,.cons .w g1,λk op acc hk=>?_⟩;obtain⟨k,rfl⟩:∃j,k=j+1:=⟨k-1,zy⟩;obtain⟨k',g3,g4,g5⟩:=g2 k op (acc++[.mk 2 t.p W []]) zo;have e1:(A++[(2,W)])++ks=A++(2,W)::ks:=zu;rw[e1]at g3 g5;refine⟨k',g3,zy,?_⟩;have e2:(A++[(2,W)]).length=A.length+1:=zu;rw[e2]at g5;rw[a6y h1];have k2:t.k=2:=h2;have k3:t.t=W:=h3;rw[k2,k3];show Z4 ts k (A.length+1) deep op (acc++[Nd.mk 2 t.p W []])=_;rw[g5];simp only[wq,uR]| @l d k1 k2 x1 x2 _ _ ih1 ih2=>
   intro A B deep h hd;obtain⟨t,h1,h2,h3⟩:=b3G (B:=(k1++(1,[])::k2)++B) (by rw[h];rfl);have hlt:=(xQ.1 h1).1;obtain⟨n1,a1,a2⟩:=ih1 (A++[(0,[])]) ((1,[])::k2++B) (deep+1) zd zy;obtain⟨t',b1,b2,b3⟩:=b3G (ts:=ts) (A:=A++[(0,[])]++k1) (q:=(1,[])) (B:=k2++B) zd;have hlt':=(xQ.1 b1).1;obtain⟨n2,c1,c2⟩:=ih2 (A++[(0,[])]++k1++[(1,[])]) B deep zd hd;refine⟨.mk 0 t.p [] n1::n2,.cons (.l a1) c1,λk op acc hk=>?_⟩;obtain⟨k,rfl⟩:∃j,k=j+1:=⟨k-1,zy⟩;have e2:(A++[(0,[])]).length=A.length+1:=zu;obtain⟨k',g3,g4,g5⟩:=a2 k t.p [] (by rw[e2];omega);obtain⟨k',rfl⟩:∃j,k'=j+1:=⟨k'-1,zy⟩;rw[e2]at g5;have e3:(A++[(0,[])]++k1++[(1,[])]).length=(A++[(0,[])]++k1).length+1:=by simp only[xE,xH,wF]
   obtain⟨k'',g6,g7,g8⟩:=c2 k op (acc++[.mk 0 t.p [] n1]) (by rw[e3];simp at hlt'⊢;omega);have e1:A++[(0,[])]++k1++[(1,[])]++k2=A++(0,[])::(k1++(1,[])::k2):=zu;rw[e1]at g6 g8;refine⟨k'',g6,zy,?_⟩;rw[a6y h1];have j2:t.k=0:=h2;have j3:decide (deep=200)=false:=xO zy;rw[j2,j3];show(match Z4 ts k (A.length+1) (deep+1) t.p []with|.er p e=>Rd.er p e|.ok l j=>Z4 ts k j deep op (acc++[Nd.mk 0 t.p [] l]))=_;rw[g5,a6y b1];have j4:t'.k=1:=b2;have j5:decide (deep+1=0)=false:=rfl;rw[j4,j5];show Z4 ts k ((A++[(0,[])]++k1).length+1) deep op (acc++[Nd.mk 0 t.p [] ([]++n1)])=_;rw[wQ,<-e3,g8];simp only[wq,uR]
theorem c8U {T ks xs}(h1:Lk T ks)(h2:Bal 200 ks xs):∃l j,a4H T=.ok l j/\IsL l xs:=by obtain⟨ts,e1,e2⟩:=h1 T 0 rfl;have e3:=e2 (T.length+1) [] zy;rw[wQ]at e3;obtain⟨ns,g1,g2⟩:=c8g (ts:=ts++[(⟨4,T.length,[]⟩:Tok)]) h2 [] [(4,[])] 0 (by rw[wJ,e1];rfl) zy;obtain⟨k',g3,g4,g5⟩:=g2 ((ts++[(⟨4,T.length,[]⟩:Tok)]).length+1) 0 [] zu;obtain⟨k',rfl⟩:∃j,k'=j+1:=⟨k'-1,zy⟩;obtain⟨t,b1,b2,b3⟩:=b3G (ts:=ts++[(⟨4,T.length,[]⟩:Tok)]) (A:=[]++ks) (q:=(4,[])) (B:=[]) (by rw[wJ,e1];rfl);refine⟨ns,([]++ks).length,?_,g1⟩;unfold a4H;rw[e3];show Z4 _ _ 0 0 0 []=_;have g5':Z4 (ts++[(⟨4,T.length,[]⟩:Tok)]) ((ts++[(⟨4,T.length,[]⟩:Tok)]).length+1) 0 0 0 []=Z4 (ts++[(⟨4,T.length,[]⟩:Tok)]) (k'+1) ([]++ks).length 0 0 ([]++ns):=g5;rw[g5',a6y b1];have j:t.k=4:=b2;rw[j];rfl
end Go.Proofs.YtmomonnlmbljoaaGreatDoor
end
section
namespace Go.Proofs.YtmomonnlmbljoaaGreatDoor
open Go.V Go.RowKit Go.Shelf Go.Proofs
variable {mL:Int}
theorem c5O {u}(h:u<10):Lib.decDigits u=[UInt8.ofNat (48+u)]:=by rw[Lib.decDigits,dif_pos h]
theorem c5a {u}(h:¬u<10):Lib.decDigits u=Lib.decDigits (u/10)++[UInt8.ofNat (48+u%10)]:=by rw[Lib.decDigits,dif_neg h]
theorem c4Q {n:Nat}(h:n<256):(UInt8.ofNat n).toNat=n:=by rw[UInt8.toNat_ofNat'];omega
theorem d8t {d}(h:d<10):dgN (48+d)=some d:=by unfold dgN;have e1:Nat.ble 48 (48+d)=true:=V6 zy;have e2:Nat.ble (48+d) 57=true:=V6 zy;rw[e1,e2];show some (48+d-48)=some d;rw[vi]
theorem c2f:∀(n u),u<n->Lib.decDigits u≠[]/\∀b∈Lib.decDigits u,48<=b.toNat/\b.toNat<=57:=by intro n;induction n with|zero=>intro u h;omega|succ n ih=>intro u hu;by_cases h:u<10;rw[c5O h];refine⟨zu,λb hb=>?_⟩;rw[wx]at hb;subst hb;rw[c4Q zy];omega;rw[c5a h];obtain⟨h1,h2⟩:=ih (u/10) zy;refine⟨zu,λb hb=>?_⟩;rcases wU.1 hb with k|k;exact h2 b k;rw[wx]at k;subst k;rw[c4Q zy];omega
theorem b9T (u):Lib.decDigits u≠[]:=(c2f (u+1) u (xG u)).1
theorem b7Q {u b}(h:b∈Lib.decDigits u):48<=b.toNat/\b.toNat<=57:=(c2f (u+1) u (xG u)).2 b h
theorem e2d {n}(h1:48<=n)(h2:n<=57):sgN n=true:=by have hall:A9 (λn=>!(Nat.ble 48 n&&Nat.ble n 57)||sgN n) (upN 256)=true:=zw;have:=(C9 _ _).1 hall n (vd.2 zy);rw[V6 h1,V6 h2]at this;simpa using this
theorem b1d (u):(Lib.decDigits u).all (λb=>sgN b.toNat)=true:=by rw[uP];intro b hb;obtain⟨h1,h2⟩:=b7Q hb;exact e2d h1 h2
theorem d2D:∀(n u) (l) (bt),u<n->u<18446744073709551616->dig 10 (Lib.decDigits u++l) 0 false bt=dig 10 l u false true:=by
 have step:∀(d m:Nat) (l:List UInt8) (bt:Bool),d<10->m*10+d<18446744073709551616->dig 10 (UInt8.ofNat (48+d)::l) m false bt=dig 10 l (m*10+d) false true:=by
  intro d m l bt hd hm;conv=>lhs;unfold dig
  rw[c4Q zy,d8t hd];have e1:decide (48+d=95)=false:=xO zy;have e2:decide (d<10)=true:=xL hd;have e3:decide (18446744073709551616<=m*10+d)=false:=xO zy;rw[e1,vg,m7];show bcase (decide (d<10)) _ _=_;rw[e2,o9,e3,vX hm];rfl
 intro n;induction n with|zero=>intro u l bt h;omega|succ n ih=>intro u l bt hu h64;by_cases h:u<10;rw[c5O h,uR,step u 0 l bt h zy,vW,wt];rw[c5a h,wq,ih (u/10) _ bt zy zy,uR,step (u%10) (u/10) l true zy zy];have:u/10*10+u%10=u:=zy;rw[this]
theorem d3x (u):b7O (Lib.decDigits u)=false:=by
 unfold b7O;have:beqBytes (Q2 (Lib.decDigits u) 2) [48,120]=false:=by cases q:beqBytes (Q2 (Lib.decDigits u) 2) [48,120]with|false=>rfl|true=>have h:=a2Q q;rw[a0k]at h;have h1:(120:UInt8)∈(Lib.decDigits u).take 2:=zd;have:=(b7Q (List.mem_of_mem_take h1)).2;have e:(120:UInt8).toNat=120:=rfl;omega
 rw[this,vM]
theorem b5r {u}(h:u<18446744073709551616):V9 (Lib.decDigits u)=(u,false,true):=by unfold V9;have:=d2D (u+1) u [] false (xG u) h;rw[xJ]at this;rw[d3x,m7,this];rfl
theorem b4O {u}(h:u<4294967296):a2r (Lib.decDigits u)=(u,0):=by unfold a2r;rw[b5r zy];have e:decide (4294967295<u)=false:=xO zy;show bcase true (bcase (false||decide (4294967295<u)) _ _) _=_;rw[e];rfl
theorem b2T (u):∃b t,Lib.decDigits u=b::t/\48<=b.toNat/\b.toNat<=57:=by cases h:Lib.decDigits u with|nil=>exact absurd h (b9T u)|cons b t=>have:=b7Q (u:=u) (b:=b) zd;exact⟨b,t,rfl,this.1,this.2⟩
theorem a9u (u):b5t (Lib.decDigits u)=true:=by obtain⟨b,t,h,h1,h2⟩:=b2T u;rw[h];show c4E b=true;unfold c4E;have e1:decide (48<=b.toNat)=true:=xL h1;have e2:decide (b.toNat<=57)=true:=xL h2;simp[h1,h2]
theorem c1w (u):Q3 (Lib.decDigits u) [36]=false:=by
 obtain⟨b,t,h,h1,h2⟩:=b2T u;rw[h];unfold Q3;have e:beqBytes (Q2 (b::t) [(36:UInt8)].length) [36]=false:=by
  cases q:beqBytes (Q2 (b::t) [(36:UInt8)].length) [36]with
   |false=>rfl|true=>
    have h:=a2Q q;rw[a0k]at h;have hb:b=36:=by have:=xC (λl=>l.head?) h;simpa using this
    rw[hb]at h1;have e:(36:UInt8).toNat=36:=rfl;omega
 rw[e,vM]
theorem a4p {fs u}(h:u<4294967296):K3 fs (Lib.decDigits u)=(u,0):=by unfold K3;rw[c1w,m7,b4O h]
theorem c1N {L u}(h:u<4294967296):P3 L (Lib.decDigits u)=(u,0):=by unfold P3;rw[c1w,m7,b4O h]
def b4F (w n:Nat):Int:=if n<2^(w-1)then(n:Int)else(n:Int)-2^w
theorem d2n (u):c4A (Lib.decDigits u)=false/\a7h (Lib.decDigits u)=false:=by obtain⟨b,t,h,h1,h2⟩:=b2T u;rw[h];have e1:decide (b.toNat=45)=false:=xO zy;have e2:decide (b.toNat=43)=false:=xO zy;exact⟨by show(decide (b.toNat=45)||decide (b.toNat=43))=false;rw[e1,e2];rfl,e1⟩
theorem c1p {u gr}(h:u<18446744073709551616)(hg:u<=gr):V7 (Lib.decDigits u) gr=(u,0):=by unfold V7 a0p;obtain⟨h1,h2⟩:=d2n u;rw[h1,m7,b5r h,h2];have e:decide (gr<u)=false:=xO zy;show bcase true (bcase (false||bcase false _ (decide (gr<u))) _ (bcase false _ (u,0))) _=_;rw[e];rfl
theorem d2r {m gr k}(h1:1<=m)(hk:k<=64)(hk0:1<=k)(hg:gr=2^k-1)(hm:m<=2^(k-1)):V7 (45::Lib.decDigits m) gr=(2^k-m,0):=by
 have hp:2^k=2*2^(k-1):=by obtain⟨j,rfl⟩:∃j,k=j+1:=⟨k-1,zy⟩;rw[tD,Nat.pow_succ,Nat.mul_comm]
 have h64:(2:Nat)^k<=2^64:=tT zv hk;have h64':(2:Nat)^64=18446744073709551616:=zv;have hpos:1<=2^(k-1):=Nat.one_le_two_pow;unfold V7 a0p;have e1:c4A (45::Lib.decDigits m)=true:=rfl;have e2:a7h (45::Lib.decDigits m)=true:=rfl;have e3:z7 (45::Lib.decDigits m) 1=Lib.decDigits m:=by rw[Q8];rfl
 rw[e1,e2,o9,e3,b5r zy];have e4:decide (gr/2+1<m)=false:=xO zy;show bcase true (bcase (false||bcase true (decide (gr/2+1<m)) _) _ (bcase true (Nat.land (a5T m) gr,0) _)) _=_;rw[e4];show(Nat.land (a5T m) gr,0)=_;have e5:a5T m=18446744073709551616-m:=by unfold a5T;omega
 have e6:Nat.land (a5T m) gr=2^k-m:=by
  show a5T m&&&gr=_;rw[hg,tR,e5];obtain⟨q,hq⟩:∃q,(18446744073709551616:Nat)=2^k*(q+1):=by refine⟨2^(64-k)-1,?_⟩;have:1<=2^(64-k):=Nat.one_le_two_pow;rw[Nat.sub_add_cancel this,<-ui,tL hk]
  have:18446744073709551616-m=(2^k-m)+2^k*q:=by rw[hq,Nat.mul_add];omega
  rw[this,Nat.add_mul_mod_self_left,vX zy]
 rw[e6]
theorem c0a {w N}(hw:w=32\/w=64)(hN:N<2^w):V7 (Lib.itoa (b4F w N)) (2^w-1)=(N,0):=by
 have hw1:1<=w/\w<=64:=zy;have h64:(2:Nat)^w<=2^64:=tT zv hw1.2;have h64':(2:Nat)^64=18446744073709551616:=zv;have hp:2^w=2*2^(w-1):=by obtain⟨j,rfl⟩:∃j,w=j+1:=⟨w-1,zy⟩;rw[tD,Nat.pow_succ,Nat.mul_comm]
 unfold b4F;by_cases h:N<2^(w-1);rw[wT h];have e:Lib.itoa (N:Int)=Lib.decDigits N:=by unfold Lib.itoa;rw[wX zy];simp
 rw[e];exact c1p zy zy;rw[wX h];have e0:((N:Int)-2^w)=-((2^w-N:Nat):Int):=by rw[Int.ofNat_sub zy];push_cast;omega
 have e:Lib.itoa ((N:Int)-2^w)=45::Lib.decDigits (2^w-N):=by rw[e0];unfold Lib.itoa;rw[wT zy];simp
 rw[e,d2r (k:=w) zy hw1.2 hw1.1 rfl zy];have:2^w-(2^w-N)=N:=zy;rw[this]
theorem c6V (z):(Lib.itoa z).all (λb=>sgN b.toNat)=true/\Lib.itoa z≠[]:=by unfold Lib.itoa;by_cases h:z<0;rw[wT h];refine⟨?_,zu⟩;rw[tt,b1d];rfl;rw[wX h];exact⟨b1d _,b9T _⟩
noncomputable def U5 (op:Nat):List UInt8:=match G7 (.ofNat op) D8 with|some r=>r.2.1|none=>[]
def opc (op:Nat):Nat:=if op=28 then 27 else op
noncomputable def Z0 (o:Option Nat)(n:Nat):Bool:=match o with|some m=>Nat.beq m n|none=>false
noncomputable def nmB (r:a1U):Bool:=Z0 (a3r r.2.1) (bcase (Nat.beq r.1 28) 27 r.1)&&(r.2.1.all (λb=>sgN b.toNat)&&(!r.2.1.isEmpty&&(!(b5t r.2.1)&&(!(Q3 r.2.1 [111,102,102,115,101,116,61])&&(!(Q3 r.2.1 [97,108,105,103,110,61])&&(!(a4q r.2.1)&&(!(beqBytes r.2.1 [114,101,115,117,108,116])&&(!(beqBytes r.2.1 [116,121,112,101])&&((a3F r.2.1==Nat.beq r.1 5)&&((isEn r.2.1==Nat.beq r.1 11)&& !(beqBytes r.2.1 [116,104,101,110])))))))))))
theorem d5X:A9 nmB D8=true:=zw
structure NmOk (op:Nat):Prop where
 f:a3r (U5 op)=some (opc op)
 sg:(U5 op).all (fun b=>sgN b.toNat)=true
 ne:U5 op≠[]
 ix:b5t (U5 op)=false
 of:Q3 (U5 op) [111, 102, 102, 115, 101, 116, 61]=false
 al:Q3 (U5 op) [97, 108, 105, 103, 110, 61]=false
 nm:a4q (U5 op)=false
 re:beqBytes (U5 op) [114, 101, 115, 117, 108, 116]=false
 ty:beqBytes (U5 op) [116, 121, 112, 101]=false
 el:a3F (U5 op)=Nat.beq op 5
 en:isEn (U5 op)=Nat.beq op 11
 th:beqBytes (U5 op) [116, 104, 101, 110]=false
theorem b1P {op}(h:B3 (.ofNat op)=true):NmOk op:=by
 unfold B3 at h;cases e:G7 (.ofNat op) D8 with
  |none=>rw[e]at h;cases h|some r=>
   obtain⟨h1,h2⟩:=a1w _ _ _ e;have h3:op=r.1:=ur h2;have h4:=(C9 _ _).1 d5X r h1;have e1:U5 op=r.2.1:=by unfold U5;rw[e]
   unfold nmB at h4;simp only[xM,vS,beq_iff_eq]at h4;obtain⟨a1,a2,a3,a4,a5,a6,a7,a8,a9,a10,a11,a12⟩:=h4;rw[<-e1]at a1 a2 a3 a4 a5 a6 a7 a8 a9 a10 a11 a12;rw[<-h3]at a1 a10 a11;refine⟨?_,a2,λh=>(by rw[h]at a3;cases a3),a4,a5,a6,a7,a8,a9,a10,a11,a12⟩;unfold Z0 at a1;cases e2:a3r (U5 op)with|none=>rw[e2]at a1;cases a1|some m=>rw[e2]at a1;have:m=bcase (Nat.beq op 28) 27 op:=xS a1;rw[this];unfold opc;by_cases h28:op=28;subst h28;rfl;rw[wX h28,Q5 h28];rfl
end Go.Proofs.YtmomonnlmbljoaaGreatDoor
end
