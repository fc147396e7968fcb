import Derived.Test.YtmomonnlmbljoaaGreatDoorRows
import Derived.Test.YtmomonnlmbljoaaGreatDoorGae
import Derived.Test.YtmomonnlmbljoaaGreatDoorGbk
import Derived.Test.YtmomonnlmbljoaaGreatDoorGbl
set_option maxRecDepth 1000000
set_option maxHeartbeats 4000000
set_option linter.unusedVariables false
set_option linter.unusedSimpArgs false
namespace Go.Proofs.YtmomonnlmbljoaaGreatDoor
open Go.V Go.RowKit Go.Shelf Go.Proofs
variable {mL:Int}
section
attribute [local congr] q9 x8 A8 z8 D5 x9 D6 D8 D7
theorem e2N (n a b):o8 A9 (n+1) 62 [a,b]=c8h o9 NN (o8 A9 n) a b:=a0Z (q:=c8h) (N:=NN) zw n a b
theorem e6w (n a b):o8 A9 (n+1) 22 [a,b]=c6M o9 NN (o8 A9 n) a b:=a0Z (q:=c6M) (N:=NN) zw n a b
theorem f0w {c c1 b1 b2 h hh X tv lv tw lw}(H1:Sv c h (X,tv,lv))(H2:Sv c h (X,tw,lw))(hc:c<=c1)(g3:∀i,i<c->hh.get i=h.get i)(k1:Nat.blt b1 c1=true)(k2:Nat.blt b2 c1=true)(g1:hh.get b1=some (.cells [(.int .i64 X.op,0),(.int .i64 X.A,0),(.int .i64 X.B,0),(.int .u64 (.ofNat X.N),0),(.int .i64 X.k,0),(.int .i64 X.v,0),(.int .i64 X.i,0),(tv,0),(lv,0)] 0 false))(g2:hh.get b2=some (.cells [(.int .i64 X.op,0),(.int .i64 X.A,0),(.int .i64 X.B,0),(.int .u64 (.ofNat X.N),0),(.int .i64 X.k,0),(.int .i64 X.v,0),(.int .i64 X.i,0),(tw,0),(lw,0)] 0 false))(hl:X.types.length<1800000)(M):∀(k e i) (xs) (r w),X.types.length=i+k->C8 xs 19=.int .i64 (.ofNat i)->l9 (go (Q5 (d5m o9 NN (o8 A9 M) (.pointer (some ⟨b1,0,some 0⟩)) (.pointer (some ⟨b2,0,some 0⟩))) (k+1+e) xs) ⟨c1,hh,r,w⟩) λy s=>∃xs',y=(.exit 0,xs')/\s.c=c1/\s.h=hh/\s.w=w:=by
 have hlen:=H1.1.len;have hlI:(S.I64 X.types).length=X.types.length:=by unfold S.I64;rw[wK]
 simp only[hlI]at hlen;intro k;induction k with|zero=>intro e i xs r w hk h1;rw[wX 0 1 e,O8];have e0:decide (i<X.types.length)=false:=wy zy;simp(disch:=try exact dz)only[c7X,h1,dL,e0,g1,k1,hlen,↓gP,gY];exact l9.done ⟨_,rfl,rfl,rfl,rfl⟩|succ k ih=>intro e i xs r w hk h1;rw[wX (k+1) 1 e,O8];have hlt:i<X.types.length:=zy;have hget:(S.I64 X.types)[i]?=some (.int .i64 (X.types[i])):=xI;obtain⟨p1,o1,q1,q2,q3⟩:=H1.1.read hc g3 hget;obtain⟨p2,o2,q4,q5,q6⟩:=H2.1.read hc g3 hget;have e0:decide (i<X.types.length)=true:=ww hlt;have hinc:=G9 i zy;simp only at q2 q5;simp(disch:=try exact dz)only[c7X,G62,h1,dL,e0,g1,g2,k1,k2,hlen,q2,q3,q5,q6,hinc,↓gP,gY,gT];exact ih e (i+1) _ _ _ zy rfl
theorem e8f {c c1 b1 b2 h hh X tv lv tw lw}(H1:Sv c h (X,tv,lv))(H2:Sv c h (X,tw,lw))(hc:c<=c1)(g3:∀i,i<c->hh.get i=h.get i)(k1:Nat.blt b1 c1=true)(k2:Nat.blt b2 c1=true)(g1:hh.get b1=some (.cells [(.int .i64 X.op,0),(.int .i64 X.A,0),(.int .i64 X.B,0),(.int .u64 (.ofNat X.N),0),(.int .i64 X.k,0),(.int .i64 X.v,0),(.int .i64 X.i,0),(tv,0),(lv,0)] 0 false))(g2:hh.get b2=some (.cells [(.int .i64 X.op,0),(.int .i64 X.A,0),(.int .i64 X.B,0),(.int .u64 (.ofNat X.N),0),(.int .i64 X.k,0),(.int .i64 X.v,0),(.int .i64 X.i,0),(tw,0),(lw,0)] 0 false))(hl:X.labels.length<1800000)(M):∀(k e i) (xs) (r w),X.labels.length=i+k->C8 xs 19=.int .i64 (.ofNat i)->l9 (go (Q5 (d4Y o9 NN (o8 A9 M) (.pointer (some ⟨b1,0,some 0⟩)) (.pointer (some ⟨b2,0,some 0⟩))) (k+1+e) xs) ⟨c1,hh,r,w⟩) λy s=>∃xs',y=(.exit 2,xs')/\s.c=c1/\s.h=hh/\s.w=w:=by
 have hlen:=H1.2.len;have hlI:(S.I64 X.labels).length=X.labels.length:=by unfold S.I64;rw[wK]
 simp only[hlI]at hlen;intro k;induction k with|zero=>intro e i xs r w hk h1;rw[wX 0 1 e,O8];have e0:decide (i<X.labels.length)=false:=wy zy;simp(disch:=try exact dz)only[c7X,h1,dL,e0,g1,k1,hlen,↓gP,gY];exact l9.done ⟨_,rfl,rfl,rfl,rfl⟩|succ k ih=>intro e i xs r w hk h1;rw[wX (k+1) 1 e,O8];have hlt:i<X.labels.length:=zy;have hget:(S.I64 X.labels)[i]?=some (.int .i64 (X.labels[i])):=xI;obtain⟨p1,o1,q1,q2,q3⟩:=H1.2.read hc g3 hget;obtain⟨p2,o2,q4,q5,q6⟩:=H2.2.read hc g3 hget;have e0:decide (i<X.labels.length)=true:=ww hlt;have hinc:=G9 i zy;simp only at q2 q5;simp(disch:=try exact dz)only[c7X,G62,h1,dL,e0,g1,g2,k1,k2,hlen,q2,q3,q5,q6,hinc,↓gP,gY,gT];exact ih e (i+1) _ _ _ zy rfl
theorem t62 {c h X tv lv tw lw}(H1:Sv c h (X,tv,lv))(H2:Sv c h (X,tw,lw))(ht:X.types.length<1800000)(hl:X.labels.length<1800000)(M r w):l9 (go (o8 A9 (M+1) 62 [S.d8j X tv lv,S.d8j X tw lw]) ⟨c,h,r,w⟩) λx s=>x=.ret (.bool true)/\c<=s.c/\(∀i,i<c->s.h.get i=h.get i)/\∀i∈s.w,i∈w\/c<=i:=by
 rw[e2N];have h1c:M0 P8 (S.a5y (X,tv,lv))=true:=by have:=e1C [(X,tv,lv)] (λx hx=>by rw[wN]at hx;subst hx;exact H1);rwa[vU,List.flatMap_nil,wR]at this
 have h2c:M0 P8 (S.a5y (X,tw,lw))=true:=by have:=e1C [(X,tw,lw)] (λx hx=>by rw[wN]at hx;subst hx;exact H2);rwa[vU,List.flatMap_nil,wR]at this
 have hone1:(M0 P8 (S.a5y (X,tv,lv))&& !(a2A (S.a5y (X,tv,lv))))=true:=by rw[h1c];rfl
 have hone2:(M0 P8 (S.a5y (X,tw,lw))&& !(a2A (S.a5y (X,tw,lw))))=true:=by rw[h2c];rfl
 have hb1:∀r w,go (a7m (S.d8j X tv lv)) ⟨c,h,r,w⟩=some (.pointer (some ⟨c,0,some 0⟩),⟨c+1,V.upd h c (.cells (J7 (λv=>(v,0)) (S.a5y (X,tv,lv))) 0 false),r,c::w⟩):=λr w=>a1n c h r w (S.a5y (X,tv,lv)) hone1;obtain⟨hh,hb2,g1,g2,g3⟩:∃hh,(∀r w,go (a7m (S.d8j X tw lw)) ⟨c+1,V.upd h c (.cells (J7 (λv=>(v,0)) (S.a5y (X,tv,lv))) 0 false),r,w⟩=some (.pointer (some ⟨c+1,0,some 0⟩),⟨c+2,hh,r,(c+1)::w⟩))/\hh.get c=some (.cells [(.int .i64 X.op,0),(.int .i64 X.A,0),(.int .i64 X.B,0),(.int .u64 (.ofNat X.N),0),(.int .i64 X.k,0),(.int .i64 X.v,0),(.int .i64 X.i,0),(tv,0),(lv,0)] 0 false)/\hh.get (c+1)=some (.cells [(.int .i64 X.op,0),(.int .i64 X.A,0),(.int .i64 X.B,0),(.int .u64 (.ofNat X.N),0),(.int .i64 X.k,0),(.int .i64 X.v,0),(.int .i64 X.i,0),(tw,0),(lw,0)] 0 false)/\∀i,i<c->hh.get i=h.get i:=⟨_,λr w=>a1n _ _ r w (S.a5y (X,tw,lw)) hone2,(d9 zy).trans (o7 _ _ _),o7 _ _ _,λi hi=>(d9 zy).trans (d9 zy)⟩;have k1:Nat.blt c (c+2)=true:=L8 zy;have k2:Nat.blt (c+1) (c+2)=true:=L8 zy;have e1:=H1.1.len;have e2:=H1.2.len;have e3:=H2.1.len;have e4:=H2.2.len;simp only at e1 e2 e3 e4;simp(disch:=try exact dz)only[G62,hb1,hb2,g1,g2,k1,k2,S.e1t,e1,e2,e3,e4,↓gP,gY,gT];have hNN:1800001<=NN:=zq;obtain⟨n1,hn1⟩:∃e,NN=X.types.length+1+e:=⟨NN-(X.types.length+1),zy⟩;obtain⟨n2,hn2⟩:∃e,NN=X.labels.length+1+e:=⟨NN-(X.labels.length+1),zy⟩;have lp1:=λxs r w h1=>f0w H1 H2 (show c<=c+2 by omega) g3 k1 k2 g1 g2 ht M X.types.length n1 0 xs r w zy h1;have lp2:=λxs r w h1=>e8f H1 H2 (show c<=c+2 by omega) g3 k1 k2 g1 g2 hl M X.labels.length n2 0 xs r w zy h1;rw[<-hn1]at lp1;rw[<-hn2]at lp2;refine l9.bindJ (lp1 _ _ _ rfl) λy xs' s hq=>?_;obtain⟨xs1,q1,q2,q3,q4⟩:=hq;cases q1;obtain⟨c',h',r',w'⟩:=s;have q2:c'=c+2:=q2;have q3:h'=hh:=q3;have q4:w'=(c+1)::c::w:=q4;subst q2 q3 q4;simp(disch:=try exact dz)only[a3q,↓gP,gY];refine l9.bindJ (lp2 _ _ _ rfl) λy xs' s hq=>?_;obtain⟨xs1,q1,q2,q3,q4⟩:=hq;cases q1;obtain⟨c',h',r'',w'⟩:=s;have q2:c'=c+2:=q2;have q4:w'=(c+1)::c::w:=q4;subst q2 q4;simp(disch:=try exact dz)only[J4,↓gP,gY];refine l9.done ⟨rfl,zV,λi hi=>?_,λi hi=>?_⟩;rw[q3];exact g3 i hi;rcases vG.1 hi with k|hi;exact Or.inr zy;rcases vG.1 hi with k|hi;exact Or.inr zy;exact Or.inl hi
theorem n22 {c0 h0 v u Zs Ws}(H1:S.InsL c0 h0 v Zs)(H2:S.InsL c0 h0 u Ws)(he:Zs.map (·.1)=Ws.map (·.1))(hz:Zs.length<1800000)(hx:∀x∈Zs,x.1.types.length<1800000/\x.1.labels.length<1800000)(M):∀(k e i c) (h) (xs) (r w),Zs.length=i+k->c0<=c->(∀b,b<c0->h.get b=h0.get b)->C8 xs 17=.int .i64 (.ofNat i)->l9 (go (Q5 (d4X o9 NN (o8 A9 (M+1)) v u) (k+1+e) xs) ⟨c,h,r,w⟩) λy s=>∃xs',y=(.exit 0,xs')/\c0<=s.c/\∀b,b<c0->s.h.get b=h0.get b:=by
 have hlen:=H1.len;intro k;induction k with
  |zero=>intro e i c h xs r w hk hc hh h1;rw[wX 0 1 e,O8];have e0:decide (i<Zs.length)=false:=wy zy;simp(disch:=try exact dz)only[d8h,h1,dL,e0,hlen,↓gP,gY];exact l9.done ⟨_,rfl,hc,hh⟩|succ k ih=>
   intro e i c h xs r w hk hc hh h1;rw[wX (k+1) 1 e,O8];have hlt:i<Zs.length:=zy;have hlw:Zs.length=Ws.length:=by have:=wO List.length he;rwa[wK,wK]at this
   obtain⟨z,hzi⟩:∃z,Zs[i]?=some z:=⟨_,wz hlt⟩;obtain⟨y,hyi⟩:∃y,Ws[i]?=some y:=⟨_,wz zy⟩;obtain⟨X,tv,lv⟩:=z;obtain⟨X',tw,lw⟩:=y;have hX:X'=X:=by have h2:=wO (λl=>l[i]?) he;simp only[wE,hzi,hyi]at h2;exact(uJ h2).symm
   subst hX;obtain⟨b1,p1,_,_,_,v1,v2,_,_,_,v3,_⟩:=H1.read hc hh hzi;obtain⟨b2,p2,_,_,_,w1,w2,_,_,_,w3,_⟩:=H2.read hc hh hyi;have s1:Sv c h (X',tv,lv):=Sv.mono (H1.each _ (wG hzi)) hc hh;have s2:Sv c h (X',tw,lw):=Sv.mono (H2.each _ (wG hyi)) hc hh;obtain⟨l1,l2⟩:=hx _ (wG hzi);have e0:decide (i<Zs.length)=true:=ww hlt;have hinc:=G9 i zy;simp only at v3 w3;simp(disch:=try exact dz)only[d8h,G22,h1,dL,e0,hlen,v2,v3,w2,w3,hinc,↓gP,gY];refine l9.footS (l9.bindC (t62 s1 s2 l1 l2 M [] []) (λx s hq=>?_) (Q:=λa s=>a=.bool true/\c<=s.c/\∀b,b<c->s.h.get b=h.get b)) λa s hq=>?_;obtain⟨rfl,q1,q2,_⟩:=hq;exact l9.done ⟨rfl,q1,q2⟩;obtain⟨c2,h2,r2,w2⟩:=s;obtain⟨rfl,q1,q2⟩:=hq;have q1:c<=c2:=q1;simp(disch:=try exact dz)only[↓gP,gY,gT];refine ih e (i+1) c2 h2 _ _ _ zy zy (λb hb=>(q2 b zy).trans (hh b hb)) ?_;rfl
theorem e0R {c h v u Zs Ws}(H1:S.InsL c h v Zs)(H2:S.InsL c h u Ws)(he:Zs.map (·.1)=Ws.map (·.1))(hz:Zs.length<1800000)(hx:∀x∈Zs,x.1.types.length<1800000/\x.1.labels.length<1800000)(M r w):l9 (go (o8 A9 (M+1+1) 22 [v,u]) ⟨c,h,r,w⟩) λx s=>x=.ret (.bool true)/\c<=s.c/\∀b,b<c->s.h.get b=h.get b:=by
 rw[e6w];have l1:=H1.len;have l2:=H2.len;have hlw:Ws.length=Zs.length:=by have:=wO List.length he;rw[wK,wK]at this;exact this.symm
 rw[hlw]at l2;have hNN:1800001<=NN:=zq;obtain⟨n1,hn1⟩:∃e,NN=Zs.length+1+e:=⟨NN-(Zs.length+1),zy⟩;have lp:=λxs r w h1=>n22 H1 H2 he hz hx M Zs.length n1 0 c h xs r w zy (xD _) (λ_ _=>rfl) h1;rw[<-hn1]at lp;simp(disch:=try exact dz)only[G22,l1,l2,↓gP,gY,gT];refine l9.bindJ (lp _ _ _ rfl) λy xs' s hq=>?_;obtain⟨xs1,q1,q2,q3⟩:=hq;cases q1;obtain⟨c',h',r',w'⟩:=s;simp(disch:=try exact dz)only[a3q,↓gP,gY];exact l9.done ⟨rfl,q2,q3⟩
end
section
def SmX (X:AI):Prop:=X.ts.length<1800000/\X.ls.length<1800000
def SmT (T:List AI):Prop:=∀X∈T,SmX X
theorem SmT.nil:SmT []:=λX h=>zZ
theorem SmT.app {T T'}(h:SmT T)(h':SmT T'):SmT (T++T'):=λX hx=>by rcases vN.1 hx with k|k;exact h X k;exact h' X k
theorem SmT.one {X}(h:SmX X):SmT [X]:=λY hy=>by rw[wN]at hy;simp_all
theorem smE (op):SmX (aiE op):=⟨by show 0<_;omega,by show 0<_;omega⟩
theorem e2n (l):l.length<=zs l:=by induction l with|nil=>simp_all|cons x l ih=>have:=a3X x;grind[zs]
theorem b8R {F L l i n X nm nx}(hl:zs l<1800000)(h:a1N F L l i n=.ok X nm nx):SmX X:=by
 have hll:=e2n l;unfold a1N at h;cases ho:a2r n.t with
  |none=>rw[ho]at h;cases h|some op=>
   rw[ho]at h;simp only at h;cases q1:decide (op=27)with
    |true=>rw[q1,C9]at h;split at h;cases h;exact⟨zm,zm⟩;rename_i n1 _;cases q2:Z4 n1.k (a0f n1.l) [114,101,115,117,108,116]with|true=>rw[q2,C9]at h;split at h;cases h;exact⟨zm,zm⟩;cases h|false=>rw[q2,F7]at h;cases h;exact⟨zm,zm⟩
    |false=>rw[q1,F7]at h;cases q3:decide (P9 (.ofNat op)=3)with|true=>rw[q3,C9]at h;split at h;rename_i ks hks;cases h;obtain⟨_,hk⟩:=b1h (L9 L) _ ks hks;rw[vz]at hk;refine⟨zm,?_⟩;grind;cases h|false=>rw[q3,F7]at h;cases hr:b0d F L (a6l op) (P9 (.ofNat op)) l n.p (O0 op (i+1))with|ok R=>rw[hr]at h;cases h;exact⟨zm,zm⟩|er p e=>rw[hr]at h;cases h
section
variable {F:Nat->List (Value×Value)}{B:Nat}
theorem d6i {fold}(hB:B<1800000){l}(hl:zs l<=B)(hf:∀L x T,x.z<=B->fold L x=.ok T->SmT T):∀(K i) (bs) (L) (T T'),SmT T->a2b fold F l K i bs L T=.ok T'->SmT T':=by
 intro K;induction K with
  |zero=>intro i bs L T T' _ h;cases h|succ K ih=>
   intro i bs L T T' hT h;unfold a2b at h;cases hi:l[i]? with
    |none=>rw[hi]at h;grind|some n=>
     rw[hi]at h;simp only at h;have hz:=b6a hi;cases q0:decide (n.k=0)with
      |true=>rw[q0,C9]at h;cases hfo:fold L n with|ok T1=>rw[hfo]at h;exact ih _ _ _ _ _ (hT.app (hf L n T1 zy hfo)) h|er p e=>rw[hfo]at h;cases h
      |false=>
       rw[q0,F7]at h;cases q2:decide (n.k=2)with
        |false=>rw[q2,F7]at h;cases h|true=>
         rw[q2,C9]at h;cases q3:a3f n.t||isEn n.t with
          |true=>
           rw[q3,C9]at h;cases bs with
            |nil=>cases h|cons b bs=>
             simp only at h;cases q4:a3f n.t with
              |true=>rw[q4,C9]at h;cases q5:decide (b.op=4)&& !b.el with|true=>rw[q5,C9]at h;exact ih _ _ _ _ _ (hT.app (.one (smE 5))) h|false=>rw[q5,F7]at h;cases h
              |false=>rw[q4,F7]at h;exact ih _ _ _ _ _ (hT.app (.one (smE 11))) h
          |false=>rw[q3,F7]at h;cases hI:a1N F L l i n with|er p e=>rw[hI]at h;cases h|ok X nm nx=>rw[hI]at h;have hX:=b8R zy hI;simp only at h;cases q4:blkB X.op with|true=>rw[q4,C9]at h;exact ih _ _ _ _ _ (hT.app (.one hX)) h|false=>rw[q4,F7]at h;exact ih _ _ _ _ _ (hT.app (.one hX)) h
theorem d5T {fold}(hf:∀x T,x.z<=B->fold x=.ok T->SmT T):∀(l) (T T'),zs l<=B->SmT T->a3r fold l T=.ok T'->SmT T':=by intro l;induction l with|nil=>intro T T' _ hT h;cases h;exact hT|cons y l ih=>intro T T' hl hT h;have hl:y.z+zs l<=B:=hl;unfold a3r at h;cases q0:decide (y.k=0)with|false=>rw[q0,F7]at h;cases h|true=>rw[q0,C9]at h;cases hfo:fold y with|ok T1=>rw[hfo]at h;exact ih _ _ zy (hT.app (hf y T1 zy hfo)) h|er p e=>rw[hfo]at h;cases h
theorem c5A (l):zs l.tail<=zs l:=by cases l<;>simp_all[zs]
theorem d2g {row}(hr:∀l T,zs l<=B->row l=.ok T->SmT T){T T' ys}(hy:zs ys<=B)(hT:SmT T)(h:b2a row T ys=.ok T'):SmT T':=by cases ys with|nil=>cases h;exact hT.app (.one (smE 11))|cons z ys=>have hy:z.z+zs ys<=B:=hy;have hz:=a3X z;have ht:=c5A z.l;rw[a5o]at h;cases q:Z4 z.k (a0f z.l) [101,108,115,101]with|false=>rw[q,F7]at h;cases h|true=>rw[q,C9]at h;cases hro:row z.l.tail with|er p e=>rw[hro]at h;cases h|ok T2=>rw[hro]at h;cases ys with|nil=>cases h;exact((hT.app (.one (smE 5))).app (hr _ _ zy hro)).app (.one (smE 11))|cons u ys=>cases h
theorem e1X {fold row q X}(hX:SmX X)(hf:∀x T,x.z<=B->fold x=.ok T->SmT T)(hr:∀l T,zs l<=B->row l=.ok T->SmT T):∀(l) (T T'),zs l<=B->SmT T->ifS fold row q X l T=.ok T'->SmT T':=by
 intro l;induction l with
  |nil=>intro T T' _ hT h;cases h|cons y l ih=>
   intro T T' hl hT h;have hl:y.z+zs l<=B:=hl;have hz:=a3X y;have ht:=c5A y.l;unfold ifS at h;cases q0:Z4 y.k (a0f y.l) [116,104,101,110]with
    |true=>rw[q0,C9]at h;cases hro:row y.l.tail with|er p e=>rw[hro]at h;cases h|ok T1=>rw[hro]at h;exact d2g hr zy ((hT.app (.one hX)).app (hr _ _ zy hro)) h
    |false=>rw[q0,F7]at h;cases q1:decide (y.k=0)with|false=>rw[q1,F7]at h;cases h|true=>rw[q1,C9]at h;cases hfo:fold y with|ok T1=>rw[hfo]at h;exact ih _ _ zy (hT.app (hf y T1 zy hfo)) h|er p e=>rw[hfo]at h;cases h
theorem b7F {fold}(hB:B<1800000)(hf:∀L x T,x.z<=B->fold L x=.ok T->SmT T){L l T}(hl:zs l<=B)(h:a1x fold F L l=.ok T):SmT T:=d6i hB hl hf _ _ _ _ _ _ SmT.nil h
theorem d2D (hB:B<1800000):∀(n) (L) (x) (T),x.z<=B->I8 F n L x=.ok T->SmT T:=by
 intro n;induction n with
  |zero=>intro L x T _ h;cases h|succ n ih=>
   intro L x T hx h;have hz:=a3X x;cases hl:x.l with
    |nil=>have eS:I8 F (n+1) L x=.er x.p 4:=xw;rw[eS]at h;cases h|cons w t=>
     rw[a9F F n L x w t hl]at h;cases q0:decide (w.k=2)with
      |false=>rw[q0,F7]at h;cases h|true=>
       rw[q0,C9]at h;cases q1:a3f w.t||isEn w.t with
        |true=>rw[q1,C9]at h;cases h|false=>
         rw[q1,F7]at h;cases hI:a1N F L x.l 0 w with
          |er p e=>rw[hI]at h;cases h|ok X nm nx=>
           rw[hI]at h;have hX:=b8R zy hI;have hd:=a8i x.l nx;simp only at h;cases q2:decide (X.op=2)||decide (X.op=3)with
            |true=>rw[q2,C9]at h;unfold a9n at h;cases hr:a1x (I8 F n) F (L++[nm]) (x.l.drop nx)with|ok T1=>rw[hr]at h;cases h;exact((SmT.one hX).app (b7F hB ih zy hr)).app (.one (smE 11))|er p e=>rw[hr]at h;cases h
            |false=>rw[q2,F7]at h;cases q3:decide (X.op=4)with|true=>rw[q3,C9]at h;grind[e1X,b7F,SmT.nil]|false=>rw[q3,F7]at h;unfold b2v at h;cases hr:a3r (I8 F n L) (x.l.drop nx) []with|ok T1=>rw[hr]at h;cases h;exact(d5T (λy T k=>ih L y T k) _ _ _ zy SmT.nil hr).app (.one hX)|er p e=>rw[hr]at h;cases h
end
end
section
attribute [local congr] q9 x8 A8 z8 D5 x9 D6 D8 D7
abbrev G8:=om (λp0 p1 p2 p3 p4 s=>P6 (nf8 p0 p1 p2 p3 p4) s)<| @D9
abbrev GL8:=om (λp0 p1 p2 p3 p4 p5 p6 s=>P6 (d4J p0 p1 p2 p3 p4 p5 p6) s)<| @D9
theorem e9L (n a b):o8 A9 (n+1) 8 [a,b]=sh8 o9 NN (o8 A9 n) a b:=a0Z (q:=sh8) (N:=NN) zw n a b
theorem ScS.env {sb m F L c h u U}(H:ScS sb m F L c h u U)(hL:L.length<1800000):Env (λi=>U i\/i=sb\/u.own i) h (.pointer (some ⟨sb,0,some 0⟩)) F L:=by
 refine⟨λk hk=>?_,H.sc.good,⟨?_,hL⟩⟩;obtain⟨es,h1,h2⟩:=H.sc.es;obtain⟨kb,ko,kg,ds,cur2,ro2,n,nm,m2,a1,a2,a3,a4,a5,a6⟩:=h2 k hk;exact⟨sb,0,0,_,0,false,m,_,es,kb,ko,kg,ds,cur2,ro2,n,nm,m2,rfl,Or.inr (Or.inl rfl),H.hs,rfl,Or.inl H.sc.hm,h1,a1,Or.inl a2,a3,a4,Or.inl a5,a6⟩;refine⟨sb,0,0,_,0,false,m,u,rfl,Or.inr (Or.inl rfl),H.hs,rfl,?_⟩;obtain⟨h1,h2|⟨ab,g,cs,h2,h3,h4,h5,h6,h7⟩⟩:=H.la;refine⟨by rw[h1,vQ],Or.inl ?_⟩;have:(L.map a1R).length=0:=by rw[h1,h2];rfl
 exact vI.1 this;exact⟨by rw[h1,vQ],Or.inr ⟨ab,0,g,cs,g,false,h2,h3,Or.inr (Or.inr ⟨_,h2,rfl⟩),h5,by rw[Y7];exact h7⟩⟩
theorem l8 {c h xs xl vs vl Ns Lb Xl bx bv sb mm F la U}(hbx:bx<c)(hx:h.get bx=some (cS xs xl))(hXl:U8 c h (sv xl) Xl)(hX20:Xl.length<=20)(hXt:∀T∈Xl,T.length<1100000)(hbv:bv<c)(hv:h.get bv=some (cS vs vl))(E:RE c h vs vl Ns Lb)(S:ScS sb mm F Lb c h la U)(m):∀(k e i) (c') (h') (zs) (r w),i+k=Xl.length->c<=c'->(∀a,a<c->h'.get a=h.get a)->C8 zs 40=.int .i64 (.ofNat i)->l9 (go (Q5 (e2e o9 NN (o8 A9 (m+4)) (.pointer (some ⟨bx,0,some 0⟩)) (.pointer (some ⟨sb,0,some 0⟩)) (.pointer (some ⟨bv,0,some 0⟩))) (k+1+e) zs) ⟨c',h',r,w⟩) λy s=>∃zs',y=(.exit 0,zs')/\c<=s.c/\∀a,a<c->s.h.get a=h.get a:=by have hlen:=hXl.len;intro k;induction k with|zero=>intro e i c' h' zs r w hi hc hfr h1;rw[wX 0 1 e,O8];have hx':=(hfr bx hbx).trans hx;have e0:decide (i<Xl.length)=false:=wy zy;simp(disch:=try exact dz)only[GL8,h1,hx',hlen,X6,e0,↓gR,gS,↓gP,gY,gT];exact l9.done ⟨_,rfl,hc,hfr⟩|succ k ih=>intro e i c' h' zs r w hi hc hfr h1;rw[wX (k+1) 1 e,O8];have hx':=(hfr bx hbx).trans hx;have hv':=(hfr bv hbv).trans hv;have e0:decide (i<Xl.length)=true:=ww zy;have hinc:=G9 i zy;obtain⟨t,ht⟩:∃t,Xl[i]?=some t:=⟨_,wz zy⟩;have hT:=hXt t (wG ht);obtain⟨b,p,g,cs,cur,ro,q1,q2,q3,q4⟩:=(hXl.mono hc hfr).read ht;have E':=E.mono hc hfr;obtain⟨z,hz⟩:=d5f (S.env (by have:=E.ll;omega)) (m+3) (T:=t) zy;have h32:=λr w=>hz c' h' r w (λj hj=>by rcases hj with k|k|k;have:=(S.u j k).1;omega;have:=S.s;omega;have:=S.la.own_lt k;omega) (λj hj=>hfr j (by rcases hj with k|k|k;exact(S.u j k).1;have:=S.s;omega;exact S.la.own_lt k));simp(disch:=try exact dz)only[GL8,h1,hx',hv',hlen,X6,e0,q1,q3,q4,h32,↓gR,gS,↓gP,gY,gT];refine(t33 E' t zy m).footC λc2 h2 r2 w2 F2 k2 hh2=>?_;have ne1:decide ((L9 Lb t).1=(L9 Lb t).1)=true:=ww rfl;have ne2:decide ((L9 Lb t).2=(L9 Lb t).2)=true:=ww rfl;simp(disch:=try exact dz)only[GL8,h1,hinc,J5,ne1,ne2,↓gR,gS,↓gP,gY,gT];exact ih e (i+1) c2 h2 _ _ _ zy zy (λa ha=>(hh2 a zy).trans (hfr a ha)) rfl
theorem d5l (t:Nat):a0J Tryz.prog tab .eql 44 (.tmp t) (.const (.pointer none)) (.pointer none) (.pointer none)=M.pure (.bool true):=zw
theorem d5r {U h v}{l:List Nat}{c}(H:SlU U h v (l.map iV))(hU:∀i,U i->i<c):SlV c h (.slice v.a v.n v.e) (S.I64 (l.map Int.ofNat)):=by
 have e:l.map iV=S.I64 (l.map Int.ofNat):=by unfold S.I64;rw[tX];rfl
 rw[e]at H;obtain⟨h1,h2⟩:=H;refine⟨v.a,v.e,by rw[h1],?_⟩;rcases h2 with h2|⟨b,o,g,cs,cur,ro,e1,e2,e3,e4,e5⟩;exact Or.inl h2;exact Or.inr ⟨b,o,g,cs,cur,ro,e1,e2,hU b e3,e4,e5⟩
theorem e2P {U h Rs Y c}(H:RIs U h Rs Y)(hU:∀i,U i->i<c):∃Cs:List S.IR,Cs.map (·.1)=Y.map c1O/\Rs.flatMap a0Y=Cs.flatMap S.a5y/\∀x∈Cs,Sv c h x:=by induction H with|nil=>exact⟨[],rfl,rfl,λx hx=>by cases hx⟩| @cons R X Rs Y h1 h2 ih=>obtain⟨Cs,e1,e2,e3⟩:=ih;obtain⟨i,op,A,B,N,k,v,bi,ts,ls⟩:=R;obtain⟨⟨rfl,rfl,rfl,rfl,rfl,rfl,rfl⟩,h3,h4⟩:=h1;refine⟨(c1O X,.slice ts.a ts.n ts.e,.slice ls.a ls.n ls.e)::Cs,by rw[rX,rX,e1],by rw[vU,vU,e2];rfl,λx hx=>?_⟩;rcases vG.1 hx with rfl|k;exact⟨d5r h3 hU,d5r h4 hU⟩;exact e3 x k
theorem c9O {U h Rs Y c u}(G:R7 9 c h u (Rs.flatMap a0Y))(H:RIs U h Rs Y)(hU:∀i,U i->i<c):∃Cs,Cs.map (·.1)=Y.map c1O/\S.InsL c h (.slice u.a u.n u.e) Cs:=by obtain⟨Cs,m1,m2,m3⟩:=e2P H hU;rw[m2]at G;exact⟨Cs,m1,c5x G m3⟩
theorem d6Z {c0 c h u Y}(H:OZ c0 c h u Y):∃Cs,Cs.map (·.1)=Y.map c1O/\S.InsL c h (.slice u.a u.n u.e) Cs:=by obtain⟨⟨Rs,h1,h2⟩,_⟩:=H;exact c9O h1 h2 λi hi=>hi.2.1
theorem c6H {c h T xs xl}{Xs:Nat->List (List UInt8)}{Xl}(hX:∀k,k<9->U8 c h (sv (xs k)) (Xs k)/\∀T∈Xs k,T.length<1100000)(hL:U8 c h (sv xl) Xl)(hLl:∀T∈Xl,T.length<1100000)(M)(hM:3000001<=M)(r w):l9 (go (o8 A9 (M+1) 8 [.string ⟨⟨T⟩⟩,.agg ⟨sR xs xl⟩]) ⟨c,h,r,w⟩) λx s=>x=.ret (.bool true):=by
 obtain⟨M1,rfl⟩:∃m,M=m+4:=⟨M-4,zy⟩;have hlenS:∀T:List UInt8,a3S (.string ⟨⟨T⟩⟩)=V.M.pure (.int .i64 (.ofNat T.length)):=λT=>a1k _;have hs0:∀j,j<c->(V.upd h c (cS xs xl)).get j=h.get j:=λj hj=>d9 zy;rw[e9L];cases q6:decide (600<T.length)with
  |true=>simp(disch:=try exact dz)only[G8,hlenS,X6,q6,a8T,↓gR,gS,↓gP,gY,gT];exact l9.done rfl|false=>
   have hT:T.length<=600:=by have:=vR q6;omega
   simp(disch:=try exact dz)only[G8,hlenS,X6,q6,a8T,↓gR,gS,↓gP,gY,gT];rw[e6J];refine l9.bindC (n26 xs xl _ _ _) λx s hq=>?_;obtain⟨c2,h2,r2,w2⟩:=s;obtain⟨f1,f2,b,rfl,f3⟩:=hq;simp only at f1 f2;cases b with
    |false=>simp(disch:=try exact dz)only[a8T,↓gR,gS,↓gP,gY,gT];exact l9.done rfl|true=>
     obtain⟨f3,f4⟩:=f3 rfl;have hs2:∀j,j<c->h2.get j=h.get j:=λj hj=>(f2 j zy).trans (hs0 j hj);have p0:h2.get c=some (cS xs xl):=(f2 c zy).trans (o7 _ _ _);simp(disch:=try exact dz)only[a8T,↓gR,gS,↓gP,gY,gT];refine l9.bindC (t27 (T:=T) zy (M1+3) zy _ _ _ _) λx s hq=>?_;obtain⟨c3',h3,r3,w3⟩:=s;obtain⟨g1,g2,⟨l,j,lv,g3,rfl,g4,g5⟩|⟨p,e,g3,g4,rfl⟩⟩:=hq;rotate_left;have qn:decide (e=0)=false:=wy g4;simp(disch:=try exact dz)only[J5,qn,a8T,↓gR,gS,↓gP,gY,gT];exact l9.done rfl;simp only at g1 g2 g4;have p1:h3.get c=some (cS xs xl):=(g2 c zy).trans p0;have hs3:∀j,j<c->h3.get j=h.get j:=λj hj=>(g2 j zy).trans (hs2 j hj);simp(disch:=try exact dz)only[p1,J5,a8T,↓gR,gS,↓gP,gY,gT];have hXl:∀k,k<9->(Xs k).length<=20:=λk hk=>by have:=(hX k hk).1.rows.1;rw[a5q]at this;have:=f3 k hk;omega
     have hXl2:Xl.length<=20:=by have:=hL.rows.1;rw[a5q]at this;omega
     refine l9.bindC (t28 (λk hk=>⟨(hX k hk).1.mono zy hs3,hXl k hk,(hX k hk).2⟩) (hL.mono zy hs3) hXl2 M1 _ _) λx s hq=>?_;obtain⟨c6,h6,r6,w6⟩:=s;obtain⟨c0,b4,h0,Ns,us,vs,Lb,ul,vl,rfl,q1,q2,q3,q4,q5⟩:=hq;simp only at q2 q4;have hcc:=q2.sn.cc;simp(disch:=try exact dz)only[↓gW,b2B,↓gR,gS,↓gP,gY,gT];obtain⟨h7,eh7,g7,g8⟩:∃h7,V.upd (V.upd h6 c6 (cS (λ_=>U5) U5)) c6 (cS vs vl)=h7/\(∀i,i<c6->h7.get i=h6.get i)/\h7.get c6=some (cS vs vl):=⟨_,rfl,λi hi=>(d9 zy).trans (d9 zy),o7 _ _ _⟩;rw[eh7];have p2:h7.get c=some (cS xs xl):=(g7 c zy).trans ((q4 c zy).trans p1);have hs7:∀j,j<c->h7.get j=h.get j:=λj hj=>(g7 j zy).trans ((q4 j zy).trans (hs3 j hj));have hl3:NdL (λi=>c2<=i/\i<c3') h3 lv l:=g4;have hl7:NdL (λi=>c2<=i/\i<c3') h7 lv l:=hl3.mono λi hi=>⟨hi,(g7 i zy).trans (q4 i zy)⟩;have hcopy:=c1C (zs l) (M1+4-(zs l+1)) (λi=>c2<=i/\i<c3') lv l (c6+1) h7;have e1:M1+4-(zs l+1)+zs l+1=M1+4:=zy;rw[e1]at hcopy;refine l9.bindC (hcopy _ _ hl7 (λi hi=>zy) (xD _)) λx s hq=>?_;obtain⟨c8,h8,r8,w8⟩:=s;obtain⟨k1,k2,k3,v2,rfl,k4⟩:=hq;simp only at k1 k2 k4;have sc:=((q2.sn.mono (wZ c6) λi hi _=>g7 i hi).scs).mono k1 k2;simp(disch:=try exact dz)only[↓gR,gS,↓gP,gY,gT];have hp:=t29 sc (k4.mono λb k=>⟨Or.inr ⟨by have:=k.1;omega,k.2⟩,rfl⟩) (xD (zs l)) zy (M1+4-(3*zs l+14));have e2:M1+4-(3*zs l+14)+3*zs l+14=M1+4:=zy;rw[e2]at hp;refine l9.bindC (hp _ _) λx s hq=>?_;obtain⟨c9,h9,r9,w9⟩:=s;obtain⟨m1,m2,⟨la',U',m3,m4⟩,hor⟩:=hq;simp only at m1 m2 m3;have hulo:∀i,ul.own i->c0+20<=i/\i<c6:=λi ho=>⟨q2.sn.ol i ho,q2.sn.gl.own_lt ho⟩;have hU9:∀i,i<c6+1->i≠c0+1->¬ul.own i->h9.get i=h7.get i:=λi a b d=>(m2 i (Or.inl ⟨a,b,d⟩)).trans (k2 i a);have n6:h9.get c6=some (cS vs vl):=(hU9 c6 zy zy λho=>by have:=hulo _ ho;omega).trans g8;have nc:h9.get c=some (cS xs xl):=(hU9 c zy zy λho=>by have:=hulo _ ho;omega).trans p2;have hs9:∀i,i<c0->h9.get i=h7.get i:=λi hi=>hU9 i zy zy λho=>by have:=hulo _ ho;omega
     have hnS:∀i,i<c6->¬SnP c0 us ul i->h9.get i=h6.get i:=λi hi hn=>(hU9 i zy (λe=>hn (Or.inl ⟨zy,zy⟩)) λho=>hn (Or.inr (Or.inr ho))).trans (g7 i hi);have E9:RE c9 h9 vs vl Ns Lb:=⟨λj hj=>⟨a5w (q2.rn j hj) zy (q2.ro j hj) hnS,by have:=q5 j hj;omega⟩,a5w q2.rl zy q2.rlo hnS,zy⟩;have hl9:NdL (λi=>i<c9) h9 lv l:=hl7.mono λi hi=>⟨zy,hs9 i zy⟩;have h31:=t31 E9 hl9 zy (M1+4-(13*zs l+12));have e3:M1+4-(13*zs l+12)+(13*zs l+12)=M1+4:=zy;rw[e3]at h31;rcases hor with⟨Y,u2,Rs,U2,s3,rfl,s4,s5,s6,s7⟩|⟨p,e,s3,rfl⟩;·
      simp(disch:=try exact dz)only[n6,↓gR,gS,↓gP,gY,gT];refine Ev.bindC h31 λv cA hA rA wA hq=>?_;have eF:frF Ns=λk=>fsR (Ns k).reverse:=rfl;rw[eF]at hq;rw[s3]at hq;obtain⟨t1,t2,⟨Y2,u3,s8,rfl,o3,s9⟩|⟨p,e,s8,_,rfl⟩⟩:=hq;rotate_left;cases s8;cases s8;obtain⟨C1,a1,I1⟩:=c9O s4 s5 s6;obtain⟨C2,a2,I2⟩:=d6Z o3;have hC1:C1.length=Y.length:=by have:=wO List.length a1;rwa[wK,wK]at this
      have h22:=e0R (I1.mono t1 t2) I2 (a1.trans a2.symm) zy (λx hx=>by
       have hm:x.1∈Y.map c1O:=by rw[<-a1];exact List.mem_map_of_mem hx
       obtain⟨z,hz1,hz2⟩:=uj.1 hm;obtain⟨s1,s2⟩:=b7F (B:=zs l) zy (λL x T k k2=>d2D zy _ L x T k k2) (xD _) s3 z hz1;rw[<-hz2];exact⟨by show(z.ts.map Int.ofNat).length<_;rw[wK];exact s1,by show(z.ls.map Int.ofNat).length<_;rw[wK];exact s2⟩) (M1+2);simp(disch:=try exact dz)only[↓gR,gS,↓gP,gY,gT];refine l9.bindC (h22 _ _) λx s hq=>?_;obtain⟨cB,hB,rB,wB⟩:=s;obtain⟨rfl,b1,b2⟩:=hq;simp only at b1 b2;simp(disch:=try exact dz)only[J5,J4,↓gR,gS,↓gP,gY,gT];have bf:∀i,i<c9->hB.get i=h9.get i:=λi hi=>(b2 i zy).trans (t2 i hi);obtain⟨e8,hNe8⟩:∃e,NN=Xl.length+1+e:=⟨NN-(Xl.length+1),zL⟩;have lp:=λzs r w=>l8 (bx:=c) (bv:=c6) zy ((bf c zy).trans nc) (hL.mono (show c<=cB by omega) λa ha=>(bf a zy).trans ((hs9 a zy).trans (hs7 a ha))) hXl2 hLl zy ((bf c6 zy).trans n6) (E9.mono (show c9<=cB by omega) bf) (m3.mono (show c9<=cB by omega) bf) M1 Xl.length e8 0 cB hB zs r w (a5f _) (xD _) λ_ _=>rfl;rw[<-hNe8]at lp;refine l9.bindJ (lp _ _ _ rfl) λy zs' s hq=>?_;obtain⟨cC,hC,rC,wC⟩:=s;obtain⟨zs1,d1,d2,d3⟩:=hq;cases d1;simp only at d2 d3;simp(disch:=try exact dz)only[J4,↓gR,gS,↓gP,gY,gT];have hcopy2:=c1C (zs l) (M1+4-(zs l+1)) (λi=>i<cC) lv l cC hC;rw[e1]at hcopy2;refine l9.bindC (hcopy2 _ _ (hl9.mono λi hi=>⟨zy,(d3 i zy).trans (bf i hi)⟩) (λi hi=>hi) (xD _)) λx s hq=>?_;obtain⟨cD,hD,rD,wD⟩:=s;obtain⟨_,_,_,v3,rfl,_⟩:=hq;have h29:=c6S (M1+3) (.slice v3.a v3.n v3.e) (.pointer none);simp(disch:=try exact dz)only[h29,G29,d5l,a8T,J5,J4,↓gR,gS,↓gP,gY,gT];exact l9.done rfl
     simp(disch:=try exact dz)only[n6,↓gR,gS,↓gP,gY,gT];refine Ev.bindC h31 λv cA hA rA wA hq=>?_;have eF:frF Ns=λk=>fsR (Ns k).reverse:=rfl;rw[eF]at hq;rw[s3]at hq;obtain⟨t1,t2,⟨Y2,u3,s8,rfl,o3,s9⟩|⟨p2,e2,s8,_,rfl⟩⟩:=hq;cases s8;cases s8;have I1:S.InsL cA hA (.slice none 0 0) []:=c5x (u:=⟨none,0,0⟩) (R7.nil _ _ _) (λx hx=>nomatch hx);have h22:=e0R I1 I1 rfl zq (λx hx=>nomatch hx) (M1+2);simp(disch:=try exact dz)only[↓gR,gS,↓gP,gY,gT];refine l9.bindC (h22 _ _) λx s hq=>?_;obtain⟨cB,hB,rB,wB⟩:=s;obtain⟨rfl,b1,b2⟩:=hq;simp only at b1 b2;simp(disch:=try exact dz)only[J5,J4,↓gR,gS,↓gP,gY,gT];have bf:∀i,i<c9->hB.get i=h9.get i:=λi hi=>(b2 i zy).trans (t2 i hi);obtain⟨e8,hNe8⟩:∃e,NN=Xl.length+1+e:=⟨NN-(Xl.length+1),zL⟩;have lp:=λzs r w=>l8 (bx:=c) (bv:=c6) zy ((bf c zy).trans nc) (hL.mono (show c<=cB by omega) λa ha=>(bf a zy).trans ((hs9 a zy).trans (hs7 a ha))) hXl2 hLl zy ((bf c6 zy).trans n6) (E9.mono (show c9<=cB by omega) bf) (m3.mono (show c9<=cB by omega) bf) M1 Xl.length e8 0 cB hB zs r w (a5f _) (xD _) λ_ _=>rfl;rw[<-hNe8]at lp;refine l9.bindJ (lp _ _ _ rfl) λy zs' s hq=>?_;obtain⟨cC,hC,rC,wC⟩:=s;obtain⟨zs1,d1,d2,d3⟩:=hq;cases d1;simp only at d2 d3;simp(disch:=try exact dz)only[J4,↓gR,gS,↓gP,gY,gT];have hcopy2:=c1C (zs l) (M1+4-(zs l+1)) (λi=>i<cC) lv l cC hC;rw[e1]at hcopy2;refine l9.bindC (hcopy2 _ _ (hl9.mono λi hi=>⟨zy,(d3 i zy).trans (bf i hi)⟩) (λi hi=>hi) (xD _)) λx s hq=>?_;obtain⟨cD,hD,rD,wD⟩:=s;obtain⟨_,_,_,v3,rfl,_⟩:=hq;have h29:=c6S (M1+3) (.slice v3.a v3.n v3.e) (.pointer none);simp(disch:=try exact dz)only[h29,G29,d5l,a8T,J5,J4,↓gR,gS,↓gP,gY,gT];exact l9.done rfl
end
end Go.Proofs.YtmomonnlmbljoaaGreatDoor
noncomputable section
namespace Go.V
open Go.RowKit (Below)
section
variable {P:Program}{T:Tab}{w:World}{rows:a2C}
def a4F (locs:List (Nat×Nat)):KM:=λb g=>if g=0 then(match locs[b]? with|some p=>some ⟨p.1,0,p.2,0,false⟩|none=>none)else none
theorem a2Q {locs b g l}(h:a4F locs b g=some l):∃p,locs[b]?=some p/\g=0/\l=⟨p.1,0,p.2,0,false⟩:=by unfold a4F at h;grind
theorem a7e {locs b p}(h:locs[b]?=some p):a4F locs b 0=some ⟨p.1,0,p.2,0,false⟩:=by unfold a4F;rw[vX rfl,h]
end
end Go.V
end
section
namespace Go.Proofs.YtmomonnlmbljoaaGreatDoor.S
open Go.ChangeShapes Go.WideShapes Go.ChangeAt Go.RowKit
end Go.Proofs.YtmomonnlmbljoaaGreatDoor.S
end
namespace Go.Proofs.YtmomonnlmbljoaaGreatDoor
open Go.V Go.RowKit Go.Shelf Go.Proofs
variable {mL:Int}
namespace S
theorem d1g:∀l,A7 0 (l.map λx=>(x,0)) l.length=some l:=by intro l;induction l with|nil=>rfl|cons x l ih=>show(match Nat.ble 0 0 with|true=>(match A7 0 (l.map λx=>(x,0)) l.length with|some vs=>some (x::vs)|none=>none)|false=>none)=_;rw[ih]
end S
end Go.Proofs.YtmomonnlmbljoaaGreatDoor
noncomputable section
namespace Go.V
open Go.RowKit (Below)
section
variable {P:Program}{T:Tab}{w:World}{rows:a2C}
theorem c8k {R}(hR:∀k,w.heap.size<=k->R k)(locs)(hlen:locs.length=rows.length)(hlt:∀p∈locs,p.1<w.heap.size/\R p.1)(hcell:∀(b:Nat) (p) (l),locs[b]?=some p->rows[b]?=some l->∀(off) (v),l[off]?=some v->∃v',w.cell? ⟨p.1,p.2+off,none⟩=some v'/\VR (a4F locs) v' v):Sim w.heap.size ⟨w,R⟩ (a4F locs) (a3a rows).h w:=by
 have hcs:∀b cs cur ro,(a3a rows).h.get b=some (.cells cs cur ro)->∃l,rows[b]?=some l/\cs=l.map (λx=>(x,0))/\cur=0/\ro=true:=by intro b cs cur ro h;rw[a1H]at h;grind
 refine⟨⟨xD _,hR⟩,tK _ _,?_,?_,?_,?_,?_,?_,?_,?_,?_,?_,λb g l h _=>by grind[a2Q]⟩;intro b g l h;obtain⟨p,h1,_,rfl⟩:=a2Q h;grind;intro b g l h;obtain⟨p,h1,_,rfl⟩:=a2Q h;have hb:b<rows.length:=by rw[<-hlen];grind
 rw[a1H,wz hb];simp_all;intro b g l h ho;obtain⟨_,_,_,rfl⟩:=a2Q h;cases ho;intro b g l b' g' l' h _ _ ho;obtain⟨_,_,_,rfl⟩:=a2Q h;cases ho;intro b g l g' l' h h';obtain⟨p,h1,_,rfl⟩:=a2Q h;obtain⟨p',h1',_,rfl⟩:=a2Q h';rw[h1]at h1';simp_all;intro b g l cs cur ro h ho;obtain⟨_,_,_,rfl⟩:=a2Q h;cases ho;intro b cs cur ro h;obtain⟨l,h1,rfl,rfl,rfl⟩:=hcs b cs cur ro h;have hb:b<locs.length:=by rw[hlen];grind
 refine⟨λg l' q=>?_,λg hg=>?_,λc hc=>?_⟩;obtain⟨_,_,rfl,rfl⟩:=a2Q q;simp_all;obtain rfl:g=0:=qb.1 hg;simp_all[a7e];grind;intro b cs cur ro g l h hk off v st hv hst hlo;obtain⟨l',h1,rfl,rfl,rfl⟩:=hcs b cs cur ro h;obtain⟨p,h2,rfl,rfl⟩:=a2Q hk;rw[wE]at hv;grind;grind[a1H];grind[a1H]
theorem b8b {vs}(hT:TabOk P T)(hM:P.follows .mixedOrders=true)(locs)(hlen:locs.length=rows.length)(hlt:∀p∈locs,p.1<w.heap.size)(hcell:∀(b:Nat) (p) (l),locs[b]?=some p->rows[b]?=some l->∀(off) (v),l[off]?=some v->∃v',w.cell? ⟨p.1,p.2+off,none⟩=some v'/\VR (a4F locs) v' v)(hng:∀g,g<T.ng->locs[g]?=some (g,0))(hL:LaidV vs w){ext}(hE:a2X P T vs ext){N}{sh}(hs:a8h P T ext N sh){n f}{fn}{c}{args' args}{v}{s'}(hPf:P.funcs[f]?=some fn)(hnum:(fn.name== "runtime.NumGoroutine")=false)(hb:fn.body=some c)(ha:VRL (a4F locs) args' args)(hv:M7 8 v=true)(h:o8 sh n f args (a3a rows)=some (.ret v,s')):Calls P f args'.toArray w λe w'=>e=.returned v/\Below w.heap.size w w':=by have hE':=hE w.heap.size ⟨w,λ_=>True⟩ hL hL.size;rcases b0H hT hM hE' hs n f args (a3a rows) (.ret v) s' w (a4F locs) args' h (c8k (λ_ _=>trivial) locs hlen (λp hp=>⟨hlt p hp,trivial⟩) hcell) (λg hg=>⟨_,a7e (hng g hg),rfl,rfl,rfl⟩) (λi hi _=>by rw[a1H];have:rows.length<=i:=yG;rw[wT this]) ha with⟨v1,v',w',K',_,q1,_⟩|⟨_,q⟩;rw[a0c hPf hnum hb]at q1;cases q1;refine q.mono λe w' hq=>?_;obtain⟨v',K',e1,st,r⟩:=hq;rw[e1,r.eq_of_noAddr 8 hv];exact⟨rfl,st.sim.below⟩
end
end Go.V
end
section
namespace Go.Proofs.YtmomonnlmbljoaaGreatDoor.S
open Go.ChangeShapes Go.WideShapes Go.ChangeAt Go.RowKit Go.V
def b5J (W:World)(v:Value)(l:List Int):Prop:=(v=.slice none 0 0/\l=[])\/(∃a,v=.slice (some a) 0 0/\l=[])\/∃(a:Addr) (cap:Nat),v=.slice (some a) l.length (cap+1)/\l.length<=cap+1/\a.spot=none/\a.block<W.heap.size/\∀(i:Nat) (z:Int),l[i]?=some z->W.cell? ⟨a.block,a.off+i,none⟩=some (.int .i64 z)
def a4I (j:Nat):Value->Value|.slice (some _) n _=>.slice (some ⟨j,0,some 0⟩) n 1|_=>.slice none 0 0
def pOf:Value->Nat×Nat|.slice (some a) _ (_+1)=>(a.block,a.off)|_=>(0,0)
theorem c4H {W v l}(h0:0<W.heap.size)(H:b5J W v l):(pOf v).1<W.heap.size:=xY
theorem b6m {W v l}(H:b5J W v l)(off x)(hx:(I64 l)[off]?=some x):W.cell? ⟨(pOf v).1,(pOf v).2+off,none⟩=some x/\plain x=true:=by rcases H with⟨rfl,rfl⟩|⟨a,rfl,rfl⟩|⟨a,cap,rfl,_,_,h3,h4⟩;cases hx;cases hx;unfold I64 at hx;rw[wE]at hx;cases q:l[off]? with|none=>rw[q]at hx;cases hx|some z=>rw[q]at hx;cases hx;exact⟨h4 off z q,rfl⟩
theorem c2V {W v l}(H:b5J W v l){j locs}(hj:locs[j]?=some (pOf v)):VR (a4F locs) v (a4I j v):=yw
theorem c5t {α:Type}{p:Nat->α->Prop}:∀n,(∀i,i<n->∃x,p i x)->∃l:List α,l.length=n/\∀i x,l[i]?=some x->p i x:=by intro n;induction n with|zero=>simp_all|succ n ih=>intro h;obtain⟨l,h1,h2⟩:=ih λi hi=>h i zy;obtain⟨x,hx⟩:=h n (wu n);refine⟨l++[x],by rw[wW,h1];rfl,λi y hy=>?_⟩;grind
theorem b8P {α β:Type}(f g:Nat->α->β):∀(l:List α) (k i),((l.mapIdx λi y=>[f (k+i) y,g (k+i) y]).flatten)[2*i]?=(l[i]?).map (f (k+i))/\((l.mapIdx λi y=>[f (k+i) y,g (k+i) y]).flatten)[2*i+1]?=(l[i]?).map (g (k+i)):=by intro l;induction l with|nil=>grind|cons y l ih=>intro k i;rw[List.mapIdx_cons];cases i with|zero=>simp|succ i=>have:=ih (k+1) i;have e:∀j,k+1+j=k+(j+1):=λj=>zy;grind
theorem d1O:∀(l:List IR) (i j) (x),l[i]?=some x->j<9->(l.flatMap a5y)[i*9+j]?=(a5y x)[j]?:=by intro l;induction l with|nil=>simp_all|cons y l ih=>intro i j x h hj;have h9:(a5y y).length=9:=rfl;rw[vU];grind
theorem d2c (l:List IR):(l.flatMap a5y).length=l.length*9:=by induction l with|nil=>rfl|cons y l ih=>rw[vU,wW,ih];show 9+l.length*9=(l.length+1)*9;omega
abbrev YR:Type:=Ins×Value×Value
structure HandI (W:World) (a:Addr) (i:Nat) (y:YR):Prop where
 cells:∀ (j:Nat) (x:Value),(a5y y)[j]?=some x→W.cell? ⟨a.block,a.off+(i * 9+j),none⟩=some x
 N:y.1.N<18446744073709551616
 t:b5J W y.2.1 y.1.types
 l:b5J W y.2.2 y.1.labels
def b3K (Ys:List YR):List IR:=Ys.mapIdx λi y=>(y.1,a4I (8+2*i) y.2.1,a4I (8+2*i+1) y.2.2)
def a8M (Ys:List YR):a2C:=(Ys.mapIdx λi y=>[(λ(_:Nat) (y:YR)=>I64 y.1.types) (0+i) y,(λ(_:Nat) (y:YR)=>I64 y.1.labels) (0+i) y]).flatten
def a9J (Ys:List YR):List (Nat×Nat):=(Ys.mapIdx λi y=>[(λ(_:Nat) (y:YR)=>pOf y.2.1) (0+i) y,(λ(_:Nat) (y:YR)=>pOf y.2.2) (0+i) y]).flatten
noncomputable def a6w (mL:Int)(Ys:List YR):a2C:=L6 mL++((b3K Ys).flatMap a5y::a8M Ys)
def a6D (p:Nat×Nat)(Ys:List YR):List (Nat×Nat):=[(0,0),(1,0),(2,0),(3,0),(4,0),(5,0),(6,0)]++(p::a9J Ys)
theorem e2r {Ys i y}(h:Ys[i]?=some y):(b3K Ys)[i]?=some (y.1,a4I (8+2*i) y.2.1,a4I (8+2*i+1) y.2.2):=by grind[b3K]
theorem d8c (Ys):(b3K Ys).length=Ys.length:=by unfold b3K;rw[List.length_mapIdx]
theorem e0G (mL Ys):(a6w mL Ys)[7]?=some ((b3K Ys).flatMap a5y):=rfl
theorem d7X (p Ys):(a6D p Ys)[7]?=some p:=rfl
theorem d8Y (mL Ys k):(a6w mL Ys)[8+k]?=(a8M Ys)[k]?:=by show(L6 mL++((b3K Ys).flatMap a5y::a8M Ys))[8+k]?=_;rw[wH (by show 7<=_;omega),show 8+k-(L6 mL).length=k+1 by show 8+k-7=_;omega,uI]
theorem b5Y (p Ys k):(a6D p Ys)[8+k]?=(a9J Ys)[k]?:=by show([(0,0),(1,0),(2,0),(3,0),(4,0),(5,0),(6,0)]++(p::a9J Ys))[8+k]?=_;rw[wH zu,show 8+k-([(0,0),(1,0),(2,0),(3,0),(4,0),(5,0),(6,0)]:List (Nat×Nat)).length=k+1 by grind,uI]
theorem b5U (Ys i):(a8M Ys)[2*i]?=(Ys[i]?).map (λy=>I64 y.1.types)/\(a8M Ys)[2*i+1]?=(Ys[i]?).map λy=>I64 y.1.labels:=b8P (λ(_:Nat) (y:YR)=>I64 y.1.types) (λ(_:Nat) (y:YR)=>I64 y.1.labels) Ys 0 i
theorem a9m (Ys i):(a9J Ys)[2*i]?=(Ys[i]?).map (λy=>pOf y.2.1)/\(a9J Ys)[2*i+1]?=(Ys[i]?).map λy=>pOf y.2.2:=b8P (λ(_:Nat) (y:YR)=>pOf y.2.1) (λ(_:Nat) (y:YR)=>pOf y.2.2) Ys 0 i
theorem half (k):k=2*(k/2)\/k=2*(k/2)+1:=zy
theorem d2J (Ys):(a9J Ys).length=(a8M Ys).length:=by
 have h:∀k:Nat,((a9J Ys)[k]?).isSome=((a8M Ys)[k]?).isSome:=by intro k;rcases half k with q|q;rw[q,(a9m Ys (k/2)).1,(b5U Ys (k/2)).1];cases Ys[k/2]? <;>rfl;rw[q,(a9m Ys (k/2)).2,(b5U Ys (k/2)).2];cases Ys[k/2]? <;>rfl
 rcases qR (a9J Ys).length (a8M Ys).length with q|q|q;have:=h (a9J Ys).length;rw[wT (xD _),wz q]at this;cases this;exact q;have:=h (a8M Ys).length;rw[wT (l:=a8M Ys) (xD _),wz q]at this;cases this
theorem d2f {W a p Ys i y}(hy:Ys[i]?=some y)(HI:HandI W a i y)(j:Nat)(x)(hx:(a5y (y.1,a4I (8+2*i) y.2.1,a4I (8+2*i+1) y.2.2))[j]?=some x):∃x',(a5y y)[j]?=some x'/\VR (a4F (a6D p Ys)) x' x:=by
 have g1:(a6D p Ys)[8+2*i]?=some (pOf y.2.1):=by rw[b5Y,(a9m Ys i).1,hy];rfl
 have g2:(a6D p Ys)[8+2*i+1]?=some (pOf y.2.2):=by rw[tN,b5Y,(a9m Ys i).2,hy];rfl
 rcases j with _|_|_|_|_|_|_|_|_|j;cases hx;exact⟨_,rfl,VR.plain rfl⟩;cases hx;exact⟨_,rfl,VR.plain rfl⟩;cases hx;exact⟨_,rfl,VR.plain rfl⟩;cases hx;exact⟨_,rfl,VR.plain rfl⟩;cases hx;exact⟨_,rfl,VR.plain rfl⟩;cases hx;exact⟨_,rfl,VR.plain rfl⟩;cases hx;exact⟨_,rfl,VR.plain rfl⟩;cases hx;exact⟨_,rfl,c2V HI.t g1⟩;cases hx;exact⟨_,rfl,c2V HI.l g2⟩;cases hx
end Go.Proofs.YtmomonnlmbljoaaGreatDoor.S
end
namespace Go.Proofs.YtmomonnlmbljoaaGreatDoor
open Go.V Go.RowKit Go.Shelf Go.Proofs
variable {mL:Int}
namespace S
theorem d7b {W mL}(hL:LaidV (L6 mL) W)(a)(ha:a.block<W.heap.size)(Ys)(hY:∀i y,Ys[i]?=some y->HandI W a i y):∀p∈a6D (a.block,a.off) Ys,p.1<W.heap.size:=by
 have hsz:0<W.heap.size:=wY (show 0<(L6 mL).length from by show 0<7;decide) hL.size;have hb:∀j,j<7->j<W.heap.size:=λj hj=>wY hj (show 7<=W.heap.size from hL.size);intro p hp;obtain⟨k,hk⟩:=uD.1 hp;rcases uV k 8 with q|q;rcases k with _|_|_|_|_|_|_|_|k;cases hk;omega;cases hk;simp_all;cases hk;simp_all;cases hk;simp_all;cases hk;simp_all;cases hk;simp_all;cases hk;simp_all;cases hk;exact ha;omega;obtain⟨k,rfl⟩:∃m,k=8+m:=⟨k-8,zy⟩;rw[b5Y]at hk;rcases half k with e|e;rw[e,(a9m Ys (k/2)).1]at hk;cases q2:Ys[k/2]? with|none=>rw[q2]at hk;cases hk|some y=>rw[q2]at hk;cases hk;exact c4H hsz (hY _ y q2).t
 rw[e,(a9m Ys (k/2)).2]at hk;cases q2:Ys[k/2]? with|none=>rw[q2]at hk;cases hk|some y=>rw[q2]at hk;cases hk;exact c4H hsz (hY _ y q2).l
theorem c9c {W mL}(hL:LaidV (L6 mL) W)(a)(ha:a.block<W.heap.size)(Ys)(hY:∀i y,Ys[i]?=some y->HandI W a i y):∀(b:Nat) (p) (l),(a6D (a.block,a.off) Ys)[b]?=some p->(a6w mL Ys)[b]?=some l->∀(off) (x),l[off]?=some x->∃x',W.cell? ⟨p.1,p.2+off,none⟩=some x'/\VR (a4F (a6D (a.block,a.off) Ys)) x' x:=by
 intro b p l hp hl off x hx;rcases uV b 7 with q|q;·
  have hv':∀g l,(L6 mL)[g]?=some l->∀off x,l[off]?=some x->W.cell? ⟨g,0+off,none⟩=some x/\plain x=true:=λg l hl off x hx=>⟨by rw[wM];exact hL.cell g l hl off x hx,a1Y l (wG hl) x (wG hx)⟩;have hl':(L6 mL)[b]?=some l:=by have:(a6w mL Ys)[b]?=(L6 mL)[b]?:=vw (by show b<7;exact q);rw[<-this];exact hl
  have hp':p=(b,0):=by rcases b with _|_|_|_|_|_|_|b;all_goals first|(cases hp;rfl)|omega
  subst hp';obtain⟨e1,e2⟩:=hv' b l hl' off x hx;exact⟨x,e1,VR.plain e2⟩
 rcases Nat.eq_or_lt_of_le q with q|q;obtain rfl:=q.symm;rw[d7X]at hp;rw[e0G]at hl;cases hp;cases hl;have ho:off=off/9*9+off%9:=zy;have hi:off/9<(b3K Ys).length:=by have:=(xC.1 hx).1;rw[d2c]at this;omega
 cases q2:Ys[off/9]? with|none=>rw[d8c]at hi;rw[wz hi]at q2;cases q2|some y=>rw[ho,d1O _ _ _ _ (e2r q2) zy]at hx;obtain⟨x',e1,e2⟩:=d2f (p:=(a.block,a.off)) q2 (hY _ y q2) _ x hx;refine⟨x',?_,e2⟩;have:=(hY _ y q2).cells _ x' e1;rw[<-ho]at this;exact this
 obtain⟨k,rfl⟩:∃m,b=8+m:=⟨b-8,zy⟩;rw[b5Y]at hp;rw[d8Y]at hl;rcases half k with e|e;rw[e,(a9m Ys (k/2)).1]at hp;rw[e,(b5U Ys (k/2)).1]at hl;cases q2:Ys[k/2]? with|none=>rw[q2]at hp;cases hp|some y=>rw[q2]at hp hl;cases hp;cases hl;obtain⟨e1,e2⟩:=b6m (hY _ y q2).t off x hx;exact⟨x,e1,VR.plain e2⟩
 rw[e,(a9m Ys (k/2)).2]at hp;rw[e,(b5U Ys (k/2)).2]at hl;cases q2:Ys[k/2]? with|none=>rw[q2]at hp;cases hp|some y=>rw[q2]at hp hl;cases hp;cases hl;obtain⟨e1,e2⟩:=b6m (hY _ y q2).l off x hx;exact⟨x,e1,VR.plain e2⟩
theorem d2x (l m):(a4F l).le (a4F (l++m)):=by intro b g x h;grind[a2Q,a7e]
theorem d2o (mL p Ys):(a6D p Ys).length=(a6w mL Ys).length:=by have h7:(L6 mL).length=7:=rfl;grind[a6D,a6w,List.length_cons,d2J]
def a9G (W:World)(v:Value)(l:List Value):Prop:=(v=.slice none 0 0/\l=[])\/(∃a,v=.slice (some a) 0 0/\l=[])\/∃(a:Addr) (cap:Nat),v=.slice (some a) l.length (cap+1)/\l.length<=cap+1/\a.spot=none/\a.block<W.heap.size/\∀(i:Nat) (z:Value),l[i]?=some z->W.cell? ⟨a.block,a.off+i,none⟩=some z
theorem d6g {W v l}(h0:0<W.heap.size)(H:a9G W v l):(pOf v).1<W.heap.size:=xY
theorem c6q {W v l}(H:a9G W v l)(off x)(hx:l[off]?=some x):W.cell? ⟨(pOf v).1,(pOf v).2+off,none⟩=some x:=by rcases H with⟨rfl,rfl⟩|⟨a,rfl,rfl⟩|⟨a,cap,rfl,_,_,h3,h4⟩;cases hx;cases hx;exact h4 off x hx
theorem d2b {W v l}(H:a9G W v l){j locs}(hj:locs[j]?=some (pOf v)):VR (a4F locs) v (a4I j v):=yw
def c3y (j:Nat):Value->Sl|.slice (some _) n _=>⟨some ⟨j,0,some 0⟩,n,1⟩|_=>⟨none,0,0⟩
theorem a5D (j v):sv (c3y j v)=a4I j v:=by cases v with|slice o n e=>cases o<;>rfl|_=>rfl
theorem d0x {W v l}(H:a9G W v (ls_ l)){j rows}(hj:rows[j]?=some (ls_ l)):U8 (Go.V.a3a rows).c (Go.V.a3a rows).h (sv (c3y j v)) l:=by have hlen:(ls_ l).length=l.length:=a5q l;have nil:ls_ l=[]->l=[]:=λh=>vI.1 (by rw[<-hlen,h];rfl);rcases H with⟨rfl,h⟩|⟨a,rfl,h⟩|⟨a,cap,rfl,h1,h2,h3,h4⟩;exact⟨none,0,by rw[nil h];rfl,Or.inl (nil h)⟩;exact⟨some ⟨j,0,some 0⟩,1,by rw[nil h];rfl,Or.inl (nil h)⟩;refine⟨some ⟨j,0,some 0⟩,1,by rw[hlen];rfl,Or.inr ⟨j,0,0,(ls_ l).map λx=>(x,0),0,true,rfl,rfl,?_,?_,?_⟩⟩;show j<F9 rows;rw[J2];exact(xC.1 hj).1;rw[a1H,hj];rw[Y7,<-hlen];exact d1g _
theorem c1D {H}{d:DataW H}:∀{l},d∈l->Rows.uptoBulk d<=Rows.uptoBulkAll l:=by intro l;induction l with|nil=>intro h;cases h|cons x r ih=>intro h;show _<=Rows.uptoBulk x+Rows.uptoBulkAll r;rcases vG.1 h with rfl|h;omega;have:=ih h;omega
theorem b8E {H}{enc:TypeId×Value->H}{W fuel v x}(h:DataW.trod enc Tryz.prog W 0 (λ_=>true) true fuel 38 [v]=some x)(hb:Rows.uptoBulk x.1<=1048576):∃l,a9G W v (ls_ l)/\∀T∈l,T.length<1100000:=by
 rcases Go.Deep.open_slice1 qQ zw h with⟨e0,_⟩|⟨a,len,cap,m,n,V,D,Pl,e0,_,hle,_,hm,hx,hi⟩;exact⟨[],Or.inl ⟨by simpa using e0,rfl⟩,λT hT=>by cases hT⟩;have hm':m=cap:=by rw[hm];rfl
 subst hm';have e0':v=.slice (some a) len m:=by simpa using e0
 cases m with
  |zero=>obtain rfl:len=0:=zy;exact⟨[],Or.inr (Or.inl ⟨a,e0',rfl⟩),λT hT=>by cases hT⟩|succ m=>
   have key:∀i,i<len->∃T:List UInt8,W.cell? ⟨a.block,a.off+i,none⟩=some (.string ⟨⟨T⟩⟩)/\D i=.lit (.string T)/\a.spot=none/\a.block<W.heap.size:=by
    intro i hil;obtain⟨c1,c2⟩:=hi i zy;obtain⟨⟨⟨T⟩⟩,s1,s2,_⟩:=DataW.trod_string uQ c2;have hV:V i=.string ⟨⟨T⟩⟩:=by simpa using s1
    have hD:D i=.lit (.string T):=wO Prod.fst s2;rw[hV]at c1;obtain⟨z1,z2⟩:=hi 0 zy;have hsp:a.spot=none:=by simpa[Addr.add]using World.cell?_spot z1
    have hbl:a.block<W.heap.size:=by simpa[Addr.add]using pg _ _ z1
    refine⟨T,?_,hD,hsp,hbl⟩;obtain⟨ab,ao,asp⟩:=a;cases hsp;rw[show(⟨ab,ao,none⟩:Addr).add i=⟨ab,ao+i,none⟩ by simp[Addr.add]]at c1;exact c1
   obtain⟨l,hl,hk⟩:=c5t len key;have hll:(ls_ l).length=len:=by rw[a5q,hl]
   have h0:0<len->a.spot=none/\a.block<W.heap.size:=λh=>by obtain⟨T,_,_,q⟩:=key 0 h;exact q
   refine⟨l,?_,λT hT=>?_⟩;cases len with
    |zero=>
     have:l=[]:=vI.1 hl;subst this;obtain⟨z1,z2⟩:=hi 0 zy;have hsp:a.spot=none:=by simpa[Addr.add]using World.cell?_spot z1
     have hbl:a.block<W.heap.size:=by simpa[Addr.add]using pg _ _ z1
     exact Or.inr (Or.inr ⟨a,m,e0',vY _,hsp,hbl,λi z hz=>by cases hz⟩)|succ len=>obtain⟨q1,q2⟩:=h0 (qw _);refine Or.inr (Or.inr ⟨a,m,by rw[hll];exact e0',by rw[hll];exact hle,q1,q2,λi z hz=>?_⟩);unfold ls_ at hz;rw[wE]at hz;cases e:l[i]? with|none=>rw[e]at hz;cases hz|some T=>rw[e]at hz;cases hz;exact(hk i T e).1
   obtain⟨i,hiT⟩:=uD.1 hT;have hil:i<len:=by rw[<-hl];exact(xC.1 hiT).1
   have hD:=(hk i T hiT).2.1;have hmem:(DataW.lit (.string T):DataW H)∈(List.range len).map D:=uj.2 ⟨i,uw.2 hil,hD⟩;have h1:=c1D hmem;rw[hx]at hb;simp only[Rows.uptoBulk]at hb h1;omega
theorem c6D {H}{enc:TypeId×Value->H}{W fuel cs x}(h:DataW.trod enc Tryz.prog W 0 (λ_=>true) true fuel 54 cs=some x)(hb:Rows.uptoBulk x.1<=1048576):cs.length=10/\∀(k:Nat) (v),cs[k]?=some v->∃l,a9G W v (ls_ l)/\∀T∈l,T.length<1100000:=by
 obtain⟨xs,n,_,hx,hl,hlen,hf⟩:=DataW.trod_struct Tryz.underlying54 h;have hl:cs.length=10:=hl.trans zw;have k52:Tryz.prog.cellsOf 52=9:=zw;have k38:Tryz.prog.cellsOf 38=1:=zw;have f0:DataW.trod enc Tryz.prog W 0 (λ_=>true) true n 52 ((cs.drop 0).take (Tryz.prog.cellsOf 52))=xs[0]?:=hf 0 _ rfl;have f1:DataW.trod enc Tryz.prog W 0 (λ_=>true) true n 38 ((cs.drop 9).take (Tryz.prog.cellsOf 38))=xs[1]?:=hf 1 _ rfl;have hlen:xs.length=2:=hlen.trans zw;obtain⟨y0,y1,rfl⟩:∃y0 y1,xs=[y0,y1]:=by match xs,hlen with|[y0,y1],_=>exact⟨y0,y1,rfl⟩
 rw[k52]at f0;rw[k38]at f1;have f0:DataW.trod enc Tryz.prog W 0 (λ_=>true) true n 52 ((cs.drop 0).take 9)=some y0:=f0;have f1:DataW.trod enc Tryz.prog W 0 (λ_=>true) true n 38 ((cs.drop 9).take 1)=some y1:=f1;obtain⟨zs,m,_,hz,hzl,hz9,hzf⟩:=DataW.trod_array Tryz.underlying52 f0;rw[k38]at hzf;rw[hx]at hb;have hb':Rows.uptoBulk y0.1+(Rows.uptoBulk y1.1+0)+1<=1048576:=hb;refine⟨hl,λk v hv=>?_⟩;have hk:k<10:=by rw[<-hl];exact(xC.1 hv).1
 have one:∀j,(cs.drop j).take 1=match cs[j]? with|some v=>[v]|none=>[]:=λj=>by rw[List.take_one,List.head?_drop];cases cs[j]? <;>rfl
 rcases uV k 9 with q|q;have:=hzf k q;rw[vQ,ug,List.drop_take,List.take_take,Nat.min_eq_left zy,one k,hv]at this;obtain⟨z,hzk⟩:∃z,zs[k]?=some z:=⟨_,wz zy⟩;rw[hzk]at this;refine b8E this ?_;have hm:z.1∈zs.map (·.1):=uj.2 ⟨z,wG hzk,rfl⟩;have h1:=c1D hm;rw[hz]at hb';have hb2:Rows.uptoBulkAll (zs.map (·.1))+1+(Rows.uptoBulk y1.1+0)+1<=1048576:=hb';omega;obtain rfl:k=9:=zy;rw[one 9,hv]at f1;exact b8E f1 zy
theorem d0V {W mL}(hL:LaidV (L6 mL) W)(T0 cs)(hcs:cs.length=10)(hn:∀(k:Nat) (v),cs[k]?=some v->∃l,a9G W v (ls_ l)/\∀T∈l,T.length<1100000):Calls Tryz.prog 8 #[.string ⟨⟨T0⟩⟩,.agg ⟨cs⟩] W λe W'=>e=.returned (.bool true)/\Below W.heap.size W W':=by
 have hsz:0<W.heap.size:=wY (show 0<(L6 mL).length from by show 0<7;decide) hL.size;obtain⟨a,ha⟩:∃a:Addr,a.block<W.heap.size:=⟨⟨0,0,none⟩,hsz⟩;obtain⟨Ys,hYs⟩:∃Ys:List YR,Ys=[]:=⟨[],rfl⟩;have hY:∀i y,Ys[i]?=some y->HandI W a i y:=λi y h=>by subst hYs;cases h
 have hll:=d2o mL (a.block,a.off) Ys;obtain⟨nl,hnl,hnk⟩:=c5t (p:=λk (l:List (List UInt8))=>∀v,cs[k]?=some v->a9G W v (ls_ l)/\∀T∈l,T.length<1100000) 10 λk hk=>by obtain⟨v,e⟩:∃v,cs[k]?=some v:=⟨_,wz zy⟩;obtain⟨l,h1⟩:=hn k v e;exact⟨l,λv' e'=>by rw[e]at e';cases e';exact h1⟩
 have hH:∀(k:Nat) (v:Value) (l:List (List UInt8)),cs[k]?=some v->nl[k]?=some l->a9G W v (ls_ l)/\∀T∈l,T.length<1100000:=λk v l h1 h2=>hnk k l h2 v h1;obtain⟨v_0,v_1,v_2,v_3,v_4,v_5,v_6,v_7,v_8,v_9,rfl⟩:∃v_0 v_1 v_2 v_3 v_4 v_5 v_6 v_7 v_8 v_9,cs=[v_0,v_1,v_2,v_3,v_4,v_5,v_6,v_7,v_8,v_9]:=by match cs,hcs with|[v_0,v_1,v_2,v_3,v_4,v_5,v_6,v_7,v_8,v_9],_=>exact⟨_,_,_,_,_,_,_,_,_,_,rfl⟩
 obtain⟨n_0,n_1,n_2,n_3,n_4,n_5,n_6,n_7,n_8,n_9,rfl⟩:∃n_0 n_1 n_2 n_3 n_4 n_5 n_6 n_7 n_8 n_9,nl=[n_0,n_1,n_2,n_3,n_4,n_5,n_6,n_7,n_8,n_9]:=by match nl,hnl with|[n_0,n_1,n_2,n_3,n_4,n_5,n_6,n_7,n_8,n_9],_=>exact⟨_,_,_,_,_,_,_,_,_,_,rfl⟩
 generalize hB:(a6w mL Ys).length=B at*;have hB8:8<=B:=by have h7:(L6 mL).length=7:=rfl;rw[<-hB];unfold a6w;simp only[wW,wU,h7];omega
 have hrow:∀(k:Nat) (l:List (List UInt8)),[n_0,n_1,n_2,n_3,n_4,n_5,n_6,n_7,n_8,n_9][k]?=some l->(a6w mL Ys++([n_0,n_1,n_2,n_3,n_4,n_5,n_6,n_7,n_8,n_9].map ls_))[B+k]?=some (ls_ l):=λk l h=>by rw[wH zy,hB,show B+k-B=k by omega,wE,h];rfl
 have hloc:∀(k:Nat) (v:Value),[v_0,v_1,v_2,v_3,v_4,v_5,v_6,v_7,v_8,v_9][k]?=some v->(a6D (a.block,a.off) Ys++([v_0,v_1,v_2,v_3,v_4,v_5,v_6,v_7,v_8,v_9].map pOf))[B+k]?=some (pOf v):=λk v h=>by rw[wH zy,hll,show B+k-B=k by omega,wE,h];rfl
 have hS:∀(k:Nat) (v:Value) (l:List (List UInt8)),[v_0,v_1,v_2,v_3,v_4,v_5,v_6,v_7,v_8,v_9][k]?=some v->[n_0,n_1,n_2,n_3,n_4,n_5,n_6,n_7,n_8,n_9][k]?=some l->U8 (Go.V.a3a (a6w mL Ys++([n_0,n_1,n_2,n_3,n_4,n_5,n_6,n_7,n_8,n_9].map ls_))).c (Go.V.a3a (a6w mL Ys++([n_0,n_1,n_2,n_3,n_4,n_5,n_6,n_7,n_8,n_9].map ls_))).h (sv (c3y (B+k) v)) l/\∀T∈l,T.length<1100000:=λk v l h1 h2=>by obtain⟨q1,q2⟩:=hH k v l h1 h2;exact⟨d0x q1 (hrow k l h2),q2⟩
 obtain⟨M,hM⟩:∃M,3000001<=M:=⟨3000001,xD _⟩;obtain⟨x,s,hrun,hx⟩:=c6H (T:=T0) (xs:=λk=>c3y (B+k) ([v_0,v_1,v_2,v_3,v_4,v_5,v_6,v_7,v_8].getD k undef)) (xl:=c3y (B+9) v_9) (Xs:=λk=>[n_0,n_1,n_2,n_3,n_4,n_5,n_6,n_7,n_8].getD k []) (Xl:=n_9) (λk hk=>by match k,hk with|0,_=>exact hS 0 _ _ rfl rfl|1,_=>exact hS 1 _ _ rfl rfl|2,_=>exact hS 2 _ _ rfl rfl|3,_=>exact hS 3 _ _ rfl rfl|4,_=>exact hS 4 _ _ rfl rfl|5,_=>exact hS 5 _ _ rfl rfl|6,_=>exact hS 6 _ _ rfl rfl|7,_=>exact hS 7 _ _ rfl rfl|8,_=>exact hS 8 _ _ rfl rfl) (hS 9 _ _ rfl rfl).1 (hS 9 _ _ rfl rfl).2 M hM [] [];subst hx;have hrun':o8 A9 (M+1) 8 [.string ⟨⟨T0⟩⟩,.agg ⟨[a4I B v_0,a4I (B+1) v_1,a4I (B+2) v_2,a4I (B+3) v_3,a4I (B+4) v_4,a4I (B+5) v_5,a4I (B+6) v_6,a4I (B+7) v_7,a4I (B+8) v_8,a4I (B+9) v_9]⟩] (Go.V.a3a (a6w mL Ys++([n_0,n_1,n_2,n_3,n_4,n_5,n_6,n_7,n_8,n_9].map ls_)))=some (.ret (.bool true),s):=by rw[<-a5D,<-a5D,<-a5D,<-a5D,<-a5D,<-a5D,<-a5D,<-a5D,<-a5D,<-a5D];exact hrun
 refine b8b (vs:=L6 mL) (rows:=a6w mL Ys++([n_0,n_1,n_2,n_3,n_4,n_5,n_6,n_7,n_8,n_9].map ls_)) (args':=[.string ⟨⟨T0⟩⟩,.agg ⟨[v_0,v_1,v_2,v_3,v_4,v_5,v_6,v_7,v_8,v_9]⟩]) a0n U6 (a6D (a.block,a.off) Ys++([v_0,v_1,v_2,v_3,v_4,v_5,v_6,v_7,v_8,v_9].map pOf)) ?_ ?_ ?_ ?_ hL (pL5 (mL:=mL)).e (pL5 (mL:=mL)).s Tryz.func8 zw rfl ?_ rfl hrun';rw[wW,wW,hll,hB];rfl;intro p hp;rcases vN.1 hp with hp|hp;exact d7b hL a ha Ys hY p hp;obtain⟨v,hv,rfl⟩:=uj.1 hp;obtain⟨k,hk⟩:=uD.1 hv;have hk10:k<10:=(xC.1 hk).1;obtain⟨l,hl⟩:∃l,[n_0,n_1,n_2,n_3,n_4,n_5,n_6,n_7,n_8,n_9][k]?=some l:=⟨_,wz hk10⟩;exact d6g hsz (hH k v l hk hl).1;intro b p l hp hl off x hx;rcases uV b B with hb|hb;rw[vw zy]at hp;rw[vw zy]at hl;obtain⟨x',g1,g2⟩:=c9c hL a ha Ys hY b p l hp hl off x hx;exact⟨x',g1,g2.mono (d2x _ _)⟩;obtain⟨m,rfl⟩:∃m,b=B+m:=⟨b-B,zy⟩;rw[wH zy,hll,show B+m-B=m by omega,wE]at hp;rw[wH zy,hB,show B+m-B=m by omega,wE]at hl;cases hv':[v_0,v_1,v_2,v_3,v_4,v_5,v_6,v_7,v_8,v_9][m]? with
  |none=>rw[hv']at hp;cases hp|some v=>
   cases hl':[n_0,n_1,n_2,n_3,n_4,n_5,n_6,n_7,n_8,n_9][m]? with
    |none=>rw[hl']at hl;cases hl|some nm=>
     rw[hv']at hp;rw[hl']at hl;cases hp;cases hl;have hpl:plain x=true:=by have:=wG hx;unfold ls_ at this;obtain⟨T,_,rfl⟩:=uj.1 this;rfl
     exact⟨x,c6q (hH m v nm hv' hl').1 off x hx,VR.plain hpl⟩
 ·intro g hg;have hg':g<7:=hg;rcases g with _|_|_|_|_|_|_|g;all_goals first|rfl|omega
 refine VRL.cons (VR.plain rfl) (VRL.cons (VR.agg rfl λj x' x hx' hx=>?_) (VRL.nil _));have hv2:∀(k:Nat) (v:Value) (l:List (List UInt8)),[v_0,v_1,v_2,v_3,v_4,v_5,v_6,v_7,v_8,v_9][k]?=some v->[n_0,n_1,n_2,n_3,n_4,n_5,n_6,n_7,n_8,n_9][k]?=some l->VR (a4F (a6D (a.block,a.off) Ys++([v_0,v_1,v_2,v_3,v_4,v_5,v_6,v_7,v_8,v_9].map pOf))) v (a4I (B+k) v):=λk v l h1 h2=>d2b (hH k v l h1 h2).1 (hloc k v h1);rcases j with _|_|_|_|_|_|_|_|_|_|j;cases hx';cases hx;exact hv2 0 _ _ rfl rfl;cases hx';cases hx;exact hv2 1 _ _ rfl rfl;cases hx';cases hx;exact hv2 2 _ _ rfl rfl;cases hx';cases hx;exact hv2 3 _ _ rfl rfl;cases hx';cases hx;exact hv2 4 _ _ rfl rfl;cases hx';cases hx;exact hv2 5 _ _ rfl rfl;cases hx';cases hx;exact hv2 6 _ _ rfl rfl;cases hx';cases hx;exact hv2 7 _ _ rfl rfl;cases hx';cases hx;exact hv2 8 _ _ rfl rfl;cases hx';cases hx;exact hv2 9 _ _ rfl rfl;cases hx'
theorem d7C {W base v}(h:Value.okWide Tryz.prog W .any base 9 v):∃bs,v=.string bs:=by
 have h1:Cell.okWide Tryz.prog W .any base 9 v:=by unfold Value.okWide at h;rw[uQ]at h;exact h
 have h2:Cell.ok Tryz.prog W .any base 9 v:=by unfold Cell.okWide at h1;rw[uQ]at h1;cases v<;>exact h1
 cases v with|string bs=>exact⟨bs,rfl⟩|_=>unfold Cell.ok at h2;rw[uQ]at h2;exact(h2:False).elim
theorem c1p {H}{enc:TypeId×Value->H}{W base v0 v1 d0 d1 p0 p1 mL}(hL:LaidV (L6 mL) W)(hv0:Value.okWide Tryz.prog W .any base 9 v0)(hv1:Value.okWide Tryz.prog W .any base 54 v1)(h0:DataW.Trod enc Tryz.prog W 0 (λ_=>true) true 9 v0 d0 p0)(h1:DataW.Trod enc Tryz.prog W 0 (λ_=>true) true 54 v1 d1 p1)(hk:Rows.uptoBulkAll [d0,d1]<=1048576):Calls Tryz.prog 8 #[v0,v1] W λe W'=>e=.returned (.bool true)/\Below W.heap.size W W':=by
 obtain⟨f1,hf1⟩:=h1;have hb1:Rows.uptoBulk d1<=1048576:=by have:Rows.uptoBulk d0+(Rows.uptoBulk d1+0)<=1048576:=hk;omega
 obtain⟨⟨cs⟩,rfl⟩:∃cs:Array Value,v1=.agg cs:=by unfold Value.okWide at hv1;rw[Tryz.underlying54]at hv1;obtain⟨cs,rfl,_⟩:=hv1;exact⟨cs,rfl⟩
 obtain⟨hc,hn⟩:=c6D hf1 hb1;obtain⟨⟨⟨T⟩⟩,rfl⟩:=d7C hv0;exact d0V hL T cs hc hn
theorem d2h {H}{enc:TypeId×Value->H}{P w b sp held n t e k fuel cs}{zs:List Int}{p}(ht:P.underlying t=some (.array n e))(he:P.underlying e=some (.int k))(hc:P.cellsOf e=1)(hct:P.cellsOf t=n)(h:DataW.trod enc P w b sp held fuel t cs=some (.agg (zs.map λz=>.lit (.int k z)),p)):cs=zs.map λz=>.int k z:=by
 obtain⟨xs,m,_,hx,hl,hlen,hf⟩:=DataW.trod_array ht h;have hx1:zs.map (λz=>(DataW.lit (.int k z):DataW H))=xs.map (·.1):=by have:=wO Prod.fst hx;simpa using this
 have hzs:zs.length=n:=by have:=wO List.length hx1;simpa[hlen]using this
 rw[hct]at hl;refine vK λi=>?_;by_cases hi:i<n;have h1:=hf i hi;rw[hc,vQ,wz zy]at h1;obtain⟨z,e1,e2,_⟩:=DataW.trod_int he h1;have e3:(xs.map (·.1))[i]?=some (DataW.lit (.int k z)):=by rw[wE,wz zy,rO,e2]
 rw[<-hx1,wE,wz zy,rO]at e3;have e4:zs[i]=z:=by simpa using e3
 have e5:(cs.drop i)[0]?=some (.int k z):=by have:=wO (λl=>l[0]?) e1;simpa[uP]using this
 rw[uW,vZ]at e5;rw[e5,wE,wz zy,e4];rfl;rw[wT zy,wT zg]
theorem b1G {W name G T e n k}{zs:List Int}(hG:Tryz.prog.globalNamed name=some G)(hT:(Tryz.prog.globals[G]?).map (·.type)=some T)(ht:Tryz.prog.underlying T=some (.array n e))(he:Tryz.prog.underlying e=some (.int k))(hc:Tryz.prog.cellsOf e=1)(hct:Tryz.prog.cellsOf T=n){g}{t}{cs}{fuel}{p}(h1:Tryz.prog.globalNamed name=some g)(h2:(Tryz.prog.globals[g]?).map (·.type)=some t)(h3:W.var? Tryz.prog name=some cs)(h4:DataW.trod (λ_=>()) Tryz.prog W 0 (λ_=>true) false fuel t cs.toList=some (.agg (zs.map λz=>.lit (.int k z)),p)):∃ty fz,W.heap[G]?=some (.cells ⟨zs.map λz=>.int k z⟩ ty fz):=by
 obtain rfl:G=g:=uJ (hG.symm.trans h1);obtain rfl:T=t:=uJ (hT.symm.trans h2);have hcs:=d2h ht he hc hct h4;have ecs:cs=⟨zs.map λz=>.int k z⟩:=by obtain⟨l⟩:=cs;exact wO Array.mk hcs
 subst ecs;unfold World.var? at h3;rw[hG,Option.bind_some]at h3;split at h3;rename_i cs' ty fz hh;cases h3;exact⟨_,_,hh⟩;cases h3
theorem d0I {W}(h:laidMet Tryz.prog Rows.asmLinesRow.laid W):(∃ty fz,W.heap[5]?=some (.cells ⟨b2X⟩ ty fz))/\(∃ty fz,W.heap[4]?=some (.cells ⟨b3c⟩ ty fz))/\(∃ty fz,W.heap[2]?=some (.cells ⟨b3r⟩ ty fz))/\∃ty fz,W.heap[0]?=some (.cells ⟨a3u⟩ ty fz):=by obtain⟨ps,hV,_⟩:=h;obtain⟨g1,t1,cs1,f1,p1,q1,a1,b1,c1,d1,hV,_⟩:=hV;obtain⟨g2,t2,cs2,f2,p2,q2,a2,b2,c2,d2,hV,_⟩:=hV;obtain⟨g3,t3,cs3,f3,p3,q3,a3,b3,c3,d3,hV,_⟩:=hV;obtain⟨g4,t4,cs4,f4,p4,q4,a4,b4,c4,d4,hV,_⟩:=hV;obtain⟨g5,t5,cs5,f5,p5,q5,a5,b5,c5,d5,hV,_⟩:=hV;have x1:(Rows.laid_math_bits_deBruijn32tab:DataW Unit)=.agg ((b2X.map intOf).map λz=>.lit (.int .u8 z)):=zw;have x2:(Rows.laid_math_bits_deBruijn64tab:DataW Unit)=.agg ((b3c.map intOf).map λz=>.lit (.int .u8 z)):=zw;have x3:(Rows.laid_internal_strconv_uint64pow10:DataW Unit)=.agg ((b3r.map intOf).map λz=>.lit (.int .u64 z)):=zw;have x5:(Rows.laid_strings_asciiSpace:DataW Unit)=.agg ((a3u.map intOf).map λz=>.lit (.int .u8 z)):=zw;have y1:(b2X.map intOf).map (λz=>Value.int .u8 z)=b2X:=zw;have y2:(b3c.map intOf).map (λz=>Value.int .u8 z)=b3c:=zw;have y3:(b3r.map intOf).map (λz=>Value.int .u64 z)=b3r:=zw;have y5:(a3u.map intOf).map (λz=>Value.int .u8 z)=a3u:=zw;rw[x1]at d1;rw[x2]at d2;rw[x3]at d3;rw[x5]at d5;have z1:=b1G (G:=5) (T:=271) zw zw Tryz.underlying271 uR zw zw a1 b1 c1 d1;have z2:=b1G (G:=4) (T:=253) zw zw Tryz.underlying253 uR zw zw a2 b2 c2 d2;have z3:=b1G (G:=2) (T:=250) zw zw Tryz.underlying250 qO zw zw a3 b3 c3 d3;have z5:=b1G (G:=0) (T:=219) zw zw Tryz.underlying219 uR zw zw a5 b5 c5 d5;rw[y1]at z1;rw[y2]at z2;rw[y3]at z3;rw[y5]at z5;exact⟨z1,z2,z3,z5⟩
theorem e6A:((begin Tryz.prog (λ_ _=>0) default).world.heap[3]?).bind Obj.row?=some (#[.int .i64 0],3):=zw
theorem e3X:(((begin Tryz.prog (λ_ _=>0) default).world.heap[6]?).bind Obj.row?).isSome=true:=zw
theorem d2n {W}(h:laidMet Tryz.prog Rows.asmLinesRow.laid W)(hS:W.ShapedOpen Tryz.prog):∃mL,LaidV (L6 mL) W:=by
 obtain⟨⟨t5,z5,h5⟩,⟨t4,z4,h4⟩,⟨t2,z2,h2⟩,⟨t0,z0,h0⟩⟩:=d0I h;have hg:Tryz.prog.globals.size=7:=zw;obtain⟨cs,e3,hsz,hrow⟩:=hS.1 3 _ _ (by rw[hg];decide) e6A;obtain⟨⟨zero6,ty6⟩,e6⟩:=sH.1 e3X;obtain⟨cs6,e6',_,_⟩:=hS.1 6 _ _ (by rw[hg];decide) e6;obtain⟨ts,hts,_,hc⟩:=hrow zw;have ets:ts=[3]:=(uJ ((show Tryz.prog.cellTypes Tryz.prog.depth 3=some [3] by kernel_rfl).symm.trans hts)).symm;subst ets;obtain⟨l⟩:=cs;have hl:l.length=1:=hsz;obtain⟨x,rfl⟩:∃x,l=[x]:=by match l,hl with|[x],_=>exact⟨x,rfl⟩
 obtain⟨u,hu,hk⟩:=hc 0 x rfl;cases hu;unfold Cell.ok at hk;rw[sP]at hk;obtain⟨m,rfl⟩:∃m,x=.int .i64 m:=by cases x with|int k n=>obtain⟨rfl,_⟩:=hk;exact⟨n,rfl⟩|_=>exact(hk:False).elim
 have hrows:∀(g:Nat) (l:List Value),(L6 m)[g]?=some l->l≠[]->∃t fz,W.heap[g]?=some (.cells ⟨l⟩ t fz):=by intro g l hl hne;rcases g with _|_|_|_|_|_|_|g;cases hl;exact⟨_,_,h0⟩;cases hl;exact absurd rfl hne;cases hl;exact⟨_,_,h2⟩;cases hl;exact⟨_,_,e3⟩;cases hl;exact⟨_,_,h4⟩;cases hl;exact⟨_,_,h5⟩;cases hl;exact absurd rfl hne;cases hl
 refine⟨m,?_,λg l hl off v hv=>?_,hrows⟩;rcases uV 6 W.heap.size with q|q;exact q;rw[Array.getElem?_eq_none q]at e6';cases e6';obtain⟨t,fz,hh⟩:=hrows g l hl (λe=>by rw[e]at hv;cases hv);simp only[World.cell?,hh];simpa using hv
end S
end Go.Proofs.YtmomonnlmbljoaaGreatDoor
section
namespace Go
open Go.ChangeShapes
section
variable {H:Type}{enc:TypeId×Value->H}
end
end Go
end
