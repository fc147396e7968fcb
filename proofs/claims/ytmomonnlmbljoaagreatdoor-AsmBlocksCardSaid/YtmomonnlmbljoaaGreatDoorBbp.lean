import Derived.Test.YtmomonnlmbljoaaGreatDoorBbo
set_option maxRecDepth 1000000
set_option maxHeartbeats 4000000
set_option linter.unusedVariables false
set_option linter.unusedSimpArgs false
section
namespace Go.Proofs.YtmomonnlmbljoaaGreatDoor
open Go.V Go.RowKit Go.Shelf Go.Proofs
variable {mL:Int}
attribute [local congr] y7 x9 A8 A7 D5 z8 E5 G8 G7
theorem d5u:b5W.size=4:=zw
theorem d7v:Nat.blt b5W.bytes 4096=true:=zw
theorem d6G:b9W.size=4:=zw
theorem d5Y:Nat.blt b9W.bytes 4096=true:=zw
inductive Rd where
 | ok (l:List Nd) (i:Nat)
 | er (p e:Nat)
noncomputable def b2f (i deep op:Nat)(acc:List Nd):Rd:=bcase (decide (deep=0)) (.ok acc i) (.er op 3)
noncomputable def a1Y (ts:List Tok):Nat->Nat->Nat->Nat->List Nd->Rd|0,_,_,_,_=>.er 0 1|k+1,i,deep,op,acc=>match ts[i]? with|none=>b2f i deep op acc|some t=>bcase (decide (t.k=4)) (b2f i deep op acc) (bcase (decide (t.k=1)) (bcase (decide (deep=0)) (.er t.p 4) (.ok acc (i+1))) (bcase (decide (t.k=0)) (bcase (decide (deep=200)) (.er t.p 6) (match a1Y ts k (i+1) (deep+1) t.p []with|.er p e=>.er p e|.ok l j=>a1Y ts k j deep op (acc++[.mk 0 t.p [] l]))) (a1Y ts k (i+1) deep op (acc++[.mk t.k t.p t.t []]))))
theorem b5x {g}:∀(cs) (n j m) (vs),y8 g cs n=some vs->j+m<=n->y8 g (H9 cs j) m=some ((vs.drop j).take m):=by
 intro cs;induction cs with
  |nil=>intro n j m vs h hj;cases n with|zero=>have:j=0:=zy;subst this;have:m=0:=zy;subst this;rw[a0i,V9];rfl|succ n=>cases h
  |cons c cs ih=>
   intro n j m vs h hj;obtain⟨y,st⟩:=c;cases n with
    |zero=>have:j=0:=zy;subst this;have:m=0:=zy;subst this;rw[V9];rfl|succ n=>
     have h':(match Nat.ble st g with|true=>(match y8 g cs n with|some vs=>some (y::vs)|none=>none)|false=>none)=some vs:=h;cases q1:Nat.ble st g with
      |false=>rw[q1]at h';cases h'|true=>
       rw[q1]at h';cases q2:y8 g cs n with
        |none=>rw[q2]at h';cases h'|some vs'=>
         rw[q2]at h';cases h';cases j with
          |zero=>cases m with|zero=>rw[V9];rfl|succ m=>have:=ih n 0 m vs' q2 zy;rw[a0i]at this⊢;show(match Nat.ble st g with|true=>(match y8 g cs m with|some vs=>some (y::vs)|none=>none)|false=>none)=_;rw[q1,this];rfl
          |succ j=>show y8 g (H9 cs j) m=_;exact ih n j m vs' q2 zy
theorem b2p {α:Type}(f:α->List Value)(sz)(hf:∀x,(f x).length=sz):∀(l:List α) (i) (x),l[i]?=some x->((l.flatMap f).drop (i*sz)).take sz=f x/\i*sz+sz<=(l.flatMap f).length:=by
 intro l;induction l with
  |nil=>intro i x h;cases h|cons y l ih=>
   intro i x h;rw[vU];cases i with
    |zero=>cases h;rw[tT,uC,pG (by rw[hf];exact wQ _),sP (by rw[hf];exact wQ _),wG,hf];exact⟨rfl,zy⟩|succ i=>
     obtain⟨h1,h2⟩:=ih i x h;have e:(i+1)*sz=(f y).length+i*sz:=by rw[hf,tJ];omega
     rw[e,List.drop_append,tQ zy,uK,vR,h1,wG];exact⟨rfl,zy⟩
theorem X4.at {α:Type}{f sz c h u}{l:List α}(H:X4 sz c h u (l.flatMap f))(hf:∀x,(f x).length=sz)(h0:sz≠0){i x}(hi:l[i]?=some x):∃ab g cs,ab<c/\u.own ab/\h.get ab=some (.cells cs g false)/\(∀k,a7i sz (.slice u.a u.n u.e) (.int k (.ofNat i))=M.pure (.pointer (some ⟨ab,i*sz,some g⟩)))/\y8 g (H9 cs (i*sz)) sz=some (f x)/\∀(j) (y),(f x)[j]?=some y->y8 g (H9 cs (i*sz+j)) 1=some [y]:=by
 obtain⟨h1,h2|⟨ab,g,cs,h2,h3,h4,h5,h6,h7⟩⟩:=H;have hl:(l.flatMap f).length=0:=by rw[h1,h2];exact tT _
 have:=(b2p f sz hf l i x hi).2;omega;obtain⟨e1,e2⟩:=b2p f sz hf l i x hi;have hlen:u.n=l.length:=by
  have hgen:∀l:List α,(l.flatMap f).length=l.length*sz:=by intro l;induction l with|nil=>simp|cons y l ih=>rw[vU,wG,ih,hf,wI,tJ];omega
  rw[hgen]at h1;exact(oP (Nat.pos_of_ne_zero h0) h1).symm
 have hlt:=(wM.1 hi).1;have e3:=b5x cs _ (i*sz) sz _ h7 e2;rw[e1]at e3;obtain⟨ua,un,ue⟩:=u;simp only at h2 h3 hlen;subst h2;subst h3;subst hlen;refine⟨ab,g,cs,h4,⟨_,rfl,rfl⟩,h5,λk=>by rw[a1C ue i l.length k ab 0 (some g) hlt h0,vV],e3,λj y hy=>?_⟩;rw[a5a];exact a2I e3 j y hy
def b1Z (x:Nd×Sl):List Value:=[.int .i64 (.ofNat x.1.k),.int .i64 (.ofNat x.1.p),.string ⟨⟨x.1.t⟩⟩,.slice x.2.a x.2.n x.2.e]
theorem X4.nd {U c h u}{rows:List (Nd×Sl)}(H:X4 4 c h u (rows.flatMap b1Z))(hU:∀i,u.own i->U i)(hn:∀x∈rows,NdL U h x.2 x.1.l/\x.1.t.length<900000)(hl:rows.length<900000):NdL U h u (rows.map (·.1)):=by
 have hgen:∀l:List (Nd×Sl),(l.flatMap b1Z).length=l.length*4:=by intro l;induction l with|nil=>simp|cons y l ih=>rw[vU,wG,ih,wI,tJ];show 4+_=_;omega
 obtain⟨h1,h2|⟨ab,g,cs,h2,h3,h4,h5,h6,h7⟩⟩:=H;have:rows=[]:=by
  have h0:(rows.flatMap b1Z).length=0:=by rw[h1,h2];rfl
  rw[hgen]at h0;exact uz.1 zy
 subst this;subst h2;exact .nil;rw[hgen]at h1;have hn':u.n=(rows.map (·.1)).length:=by rw[wF];omega
 obtain⟨ua,un,ue⟩:=u;simp only at h2 h3 hn';subst h2;subst h3;subst hn';have hat:∀(i:Nat) (n:Nd),(rows.map (·.1))[i]?=some n->∃x,rows[i]?=some x/\x.1=n:=λi n hi=>by rw[vM]at hi;cases e:rows[i]? with|none=>rw[e]at hi;cases hi|some x=>rw[e]at hi;cases hi;exact⟨x,rfl,rfl⟩
 refine .row (λi=>match rows[i]? with|some x=>x.2|none=>⟨none,0,0⟩) (hU ab ⟨_,rfl,rfl⟩) h5 (by rw[wF];exact hl) (λi n hi=>?_) λi n hi=>?_;obtain⟨x,hx,rfl⟩:=hat i n hi;obtain⟨e1,e2⟩:=b2p b1Z 4 (λ_=>rfl) rows i x hx;refine⟨(hn x (vP hx)).2,?_⟩;have e3:=b5x cs _ (i*4) 4 _ h7 e2;rw[e1]at e3;rw[hx,vV];exact e3;obtain⟨x,hx,rfl⟩:=hat i n hi;rw[hx];exact(hn x (vP hx)).1
end Go.Proofs.YtmomonnlmbljoaaGreatDoor
end
section
namespace Go.Proofs.YtmomonnlmbljoaaGreatDoor
open Go.V Go.RowKit Go.Shelf Go.Proofs
variable {mL:Int}
attribute [local congr] y7 x9 A8 A7 D5 z8 E5 G8 G7
theorem e3v (n a b c d):o8 D8 (n+1) 65 [a,b,c,d]=c6D o9 NN (o8 D8 n) a b c d:=d7Y (q:=c6D) (N:=NN) zw n a b c d
def z4:List (Value×Nat):=[(.slice none 0 0,0),(.int .i64 (.ofNat 0),0),(.int .i64 (.ofNat 0),0),(.int .i64 (.ofNat 0),0)]
def d9j (v:Sl)(i p e:Nat):List (Value×Nat):=[(.slice v.a v.n v.e,0),(.int .i64 (.ofNat i),0),(.int .i64 (.ofNat p),0),(.int .i64 (.ofNat e),0)]
structure TI (c0:Nat) (h0:Trie VObj) (c:Nat) (h:Trie VObj) (u:Sl) (rows:List (Nd×Sl)):Prop where
 le:c0+1≤c
 fr:∀ i,i<c0→h.get i=h0.get i
 bx:h.get c0=some (.cells z4 0 false)
 g:X4 4 c h u (rows.flatMap b1Z)
 o:∀ i,u.own i→c0<i
 nd:∀ x∈rows,NdL (fun i=>c0<i∧i<c∧¬ u.own i) h x.2 x.1.l∧x.1.t.length<900000
theorem b8l:∀bs:List (Nd×Sl),(bs.flatMap b1Z).length=bs.length*4:=by intro bs;induction bs with|nil=>rfl|cons R Rs ih=>rw[vU,wG,ih,wI];show 4+_=_;omega
theorem TI.n {c0 c h0 h u rows}(H:TI c0 h0 c h u rows):u.n=rows.length:=by have:=H.g.1;rw[b8l]at this;omega
theorem TI.to {c0 c h0 h u rows}(H:TI c0 h0 c h u rows){c' h'}(hc:c<=c')(hs:∀i,i<c->h'.get i=h.get i):TI c0 h0 c' h' u rows:=by have le:=H.le;exact⟨zy,λi hi=>(hs i zy).trans (H.fr i hi),(hs c0 zy).trans H.bx,H.g.mono hc λb k _=>hs b k,H.o,λx hx=>⟨(H.nd x hx).1.mono λi k=>⟨⟨k.1,wD k.2.1 hc,k.2.2⟩,hs i k.2.1⟩,(H.nd x hx).2⟩⟩
theorem TI.app {β c0 c h0 h u rows x v b}{f:Value->M β}{Q r w}(H:TI c0 h0 c h u rows)(hl:rows.length<1000000)(hx:NdL (λi=>c0<i/\i<c/\¬u.own i) h v x.l)(ht:x.t.length<900000)(b2:b<c)(hb:h.get b=some (.cells [(.int .i64 (.ofNat x.k),0),(.int .i64 (.ofNat x.p),0),(.string ⟨⟨x.t⟩⟩,0),(.slice v.a v.n v.e,0)] 0 false))(k:∀(u') (c') (h') (r' w'),c<=c'->(∀i,i<c->¬u.own i->h'.get i=h.get i)->TI c0 h0 c' h' u' (rows++[(x,v)])->l9 (go (f (.slice u'.a u'.n u'.e)) ⟨c',h',r',w'⟩) Q):l9 (R8 (go (a4F b5W (.slice u.a u.n u.e) (.slice (some ⟨b,0,some 0⟩) 1 4)) ⟨c,h,r,w⟩) f) Q:=by
 have hn:=H.n;refine l9.bindS (a5b (x:=⟨some ⟨b,0,some 0⟩,1,4⟩) (xs:=b1Z (x,v)) d5u zu d7v H.g ⟨rfl,Or.inr ⟨b,0,0,_,0,false,rfl,rfl,b2,hb,rfl⟩⟩ rfl zV r w) λy s hq=>?_;obtain⟨c',h',r',w'⟩:=s;obtain⟨u',rfl,hn',hg,hc,hs1,hown,hww⟩:=hq;have hc:c<=c':=hc;have le:=H.le;have ho':∀i,u'.own i->u.own i\/c<=i:=λi hi=>by rcases ui i c with k1|k1;exact Or.inl (hown i k1 hi);exact Or.inr k1
 have key:∀i,(c0<i/\i<c/\¬u.own i)->(c0<i/\i<c'/\¬u'.own i)/\h'.get i=h.get i:=λi k=>⟨⟨k.1,wD k.2.1 hc,λho=>by rcases ho' i ho with k1|k1;exact k.2.2 k1;have:=k.2.1;omega⟩,hs1 i k.2.1 k.2.2⟩;have hno:∀i,i<=c0->¬u.own i:=λi hi ho=>by have:=H.o i ho;omega
 refine k u' c' h' r' w' hc hs1 ⟨zy,λi hi=>(hs1 i zy (hno i zy)).trans (H.fr i hi),(hs1 c0 zy (hno c0 (wQ _))).trans H.bx,?_,λi hi=>?_,λy hy=>?_⟩;rw[uM,sQ];exact hg;rcases ho' i hi with k1|k1;exact H.o i k1;omega;rcases ut.1 hy with k1|k1;exact⟨(H.nd y k1).1.mono key,(H.nd y k1).2⟩;rw[vW]at k1;subst k1;exact⟨hx.mono key,ht⟩
theorem TI.fin {c0 c h0 h u rows}(H:TI c0 h0 c h u rows)(hl:rows.length<900000):NdL (λi=>c0<i/\i<c) h u (rows.map (·.1)):=H.g.nd (λi hi=>⟨H.o i hi,H.g.own_lt hi⟩) (λx hx=>⟨(H.nd x hx).1.mono λi k=>⟨⟨k.1,k.2.1⟩,rfl⟩,(H.nd x hx).2⟩) hl
def RdV (c0 c:Nat)(h:Trie VObj)(i0 n:Nat)(v:Sl)(i p e:Nat):Rd->Prop|.ok l j=>NdL (λb=>c0<b/\b<c) h v l/\i=j/\p=0/\e=0/\i0<=j/\j<=n|.er p' e'=>v=⟨none,0,0⟩/\i=0/\p=p'/\e=e'/\e'≠0
theorem RdV.mono {c0 c c' h h' i0 n v i p e rd}(H:RdV c0 c h i0 n v i p e rd)(hc:c<=c')(hs:∀b,c0<b->b<c->h'.get b=h.get b):RdV c0 c' h' i0 n v i p e rd:=by cases rd with|er p' e'=>exact H|ok l j=>exact⟨H.1.mono λb k=>⟨⟨k.1,wD k.2 hc⟩,hs b k.1 k.2⟩,H.2⟩
def e9P (c0:Nat)(h0:Trie VObj)(i0 n:Nat)(rd:Rd)(x:CR)(s:V.S):Prop:=c0<=s.c/\(∀i,i<c0->s.h.get i=h0.get i)/\∃v i p e,x=.ret (.agg ⟨[.slice v.a v.n v.e,.int .i64 (.ofNat i),.int .i64 (.ofNat p),.int .i64 (.ofNat e)]⟩)/\RdV c0 s.c s.h i0 n v i p e rd
def d5i (tu:Sl)(ts:List Tok)(k:Nat):Prop:=∀(m i deep op c0:Nat) (h0:Trie VObj) (r w:List Nat),X4 3 c0 h0 tu (ts.flatMap b5a)->ts.length-i<k->i<=ts.length->deep<201->l9 (go (o8 D8 (m+k+1) 65 [.slice tu.a tu.n tu.e,.int .i64 (.ofNat i),.int .i64 (.ofNat deep),.int .i64 (.ofNat op)]) ⟨c0,h0,r,w⟩) (e9P c0 h0 i ts.length (a1Y ts k i deep op []))
def e9d (c0:Nat)(h0:Trie VObj)(i0 n deep op:Nat)(rd:Rd)(y:Xc×List Value)(s:V.S):Prop:=(∃xs' u rows i,y=(.exit 0,xs')/\C9 xs' 70=.slice u.a u.n u.e/\C9 xs' 73=.int .i64 (.ofNat i)/\TI c0 h0 s.c s.h u rows/\rows.length<=i/\i<=n/\i0<=i/\rd=b2f i deep op (rows.map (·.1)))\/(∃xs' v i p e,y=(.ret,xs')/\s.h.get c0=some (.cells (d9j v i p e) 0 false)/\c0+1<=s.c/\(∀i,i<c0->s.h.get i=h0.get i)/\RdV c0 s.c s.h i0 n v i p e rd)
theorem a8C {ts:List Tok}{k i deep op:Nat}{acc:List Nd}{t:Tok}(h:ts[i]?=some t):a1Y ts (k+1) i deep op acc=bcase (decide (t.k=4)) (b2f i deep op acc) (bcase (decide (t.k=1)) (bcase (decide (deep=0)) (.er t.p 4) (.ok acc (i+1))) (bcase (decide (t.k=0)) (bcase (decide (deep=200)) (.er t.p 6) (match a1Y ts k (i+1) (deep+1) t.p []with|.er p e=>.er p e|.ok l j=>a1Y ts k j deep op (acc++[.mk 0 t.p [] l]))) (a1Y ts k (i+1) deep op (acc++[.mk t.k t.p t.t []])))):=by show(match ts[i]? with|none=>_|some t=>_)=_;rw[h]
section
variable {tu:Sl}{ts:List Tok}{c0:Nat}{h0:Trie VObj}{i0:Nat}
theorem n65 (hn:ts.length<900000)(htx:∀t∈ts,t.t.length<900000)(hG:X4 3 c0 h0 tu (ts.flatMap b5a))(K)(hP:∀j,j<K->d5i tu ts j)(m deep op)(hde:deep<201):∀(k e i) (c) (h) (u) (rows) (xs) (r w),k<=K->ts.length-i<k->i<=ts.length->i0<=i->rows.length<=i->TI c0 h0 c h u rows->C9 xs 73=.int .i64 (.ofNat i)->C9 xs 70=.slice u.a u.n u.e->l9 (go (U4 (d0b o9 NN (o8 D8 (m+K)) (.slice tu.a tu.n tu.e) (.int .i64 (.ofNat deep)) (.pointer (some ⟨c0,0,some 0⟩))) (k+e) xs) ⟨c,h,r,w⟩) (e9d c0 h0 i0 ts.length deep op (a1Y ts k i deep op (rows.map (·.1)))):=by
 intro k;induction k with
  |zero=>intro e i c h u rows xs r w hkK hk;omega|succ k ih=>
   intro e i c h u rows xs r w hkK hk hi hi0 hr H h1 h2;rw[vY k 1 e,Y5];have htn:tu.n=ts.length:=by have:=hG.1;rw[b8o]at this;omega
   cases ht:ts[i]? with
    |none=>
     have hge:=qc.1 ht;have e0:decide (i<tu.n)=false:=wP zy;have eS:a1Y ts (k+1) i deep op (rows.map (·.1))=b2f i deep op (rows.map (·.1)):=by show(match ts[i]? with|none=>_|some t=>_)=_;rw[ht]
     rw[eS];simp(disch:=try exact dz)only[b4R,h1,h2,dL,e0,↓gP,gY];exact l9.done (Or.inl ⟨_,u,rows,i,rfl,rfl,rfl,H,hr,hi,hi0,rfl⟩)|some t=>
     have hlt:=(wM.1 ht).1;have e0:decide (i<tu.n)=true:=wL zy;rw[a8C ht];obtain⟨ab,g,cs,b1,b2,b3,b4,b5,b6⟩:=hG.at (f:=b5a) (λ_=>rfl) zu ht;have t0:=b6 0 _ rfl;rw[vB]at t0;have le:=H.le;have b7:ab<c:=zy;have b8:=(H.fr ab b1).trans b3;have b9:ab≠c:=zy;have hinc:=J6 i zy;have b5':y8 g (H9 cs (i*3)) 3=some [.int .i64 (.ofNat t.k),.int .i64 (.ofNat t.p),.string ⟨⟨t.t⟩⟩]:=b5;have htl:=htx t (vP ht);have bx:=H.bx;have c1:c0<c:=zy;have c2:c0≠c:=zy;cases q4:decide (t.k=4)with
      |true=>simp(disch:=try exact dz)only[b4R,h1,h2,dL,di,e0,b4,b8,t0,q4,↓gP,gY,gT];exact l9.done (Or.inl ⟨_,u,rows,i,rfl,rfl,rfl,H,hr,hi,hi0,rfl⟩)|false=>
       rw[y9];cases q1:decide (t.k=1)with
        |true=>rw[A9];cases qd:decide (deep=0)with|true=>simp(disch:=try exact dz)only[b4R,h1,h2,dL,di,e0,b4,b8,t0,b5',q4,q1,qd,bx,z4,↓gP,gY,gT];refine l9.done (Or.inr ⟨_,⟨none,0,0⟩,0,t.p,4,rfl,o7 _ _ _,zV,λj hj=>?_,rfl,rfl,rfl,rfl,zu⟩);have k1:j≠c:=zy;have k2:j≠c0:=zy;simp(disch:=first|assumption|omega)only[d9];exact H.fr j hj|false=>simp(disch:=try exact dz)only[b4R,h1,h2,dL,di,e0,b4,b8,t0,b5',q4,q1,qd,hinc,bx,z4,↓gP,gY,gT];refine l9.done (Or.inr ⟨_,u,i+1,0,0,rfl,o7 _ _ _,zV,λj hj=>?_,(H.fin zy).mono λj k=>⟨⟨k.1,by have:=k.2;dsimp only;omega⟩,?_⟩,rfl,rfl,rfl,zy,hlt⟩);have k1:j≠c:=zy;have k2:j≠c0:=zy;simp(disch:=first|assumption|omega)only[d9];exact H.fr j hj;have k3:=k.1;have k4:=k.2;have k1:j≠c:=zy;have k2:j≠c0:=zy;simp(disch:=first|assumption|omega)only[d9]
        |false=>
         rw[y9];cases q0:decide (t.k=0)with
          |true=>
           rw[A9];cases qd:decide (deep=200)with
            |true=>simp(disch:=try exact dz)only[b4R,h1,h2,dL,di,e0,b4,b8,t0,b5',q4,q1,q0,qd,bx,z4,↓gP,gY,gT];refine l9.done (Or.inr ⟨_,⟨none,0,0⟩,0,t.p,6,rfl,o7 _ _ _,zV,λj hj=>?_,rfl,rfl,rfl,rfl,zu⟩);have k1:j≠c:=zy;have k2:j≠c0:=zy;simp(disch:=first|assumption|omega)only[d9];exact H.fr j hj|false=>
             have hdi:=J6 deep zy;have qd':=uQ qd;simp(disch:=try exact dz)only[b4R,h1,h2,dL,di,e0,b4,b8,t0,b5',q4,q1,q0,qd,hinc,hdi,↓gP,gY,gT];have hb:∀j,j<c->(V.upd (V.upd h c (.cells [(.int .i64 (.ofNat 0),0),(.int .i64 (.ofNat 0),0),(.string ⟨⟨[]⟩⟩,0)] 0 false)) c (.cells [(.int .i64 (.ofNat t.k),0),(.int .i64 (.ofNat t.p),0),(.string ⟨⟨t.t⟩⟩,0)] 0 false)).get j=h.get j:=λj hj=>by have k1:j≠c:=zy;simp(disch:=first|assumption|omega)only[d9]
             have hG2:X4 3 (c+1) (V.upd (V.upd h c (.cells [(.int .i64 (.ofNat 0),0),(.int .i64 (.ofNat 0),0),(.string ⟨⟨[]⟩⟩,0)] 0 false)) c (.cells [(.int .i64 (.ofNat t.k),0),(.int .i64 (.ofNat t.p),0),(.string ⟨⟨t.t⟩⟩,0)] 0 false)) tu (ts.flatMap b5a):=hG.mono zy λj k _=>(hb j zy).trans (H.fr j k);have hcall:=hP k zy (m+(K-(k+1))) (i+1) (deep+1) t.p (c+1) (V.upd (V.upd h c (.cells [(.int .i64 (.ofNat 0),0),(.int .i64 (.ofNat 0),0),(.string ⟨⟨[]⟩⟩,0)] 0 false)) c (.cells [(.int .i64 (.ofNat t.k),0),(.int .i64 (.ofNat t.p),0),(.string ⟨⟨t.t⟩⟩,0)] 0 false)) (c::c::c::ab::ab::r) (c::c::w) hG2 zy hlt zy;have eK:m+(K-(k+1))+k+1=m+K:=zy;rw[eK]at hcall;refine l9.bindC hcall λx s hq=>?_;obtain⟨c',h',r',w'⟩:=s;obtain⟨g1,g2,v,i2,p2,e2,rfl,hR⟩:=hq;have g1:c+1<=c':=g1;have g2:∀j,j<c+1->h'.get j=(V.upd (V.upd h c (.cells [(.int .i64 (.ofNat 0),0),(.int .i64 (.ofNat 0),0),(.string ⟨⟨[]⟩⟩,0)] 0 false)) c (.cells [(.int .i64 (.ofNat t.k),0),(.int .i64 (.ofNat t.p),0),(.string ⟨⟨t.t⟩⟩,0)] 0 false)).get j:=g2;have hs:∀j,j<c->h'.get j=h.get j:=λj hj=>(g2 j zy).trans (hb j hj);have hbc:=g2 c (wE c);rw[o7]at hbc;have bx':=(hs c0 c1).trans bx;have k4:c0≠c':=zy;have k5:c≠c':=zy;have k6:c<c':=zy;have k7:c0<c':=zy;cases q7:a1Y ts k (i+1) (deep+1) t.p []with
              |er p' e'=>rw[q7]at hR;obtain⟨rfl,rfl,rfl,rfl,hne⟩:=hR;have q8:decide (e2=0)=false:=wP hne;simp(disch:=try exact dz)only[di,q8,bx',z4,↓gP,gY,gT];refine l9.done (Or.inr ⟨_,⟨none,0,0⟩,0,p2,e2,rfl,o7 _ _ _,zV,λj hj=>?_,rfl,rfl,rfl,rfl,hne⟩);have k1:j≠c':=zy;have k2:j≠c0:=zy;simp(disch:=first|assumption|omega)only[d9];exact(hs j zy).trans (H.fr j hj)|ok l j2=>
               rw[q7]at hR;obtain⟨hN,rfl,rfl,rfl,j3,j4⟩:=hR;have hN:NdL (λb=>c+1<b/\b<c') h' v l:=hN;simp(disch:=try exact dz)only[hbc,↓gP,gY,gT];refine TI.app (x:=.mk 0 t.p [] l) (v:=v) ((H.to (c':=c') zy hs).to (c':=c'+1+1) zy λj hj=>?_) zy (hN.mono λj k=>⟨⟨by have:=k.1;omega,by have:=k.2;omega,λho=>by have:=H.g.own_lt ho;have:=k.1;omega⟩,?_⟩) (by show 0<900000;omega) (wE _) (o7 _ _ _) λu' c3 h3 r3 w3 hc3 hs3 H3=>?_;have k1:j≠c':=zy;have k2:j≠c'+1:=zy;simp(disch:=first|assumption|omega)only[d9];have k3:=k.2;have k1:j≠c':=zy;have k2:j≠c'+1:=zy;simp(disch:=first|assumption|omega)only[d9];have hno:∀j,c<=j->¬u.own j:=λj k ho=>by have:=H.g.own_lt ho;omega
               have hb3:=hs3 c' zy (hno _ zy);have k8:c'≠c'+1:=zy;simp(disch:=first|assumption|omega)only[d9,o7]at hb3;have k9:c'<c3:=zy;simp(disch:=try exact dz)only[hb3,↓gP,gY];have hfin:=ih e i2 c3 h3 u' (rows++[(.mk 0 t.p [] l,v)]);rw[ul]at hfin;refine hfin _ _ _ zy zy j4 zy zm H3 ?_ ?_;rfl;rfl
          |false=>simp(disch:=try exact dz)only[b4R,h1,h2,dL,di,e0,b4,b8,t0,b5',q4,q1,q0,hinc,↓gP,gY,gT];refine TI.app (x:=.mk t.k t.p t.t []) (v:=⟨none,0,0⟩) (H.to (c':=c+1+1) zy λj hj=>?_) zy .nil htl (wE _) (o7 _ _ _) λu' c3 h3 r3 w3 hc3 hs3 H3=>?_;have k1:j≠c:=zy;have k2:j≠c+1:=zy;simp(disch:=first|assumption|omega)only[d9];simp(disch:=try exact dz)only[↓gP,gY];have hfin:=ih e (i+1) c3 h3 u' (rows++[(.mk t.k t.p t.t [],⟨none,0,0⟩)]);rw[ul]at hfin;refine hfin _ _ _ zy zy zy zy zm H3 ?_ ?_;rfl;rfl
end
end Go.Proofs.YtmomonnlmbljoaaGreatDoor
end
section
namespace Go.Proofs.YtmomonnlmbljoaaGreatDoor
open Go.V Go.RowKit Go.Shelf Go.Proofs
variable {mL:Int}
attribute [local congr] y7 x9 A8 A7 D5 z8 E5 G8 G7
theorem e5l {tu ts}(hn:ts.length<900000)(htx:∀t∈ts,t.t.length<900000):∀B K,K<B->K<=950000->d5i tu ts K:=by
 intro B;induction B with
  |zero=>intro K h;omega|succ B ihB=>
   intro K hK hK9 m i deep op c0 h0 r w hG hk hi hde;have hNN:950001<=NN:=zu;obtain⟨e,hNe⟩:∃e,NN=K+e:=⟨NN-K,zy⟩;rw[e3v];simp(disch:=try exact dz)only[G65,↓gP,gY];have hT0:TI c0 h0 (c0+1) (V.upd h0 c0 (.cells z4 0 false)) ⟨none,0,0⟩ []:=⟨wQ _,λj hj=>d9 zy,o7 _ _ _,X4.nil _ _ _,λj hj=>(by obtain⟨a,h,_⟩:=hj;cases h),λx hx=>(by cases hx)⟩;have hloop:=n65 (i0:=i) hn htx hG K (λj hj=>ihB j zy zy) m deep op hde K e i (c0+1) _ ⟨none,0,0⟩ [] [undef,undef,undef,undef,undef,undef,undef,undef,undef,undef,undef,undef,undef,undef,undef,undef,undef,undef,undef,undef,undef,undef,undef,undef,undef,undef,undef,undef,undef,undef,undef,undef,undef,undef,undef,undef,undef,undef,undef,undef,undef,undef,undef,undef,undef,undef,undef,undef,undef,undef,undef,undef,undef,undef,undef,undef,undef,undef,undef,undef,undef,undef,undef,undef,undef,undef,undef,undef,undef,undef,.slice none 0 0,undef,undef,.int .i64 (.ofNat i)] r (c0::w) (wQ _) hk hi (wQ _) (vC _) hT0 rfl rfl;rw[<-hNe]at hloop;refine l9.bindJ hloop λy xs' s hq=>?_;obtain⟨c',h',r',w'⟩:=s;rcases hq with⟨xs1,u,rows,i2,e1,e2,e3,H,e4,e5,e6,e7⟩|⟨xs1,v,i2,p,e',e1,e2,e3,e4,e5⟩;cases e1;have le:=H.le;have bx:=H.bx;simp only at le bx;have k1:c0<c':=zy;rw[qV]at e7;rw[e7];unfold b2f;cases qd:decide (deep=0)with|true=>have q2:decide (0<deep)=false:=wP (by have:=vS qd;omega);simp(disch:=try exact dz)only[e2,e3,dL,q2,bx,z4,a3r,↓gP,gY];refine l9.done ⟨zV,λj hj=>?_,u,i2,0,0,rfl,(H.fin zy).mono λj k=>⟨k,d9 (by have:=k.1;omega)⟩,rfl,rfl,rfl,e6,e5⟩;dsimp only;rw[d9 zy];exact H.fr j hj|false=>have q2:decide (0<deep)=true:=wL (by have:=uQ qd;omega);simp(disch:=try exact dz)only[e2,e3,dL,q2,bx,z4,a3r,↓gP,gY];refine l9.done ⟨zV,λj hj=>?_,⟨none,0,0⟩,0,op,3,rfl,rfl,rfl,rfl,rfl,zu⟩;dsimp only;rw[d9 zy];exact H.fr j hj
   cases e1;simp only at e2 e3;have k1:c0<c':=zy;simp(disch:=try exact dz)only[e2,d9j,↓gP,gY];exact l9.done ⟨zV,e4,v,i2,p,e',rfl,e5⟩
theorem e5d (n a):o8 D8 (n+1) 27 [a]=c7f o9 NN (o8 D8 n) a:=Z5 (q:=c7f) (N:=NN) zw n a
theorem d0m {T:List UInt8}{a t}(hd:T.drop a=t){q e W}(h:a6b a t=.ok q W e):W.length<=T.length:=by
 have hl:t.length<=T.length:=by rw[<-hd,uq];omega
 cases t with
  |nil=>cases h|cons b t=>
   simp only[wI]at hl;unfold a6b at h;simp only at h;cases q1:decide (b.toNat=40)with
    |true=>rw[q1]at h;cases h;exact vC _|false=>
     rw[q1,y9]at h;cases q2:decide (b.toNat=41)with
      |true=>rw[q2]at h;cases h;exact vC _|false=>
       rw[q2,y9]at h;cases q3:decide (b.toNat=34)with
        |true=>rw[q3,A9]at h;cases q4:decide ((a2c a (t.length+1) t (a+1)).2=0)with|true=>rw[q4]at h;cases h;rw[tN];omega|false=>rw[q4]at h;cases h
        |false=>rw[q3,y9]at h;cases q4:decide (a1e sgN (b::t)=0)with|true=>rw[q4]at h;cases h|false=>rw[q4]at h;cases h;rw[tN,wI];omega
theorem d1w {T}:∀(k a) (l l'),(∀x∈l,x.t.length<=T.length)->a6p T k a l=.ok l'->∀x∈l',x.t.length<=T.length:=by intro k;induction k with|zero=>intro a l l' _ h;cases h|succ k ih=>intro a l l' hl h;have h':(match T.drop a with|[]=>Lx.ok (l++[(⟨4,T.length,[]⟩:Tok)])|b::t=>match a7b (b::t)with|none=>.er a 3|some (n+1)=>a6p T k (a+(n+1)) l|some 0=>match a6b a (b::t)with|.er p e=>.er p e|.ok q W e=>a6p T k e (l++[(⟨q,a,W⟩:Tok)]))=.ok l':=h;cases hd:T.drop a with|nil=>rw[hd]at h';cases h';intro x hx;rcases ut.1 hx with k1|k1;exact hl x k1;rw[vW]at k1;subst k1;exact vC _|cons b t=>rw[hd]at h';simp only at h';cases q1:a7b (b::t)with|none=>rw[q1]at h';cases h'|some n=>rw[q1]at h';cases n with|succ n=>exact ih _ _ _ hl h'|zero=>simp only at h';cases q2:a6b a (b::t)with|er p e=>rw[q2]at h';cases h'|ok q W e=>rw[q2]at h';refine ih _ _ _ (λx hx=>?_) h';rcases ut.1 hx with k1|k1;exact hl x k1;rw[vW]at k1;subst k1;exact d0m hd q2
theorem c4C (a x):zs (a++[x])=zs a+x.z:=by induction a with|nil=>show x.z+0=0+x.z;omega|cons y a ih=>show y.z+zs (a++[x])=y.z+zs a+x.z;rw[ih];omega
theorem d7b {ts}:∀(k i deep op) (acc l) (j),a1Y ts k i deep op acc=.ok l j->i<=j/\zs l<=zs acc+4*(j-i):=by
 intro k;induction k with
  |zero=>intro i deep op acc l j h;cases h|succ k ih=>
   intro i deep op acc l j h;have fin:b2f i deep op acc=.ok l j->i<=j/\zs l<=zs acc+4*(j-i):=λh=>by unfold b2f at h;cases q:decide (deep=0)with|true=>rw[q]at h;cases h;exact⟨wQ _,zy⟩|false=>rw[q]at h;cases h
   cases ht:ts[i]? with
    |none=>have h':(match ts[i]? with|none=>b2f i deep op acc|some t=>_)=Rd.ok l j:=h;rw[ht]at h';exact fin h'|some t=>
     rw[a8C ht]at h;cases q4:decide (t.k=4)with
      |true=>rw[q4]at h;exact fin h|false=>
       rw[q4,y9]at h;cases q1:decide (t.k=1)with
        |true=>rw[q1,A9]at h;cases qd:decide (deep=0)with|true=>rw[qd]at h;cases h|false=>rw[qd]at h;cases h;exact⟨vv _,zy⟩
        |false=>
         rw[q1,y9]at h;cases q0:decide (t.k=0)with
          |true=>rw[q0,A9]at h;cases qd:decide (deep=200)with|true=>rw[qd]at h;cases h|false=>rw[qd,y9]at h;cases e:a1Y ts k (i+1) (deep+1) t.p []with|er p e'=>rw[e]at h;cases h|ok l1 j1=>rw[e]at h;obtain⟨a1,a2⟩:=ih _ _ _ _ _ _ e;obtain⟨b1,b2⟩:=ih _ _ _ _ _ _ h;rw[c4C]at b2;have hz:=a8J (.mk 0 t.p [] l1);have e1:zs (Nd.mk 0 t.p [] l1).l=zs l1:=rfl;have e2:zs ([]:List Nd)=0:=rfl;exact⟨zy,zy⟩
          |false=>rw[q0,y9]at h;obtain⟨b1,b2⟩:=ih _ _ _ _ _ _ h;rw[c4C]at b2;have hz:=a8J (.mk t.k t.p t.t []);have e1:zs (Nd.mk t.k t.p t.t []).l=0:=rfl;exact⟨zy,zy⟩
noncomputable def a5B (T:List UInt8):Rd:=match a6p T (T.length+1) 0 []with|.er p e=>.er p e|.ok ts=>a1Y ts (ts.length+1) 0 0 0 []
theorem t27 {T}(hT:T.length<890000)(M)(hM:900010<=M)(c0 h0 r w):l9 (go (o8 D8 (M+1) 27 [.string ⟨⟨T⟩⟩]) ⟨c0,h0,r,w⟩) λx s=>c0<=s.c/\(∀i,i<c0->s.h.get i=h0.get i)/\((∃l j v,a5B T=.ok l j/\x=.ret (.tuple ⟨[.slice v.a v.n v.e,.int .i64 (.ofNat 0),.int .i64 (.ofNat 0)]⟩)/\NdL (λb=>c0<=b/\b<s.c) s.h v l/\zs l<=4*(T.length+1))\/(∃p e,a5B T=.er p e/\e≠0/\x=.ret (.tuple ⟨[.slice none 0 0,.int .i64 (.ofNat p),.int .i64 (.ofNat e)]⟩))):=by
 rw[e5d];obtain⟨M3,rfl⟩:∃k,M=k+3:=⟨M-3,zy⟩;simp(disch:=try exact dz)only[G27,↓gP];refine l9.bindC (t64 zy M3 _ _) λx s hq=>?_;obtain⟨c1,h1,r1,w1⟩:=s;obtain⟨f1,f2,⟨ts,u,f3,rfl,H,f4⟩|⟨p,e,f3,f4,rfl⟩⟩:=hq;have f1:c0<=c1:=f1;have htx:∀t∈ts,t.t.length<900000:=λt ht=>by have:=d1w _ _ _ _ (λx hx=>by cases hx) f3 t ht;omega
 have eP:a5B T=a1Y ts (ts.length+1) 0 0 0 []:=by unfold a5B;rw[f3]
 rw[eP];simp(disch:=try exact dz)only[↓gP,gY,gT];have hcall:=e5l (tu:=u) zy htx (ts.length+2) (ts.length+1) zy zy (M3+3-(ts.length+1+1)) 0 0 0 c1 h1 r1 w1 H.g zy (vC _) zu;have eM:M3+3-(ts.length+1+1)+(ts.length+1)+1=M3+3:=zy;rw[eM]at hcall;refine l9.bindC hcall λx s hq=>?_;obtain⟨c2,h2,r2,w2⟩:=s;obtain⟨g1,g2,v,i2,p2,e2,rfl,hR⟩:=hq;have g1:c1<=c2:=g1;simp(disch:=try exact dz)only[G27,↓gP,gY];refine l9.done ⟨zV,λj hj=>?_,?_⟩;have k1:j≠c2:=zy;simp(disch:=first|assumption|omega)only[d9];exact(g2 j zy).trans (f2 j hj);cases q7:a1Y ts (ts.length+1) 0 0 0 []with|er p' e'=>rw[q7]at hR;obtain⟨rfl,rfl,rfl,rfl,hne⟩:=hR;exact Or.inr ⟨p2,e2,rfl,hne,rfl⟩|ok l j=>rw[q7]at hR;obtain⟨hN,rfl,rfl,rfl,_,hj⟩:=hR;obtain⟨_,hz⟩:=d7b _ _ _ _ _ _ _ q7;have e0:zs ([]:List Nd)=0:=rfl;refine Or.inl ⟨l,i2,v,rfl,rfl,hN.mono λb k=>⟨⟨by have:=k.1;omega,by have:=k.2;dsimp only at this⊢;omega⟩,?_⟩,zy⟩;have k3:=k.2;dsimp only at k3;have k1:b≠c2:=zy;simp(disch:=first|assumption|omega)only[d9]
 have q8:decide (e=0)=false:=wP f4;simp(disch:=try exact dz)only[di,q8,↓gP,gY,gT];refine l9.done ⟨f1,f2,Or.inr ⟨p,e,?_,f4,rfl⟩⟩;unfold a5B;rw[f3]
end Go.Proofs.YtmomonnlmbljoaaGreatDoor
end
section
namespace Go.Proofs.YtmomonnlmbljoaaGreatDoor
open Go.V Go.RowKit Go.Shelf Go.Proofs
variable {mL:Int}
attribute [local congr] y7 x9 A8 A7 D5 z8 E5 G8 G7
theorem d4H (n a):o8 D8 (n+1) 30 [a]=c7t o9 NN (o8 D8 n) a:=Z5 (q:=c7t) (N:=NN) zw n a
theorem d6r (b c1 r1 w1 r2 w2)(h1:a0e w1 [b]=true)(h2:a0e [c1] [b]=true)(h3:a0e w2 [b]=true):a1A [(0,1),(0,2),(1,2),(0,3),(0,4),(0,5),(0,6),(1,6),(2,6),(3,6),(4,6),(5,6),(0,7),(1,7),(2,7),(3,7),(4,7),(5,7),(6,7),(0,8),(1,8),(2,8),(3,8),(4,8),(5,8),(0,9),(1,9),(2,9),(3,9),(4,9),(5,9),(0,10),(1,10),(2,10),(3,10),(4,10),(5,10),(0,11),(1,11),(2,11),(3,11),(4,11),(5,11),(6,11),(7,11),(8,11),(9,11),(10,11),(0,12),(1,12),(2,12),(3,12),(4,12),(5,12),(6,12),(7,12),(8,12),(9,12),(10,12),(11,12),(0,13),(1,13),(2,13),(3,13),(4,13),(5,13),(6,13),(7,13),(8,13),(9,13),(10,13),(0,14),(1,14),(2,14),(3,14),(4,14),(5,14),(6,14),(7,14),(8,14),(9,14),(10,14),(0,15),(1,15),(2,15),(3,15),(4,15),(5,15),(6,15),(7,15),(8,15),(9,15),(10,15),(0,16),(1,16),(2,16),(3,16),(4,16),(5,16),(6,16),(7,16),(8,16),(9,16),(10,16),(11,16),(12,16),(13,16),(14,16),(15,16),(0,17),(1,17),(2,17),(3,17),(4,17),(5,17),(6,17),(7,17),(8,17),(9,17),(10,17),(11,17),(12,17),(13,17),(14,17),(15,17),(16,17),(0,18),(1,18),(2,18),(3,18),(4,18),(5,18),(6,18),(7,18),(8,18),(9,18),(10,18),(11,18),(12,18),(13,18),(14,18),(15,18),(0,19),(1,19),(2,19),(3,19),(4,19),(5,19),(6,19),(7,19),(8,19),(9,19),(10,19),(11,19),(12,19),(13,19),(14,19),(15,19),(0,20),(1,20),(2,20),(3,20),(4,20),(5,20),(6,20),(7,20),(8,20),(9,20),(10,20),(11,20),(12,20),(13,20),(14,20),(15,20),(0,21),(1,21),(2,21),(3,21),(4,21),(5,21),(6,21),(7,21),(8,21),(9,21),(10,21),(11,21),(12,21),(13,21),(14,21),(15,21),(0,22),(0,23)] [([],[]),([],[]),([],[]),([],[]),([],[]),([b],[]),([],[]),([],[]),([],[]),([],[]),([b],[]),([],[]),([],[]),([],[]),([],[]),([b],[]),([],[]),([],[]),([],[]),([],[]),([b],[]),(r1,w1),([],[]),([],[c1]),(r2,w2),([],[])]=true:=by simp only[a6B,a7C,P7,P9,a8a,a5p,W9,h1,b1P]
structure CI (c0:Nat) (h0:Trie VObj) (c:Nat) (h:Trie VObj) (u:Sl) (rows:List (Nd×Sl)) (w0 w:List Nat):Prop where
 le:c0≤c
 fr:∀ i,i<c0→h.get i=h0.get i
 g:X4 4 c h u (rows.flatMap b1Z)
 o:∀ i,u.own i→c0≤i
 nd:∀ x∈rows,NdL (fun i=>c0≤i∧i<c∧¬ u.own i) h x.2 x.1.l∧x.1.t.length<900000
 w:∀ i∈w,i∈w0∨c0≤i
section
variable {U:Nat->Prop}{lv:Sl}{l:List Nd}{c0:Nat}{h0:Trie VObj}
def e8D (c0:Nat)(h0:Trie VObj)(l:List Nd)(w0:List Nat)(x:CR)(s:V.S):Prop:=c0<=s.c/\(∀i,i<c0->s.h.get i=h0.get i)/\(∀i∈s.w,i∈w0\/c0<=i)/\∃v,x=.ret (.slice v.a v.n v.e)/\NdL (λb=>c0<=b/\b<s.c) s.h v l
def c9k (n:Nat):Prop:=∀(m:Nat) (U:Nat->Prop) (lv:Sl) (l:List Nd) (c0:Nat) (h0:Trie VObj) (r w:List Nat),NdL U h0 lv l->(∀i,U i->i<c0)->zs l<=n->l9 (go (o8 D8 (m+n+1) 30 [.slice lv.a lv.n lv.e]) ⟨c0,h0,r,w⟩) (e8D c0 h0 l w)
theorem n30 {n}(hC:c9k n)(hn:NdL U h0 lv l)(hU:∀i,U i->i<c0)(hz:zs l<=n+1)(m w0):∀(k e i) (c) (h) (u) (rows) (xs) (r w),l.length=i+k->rows.map (·.1)=l.take i->CI c0 h0 c h u rows w0 w->C9 xs 32=.int .i64 (.ofNat i)->C9 xs 29=.slice u.a u.n u.e->l9 (go (U4 (d4z o9 NN (o8 D8 (m+n+1)) (.slice lv.a lv.n lv.e)) (k+1+e) xs) ⟨c,h,r,w⟩) λy s=>∃xs' u rows,y=(.exit 0,xs')/\C9 xs' 29=.slice u.a u.n u.e/\rows.map (·.1)=l/\CI c0 h0 s.c s.h u rows w0 s.w:=by
 intro k;induction k with
  |zero=>intro e i c h u rows xs r w hk hr H h1 h2;rw[vY 0 1 e,Y5];have hlen:=hn.len.1;obtain⟨la,ln,le⟩:=lv;simp only at hlen;subst hlen;have e0:decide (i<l.length)=false:=wP zy;simp(disch:=try exact dz)only[d3c,h1,h2,dL,e0,↓gP,gY];exact l9.done ⟨_,u,rows,rfl,rfl,by rw[hr,sP zy],H⟩|succ k ih=>
   intro e i c h u rows xs r w hk hr H h1 h2;rw[vY (k+1) 1 e,Y5];have hlt:i<l.length:=zy;obtain⟨y,hy⟩:∃y,l[i]?=some y:=⟨_,wO hlt⟩;obtain⟨b,p,g,cs,cur,ro,nl,hb,hg,hNn,hT,e1,e2,e3,e4,e5,e6⟩:=hn.get hy;have hlen:=hn.len.1;have hll:=hn.len.2;obtain⟨la,ln,le⟩:=lv;simp only at hlen e1;subst hlen;have b1:=hU b hb;have b2:=(H.fr b b1).trans hg;have cle:=H.le;have b3:b<c:=zy;have hinc:=J6 i zy;have e0:decide (i<l.length)=true:=wL hlt;simp(disch:=try exact dz)only[d3c,h1,h2,dL,e0,e1,b2,e3,e4,e5,e6,↓gP,gY];have hm:=c1n hy;have hzy:=a8J y;refine l9.footS (l9.bindC (hC m (λi=>i<c0) nl y.l c h [] [] (hNn.mono λi k=>⟨hU i k,H.fr i (hU i k)⟩) (λi k=>zy) zy) (λx s hq=>?_) (Q:=λa s=>∃v,a=.slice v.a v.n v.e/\c<=s.c/\(∀i,i<c->s.h.get i=h.get i)/\(∀i∈s.w,c<=i)/\NdL (λb=>c<=b/\b<s.c) s.h v y.l)) λa s hq=>?_;obtain⟨q1,q2,q3,v,rfl,q4⟩:=hq;exact l9.done ⟨v,rfl,q1,q2,λi hi=>(q3 i hi).resolve_left (by intro h;cases h),q4⟩;obtain⟨c',h',r',w'⟩:=s;obtain⟨v,rfl,q1,q2,q3,q4⟩:=hq;have q1:c<=c':=q1;have hnn:=H.g.1;rw[b8l]at hnn;have hrl:rows.length=i:=by have:=wB List.length hr;rw[wF,tN]at this;omega
   simp(disch:=try exact dz)only[↓gP,gY];refine l9.footS (a5b (x:=⟨some ⟨c',0,some 0⟩,1,4⟩) (xs:=b1Z (y,v)) d6G zu d5Y (H.g.mono (c':=c'+1) (h':=V.upd h' c' (.cells [(.int .i64 (.ofNat y.k),0),(.int .i64 (.ofNat y.p),0),(.string ⟨⟨y.t⟩⟩,0),(.slice v.a v.n v.e,0)] 0 false)) zy λj k1 k2=>(d9 zy).trans (q2 j k1)) ⟨rfl,Or.inr ⟨c',0,0,_,0,false,rfl,rfl,wE _,o7 _ _ _,rfl⟩⟩ rfl zV [] []) λa s hq=>?_;obtain⟨c2,h2',r2,w2⟩:=s;obtain⟨u',rfl,hn',hg2,hc2,hs2,hown,hww⟩:=hq;have hc2:c'+1<=c2:=hc2;have hft:=(d6r _ _ _ _ _ _ (a8L λi hi hj=>by rw[vW]at hj;subst hj;have:=q3 _ hi;omega) (a8L λi hi hj=>xI) (a8L λi hi hj=>by rw[vW]at hj;subst hj;rcases hww _ hi with k|k|k;cases k;have:=H.o _ k;omega;omega):a1A _ [([],[]),([],[]),([],[]),([],[]),([],[]),([b],[]),([],[]),([],[]),([],[]),([],[]),([b],[]),([],[]),([],[]),([],[]),([],[]),([b],[]),([],[]),([],[]),([],[]),([],[]),([b],[]),(r',w'),([],[]),([],[c']),(r2,w2),([],[])]=true);simp(disch:=try exact dz)only[G30,hinc,↓gP,gY];have ho':∀j,u'.own j->u.own j\/c'+1<=j:=λj hj=>by rcases ui j (c'+1)with k1|k1;exact Or.inl (hown j k1 hj);exact Or.inr k1
   have hso:∀j,j<c'+1->¬u.own j->j≠c'->h2'.get j=h'.get j:=λj k1 k2 k3=>(hs2 j k1 k2).trans (d9 k3);have huc:∀j,u.own j->j<c:=λj hj=>H.g.own_lt hj;have key:∀j,(c0<=j/\j<c/\¬u.own j)->(c0<=j/\j<c2/\¬u'.own j)/\h2'.get j=h.get j:=λj kk=>⟨⟨kk.1,by have:=kk.2.1;omega,λho=>by rcases ho' j ho with k1|k1;exact kk.2.2 k1;have:=kk.2.1;omega⟩,(hso j (by have:=kk.2.1;omega) kk.2.2 (by have:=kk.2.1;omega)).trans (q2 j kk.2.1)⟩;have H2:CI c0 h0 c2 h2' u' (rows++[(y,v)]) w0 (D7 w2 (c'::D7 w' w)):=by refine⟨zy,λj hj=>?_,?_,λj hj=>?_,λz hz=>?_,λj hj=>?_⟩;exact(hso j zy (λho=>by have:=H.o j ho;omega) zy).trans ((q2 j zy).trans (H.fr j hj));rw[uM,sQ];exact hg2;rcases ho' j hj with k1|k1;exact H.o j k1;omega;rcases ut.1 hz with k1|k1;exact⟨(H.nd z k1).1.mono key,(H.nd z k1).2⟩;rw[vW]at k1;subst k1;refine⟨q4.mono λj kk=>⟨⟨by have:=kk.1;omega,xG,λho=>?_⟩,hso j xG (λho=>by have:=huc j ho;have:=kk.1;omega) xG⟩,hT⟩;rcases ho' j ho with k1|k1;have:=huc j k1;have:=kk.1;omega;have:=kk.2;dsimp only at this;omega;rw[D9,ut,uw,D9,ut]at hj;rcases hj with k1|k1|k1|k1;rcases hww j k1 with k2|k2|k2;cases k2;exact Or.inr (H.o j k2);exact Or.inr zy;exact Or.inr zy;have:=q3 j k1;exact Or.inr zy;exact H.w j k1
   refine ih e (i+1) c2 h2' u' (rows++[(y,v)]) _ _ _ zy ?_ H2 ?_ ?_;rw[ul,hr,List.take_add_one,hy];rfl;rfl;rfl
theorem d8Y:∀n,c9k n:=by
 intro n;induction n with
  |zero=>intro m U lv l c0 h0 r w hn hU hz;cases l with|cons y l=>have h1:zs (y::l)=y.z+zs l:=rfl;have h2:=a8J y;omega|nil=>have hlen:=hn.len.1;obtain⟨la,ln,le⟩:=lv;simp only[vE]at hlen;subst hlen;have e0:decide (0<0)=false:=rfl;have hNe:NN=999999+1:=rfl;rw[d4H];simp(disch:=try exact dz)only[G30,↓gP];rw[hNe,Y5];simp(disch:=try exact dz)only[d3c,dL,a3r,↓gP,gY,gT,Nat.reduceAdd,Nat.reduceLT];exact l9.done ⟨wQ _,λ_ _=>rfl,λi hi=>Or.inl hi,⟨none,0,0⟩,rfl,.nil⟩
  |succ n ih=>
   intro m U lv l c0 h0 r w hn hU hz;have hll:=hn.len.2;have hNN:900001<=NN:=zu;obtain⟨e,hNe⟩:∃e,NN=l.length+1+e:=⟨NN-(l.length+1),zy⟩;show l9 (go (o8 D8 (m+n+1+1) 30 _) _) _;rw[d4H];simp(disch:=try exact dz)only[G30,↓gP];have hloop:=n30 ih hn hU hz m w l.length e 0 c0 h0 ⟨none,0,0⟩ [] [undef,undef,undef,undef,undef,undef,undef,undef,undef,undef,undef,undef,undef,undef,undef,undef,undef,undef,undef,undef,undef,undef,undef,undef,undef,undef,undef,undef,undef,.slice none 0 0,undef,undef,.int .i64 (.ofNat 0)] r w zy rfl ⟨wQ _,λ_ _=>rfl,X4.nil _ _ _,λj hj=>(by obtain⟨a,h,_⟩:=hj;cases h),λx hx=>(by cases hx),λi hi=>Or.inl hi⟩ rfl rfl;rw[<-hNe]at hloop;refine l9.bindJ hloop λy xs' s hq=>?_;obtain⟨c',h',r',w'⟩:=s;obtain⟨xs1,u,rows,f1,f2,f3,H⟩:=hq;cases f1;simp(disch:=try exact dz)only[f2,a3r,↓gP,gY];refine l9.done ⟨H.le,H.fr,H.w,u,rfl,?_⟩;have hrl:rows.length=l.length:=by rw[<-f3,wF]
   have:=H.g.nd (U:=λb=>c0<=b/\b<c') (λi hi=>⟨H.o i hi,H.g.own_lt hi⟩) (λx hx=>⟨(H.nd x hx).1.mono λi k=>⟨⟨k.1,k.2.1⟩,rfl⟩,(H.nd x hx).2⟩) zy;rw[f3]at this;exact this
end
end Go.Proofs.YtmomonnlmbljoaaGreatDoor
end
section
namespace Go.Proofs.YtmomonnlmbljoaaGreatDoor
open Go.V Go.RowKit Go.Shelf Go.Proofs
variable {mL:Int}
def Tok.e (x:Tok):Nat×List UInt8:=(x.k,x.t)
noncomputable def a9B:List UInt8->Bool|[]=>false|b::_=>sgN b.toNat
def Lk (t:List UInt8)(ks:List (Nat×List UInt8)):Prop:=∀(T:List UInt8) (a:Nat),T.drop a=t->∃ts,ts.map Tok.e=ks/\∀k acc,T.length-a<k->a6p T k a acc=.ok (acc++ts++[(⟨4,T.length,[]⟩:Tok)])
theorem c4O {T t:List UInt8}{b:UInt8}{a:Nat}(hd:T.drop a=b::t)(k:Nat)(l:List Tok):a6p T (k+1) a l=(match a7b (b::t)with|none=>.er a 3|some (n+1)=>a6p T k (a+(n+1)) l|some 0=>match a6b a (b::t)with|.er p e=>.er p e|.ok q W e=>a6p T k e (l++[⟨q,a,W⟩])):=by show(match T.drop a with|[]=>_|b::t=>_)=_;rw[hd];rfl
theorem Lk.nil:Lk [] []:=by intro T a hd;refine⟨[],rfl,λk acc hk=>?_⟩;obtain⟨k,rfl⟩:∃j,k=j+1:=⟨k-1,zy⟩;show(match T.drop a with|[]=>_|b::t=>_)=_;rw[hd,wH]
theorem Lk.ws {b t ks}(hb:wsB b.toNat=true)(H:Lk t ks):Lk (b::t) ks:=by
 intro T a hd;obtain⟨d1,d2,d3⟩:=a5S hd;obtain⟨ts,h1,h2⟩:=H T (a+1) d2;refine⟨ts,h1,λk acc hk=>?_⟩;obtain⟨k,rfl⟩:∃j,k=j+1:=⟨k-1,zy⟩;have e:a7b (b::t)=some 1:=by show bcase (wsB b.toNat) (some 1) _=_;rw[hb];rfl
 rw[c4O hd,e];exact h2 k acc zy
theorem Lk.tok {b t t' ks q n W}(hs:a7b (b::t)=some 0)(hn:∀a,a6b a (b::t)=.ok q W (a+(n+1)))(ht:t.drop n=t')(H:Lk t' ks):Lk (b::t) ((q,W)::ks):=by
 intro T a hd;obtain⟨d1,d2,d3⟩:=a5S hd;have hd2:T.drop (a+(n+1))=t':=by rw[<-oq,hd,List.drop_succ_cons,ht]
 obtain⟨ts,h1,h2⟩:=H T (a+(n+1)) hd2;refine⟨⟨q,a,W⟩::ts,by rw[uy,h1];rfl,λk acc hk=>?_⟩;obtain⟨k,rfl⟩:∃j,k=j+1:=⟨k-1,zy⟩;rw[c4O hd,hs];simp only;rw[hn];simp only;rw[h2 k _ zy];simp only[vw,vD,vR]
theorem c6u {b t}(h1:wsB b.toNat=false)(h2:b≠59)(h3:b=40->t.head?≠some 59):a7b (b::t)=some 0:=by
 show bcase (wsB b.toNat) (some 1) _=_;rw[h1,y9];cases t with
  |nil=>rfl|cons b1 t1=>
   have e1:beqBytes [b,b1] [59,59]=false:=by cases q:beqBytes [b,b1] [59,59]with|false=>rfl|true=>have:=a4X q;cases this;exact absurd rfl h2
   have e2:beqBytes [b,b1] [40,59]=false:=by cases q:beqBytes [b,b1] [40,59]with|false=>rfl|true=>have:=a4X q;cases this;exact absurd rfl (h3 rfl)
   show bcase _ _ _=_;rw[e1,e2];rfl
theorem Lk.op {t ks}(h:t.head?≠some 59)(H:Lk t ks):Lk (40::t) ((0,[])::ks):=Lk.tok (n:=0) (c6u rfl zu λ_=>h) (λa=>rfl) (uC) H
theorem Lk.cl {t ks}(H:Lk t ks):Lk (41::t) ((1,[])::ks):=Lk.tok (n:=0) (c6u rfl zu λh=>absurd h zu) (λa=>rfl) (uC) H
theorem d2F:∀(W t),W.all (λb=>sgN b.toNat)=true->a9B t=false->a1e sgN (W++t)=W.length:=by
 intro W;induction W with
  |nil=>intro t _ h;cases t with|nil=>rfl|cons b t=>have h:sgN b.toNat=false:=h;show a1e sgN (b::t)=0;unfold a1e;rw[h];rfl
  |cons b W ih=>intro t h1 h2;rw[qh,wK]at h1;show a1e sgN (b::(W++t))=_;unfold a1e;rw[h1.1,A9,ih t h1.2 h2];rfl
theorem b9I {b:UInt8}(h:sgN b.toNat=true):wsB b.toNat=false/\b≠59/\b≠40/\decide (b.toNat=40)=false/\decide (b.toNat=41)=false/\decide (b.toNat=34)=false:=by
 have key:∀n,n<256->sgN n=true->wsB n=false/\n≠59/\n≠40/\n≠41/\n≠34:=by have hall:J2 (λn=>!(sgN n)||(!(wsB n)&&(!(Nat.beq n 59)&&(!(Nat.beq n 40)&&(!(Nat.beq n 41)&& !(Nat.beq n 34)))))) (upN 256)=true:=zw;intro n hn hs;have:=(M4 _ _).1 hall n (uI.2 hn);rw[hs]at this;simp only[si,vJ,wK,tZ]at this;obtain⟨a1,a2,a3,a4,a5⟩:=this;exact⟨a1,rJ a2,rJ a3,rJ a4,rJ a5⟩
 obtain⟨k1,k2,k3,k4,k5⟩:=key b.toNat (UInt8.toNat_lt b) h;exact⟨k1,λe=>k2 (by rw[e];rfl),λe=>k3 (by rw[e];rfl),wP k3,wP k4,wP k5⟩
theorem Lk.wd {W t ks}(h0:W≠[])(h1:W.all (λb=>sgN b.toNat)=true)(h2:a9B t=false)(H:Lk t ks):Lk (W++t) ((2,W)::ks):=by
 cases W with
  |nil=>exact absurd rfl h0|cons b W=>
   have hs:=d2F (b::W) t h1 h2;have hb:sgN b.toNat=true:=by rw[qh,wK]at h1;exact h1.1
   obtain⟨k1,k2,k3,k4,k5,k6⟩:=b9I hb;have hs':a1e sgN (b::(W++t))=W.length+1:=hs;refine Lk.tok (n:=W.length) (c6u k1 k2 λe=>absurd e k3) (λa=>?_) List.drop_left H;show a6b a (b::(W++t))=_;unfold a6b;have e0:decide (W.length+1=0)=false:=rfl;simp only[k4,k5,k6,y9,hs',e0];have e1:(b::(W++t)).take (W.length+1)=b::W:=by rw[List.take_succ_cons,List.take_left]
   rw[e1]
inductive Sp where
 | w (t:List UInt8)
 | l (xs:List Sp)
mutual
inductive Is:Nd→Sp→Prop
 | w {p:Nat} {t:List UInt8}:Is (.mk 2 p t []) (.w t)
 | l {p:Nat} {ns:List Nd} {xs:List Sp}:IsL ns xs→Is (.mk 0 p [] ns) (.l xs)
inductive IsL:List Nd→List Sp→Prop
 | nil:IsL [] []
 | cons {n:Nd} {x:Sp} {ns:List Nd} {xs:List Sp}:Is n x→IsL ns xs→IsL (n::ns) (x::xs)
end
inductive Bal:Nat→List (Nat×List UInt8)→List Sp→Prop
 | nil {d:Nat}:Bal d [] []
 | w {d:Nat} {W:List UInt8} {ks:List (Nat×List UInt8)} {xs:List Sp}:Bal d ks xs→Bal d ((2,W)::ks) (.w W::xs)
 | l {d:Nat} {k1 k2:List (Nat×List UInt8)} {x1 x2:List Sp}:Bal d k1 x1→Bal (d+1) k2 x2→Bal (d+1) ((0, [])::(k1 ++ (1, [])::k2)) (.l x1::x2)
theorem Bal.app {d k1 k2 x1 x2}(h1:Bal d k1 x1)(h2:Bal d k2 x2):Bal d (k1++k2) (x1++x2):=by induction h1 with|nil=>exact h2|w _ ih=>exact .w (ih h2)|l a b _ ih2=>have:=ih2 h2;rw[vD,vw];exact .l a this
theorem Bal.up {d d' ks xs}(h:Bal d ks xs)(hd:d<=d'):Bal d' ks xs:=by induction h generalizing d' with|nil=>exact .nil|w _ ih=>exact .w (ih hd)|l _ _ ih1 ih2=>obtain⟨e,rfl⟩:∃e,d'=e+1:=⟨d'-1,zy⟩;exact .l (ih1 zy) (ih2 hd)
theorem b5C {ts:List Tok}{A B q}(h:ts.map Tok.e=A++q::B):∃t,ts[A.length]?=some t/\t.k=q.1/\t.t=q.2:=by
 have h1:(ts.map Tok.e)[A.length]?=some q:=by rw[h,vG (wQ _),Nat.sub_self];rfl
 rw[vM]at h1;cases e:ts[A.length]? with|none=>rw[e]at h1;cases h1|some t=>rw[e]at h1;cases h1;exact⟨t,rfl,rfl,rfl⟩
theorem d3x {ts}:∀{d} {ks} {xs},Bal d ks xs->∀(A B) (deep),ts.map Tok.e=A++(ks++B)->deep+d<=200->∃ns,IsL ns xs/\∀k op acc,ts.length-A.length<k->∃k',ts.length-(A++ks).length<k'/\k'<=k/\a1Y ts k A.length deep op acc=a1Y ts k' (A++ks).length deep op (acc++ns):=by
 intro d ks xs H;induction H with
  |nil=>intro A B deep h hd;exact⟨[],.nil,λk op acc hk=>⟨k,by rw[wH];exact hk,wQ _,by rw[wH,wH]⟩⟩| @w d W ks xs _ ih=>intro A B deep h hd;obtain⟨t,h1,h2,h3⟩:=b5C (B:=ks++B) (by rw[h];rfl);have hlt:=(wM.1 h1).1;obtain⟨ns,g1,g2⟩:=ih (A++[(2,W)]) B deep zX hd;refine⟨.mk 2 t.p W []::ns,.cons .w g1,λk op acc hk=>?_⟩;obtain⟨k,rfl⟩:∃j,k=j+1:=⟨k-1,zy⟩;obtain⟨k',g3,g4,g5⟩:=g2 k op (acc++[.mk 2 t.p W []]) zm;have e1:(A++[(2,W)])++ks=A++(2,W)::ks:=zq;rw[e1]at g3 g5;refine⟨k',g3,zy,?_⟩;have e2:(A++[(2,W)]).length=A.length+1:=zq;rw[e2]at g5;rw[a8C h1];have k2:t.k=2:=h2;have k3:t.t=W:=h3;rw[k2,k3];show a1Y ts k (A.length+1) deep op (acc++[Nd.mk 2 t.p W []])=_;rw[g5];simp only[vw,qy]| @l d k1 k2 x1 x2 _ _ ih1 ih2=>
   intro A B deep h hd;obtain⟨t,h1,h2,h3⟩:=b5C (B:=(k1++(1,[])::k2)++B) (by rw[h];rfl);have hlt:=(wM.1 h1).1;obtain⟨n1,a1,a2⟩:=ih1 (A++[(0,[])]) ((1,[])::k2++B) (deep+1) zX zy;obtain⟨t',b1,b2,b3⟩:=b5C (ts:=ts) (A:=A++[(0,[])]++k1) (q:=(1,[])) (B:=k2++B) zX;have hlt':=(wM.1 b1).1;obtain⟨n2,c1,c2⟩:=ih2 (A++[(0,[])]++k1++[(1,[])]) B deep zX hd;refine⟨.mk 0 t.p [] n1::n2,.cons (.l a1) c1,λk op acc hk=>?_⟩;obtain⟨k,rfl⟩:∃j,k=j+1:=⟨k-1,zy⟩;have e2:(A++[(0,[])]).length=A.length+1:=zq;obtain⟨k',g3,g4,g5⟩:=a2 k t.p [] (by rw[e2];omega);obtain⟨k',rfl⟩:∃j,k'=j+1:=⟨k'-1,zy⟩;rw[e2]at g5;have e3:(A++[(0,[])]++k1++[(1,[])]).length=(A++[(0,[])]++k1).length+1:=by simp only[wG,wI,vE]
   obtain⟨k'',g6,g7,g8⟩:=c2 k op (acc++[.mk 0 t.p [] n1]) (by rw[e3];simp at hlt'⊢;omega);have e1:A++[(0,[])]++k1++[(1,[])]++k2=A++(0,[])::(k1++(1,[])::k2):=zq;rw[e1]at g6 g8;refine⟨k'',g6,zy,?_⟩;rw[a8C h1];have j2:t.k=0:=h2;have j3:decide (deep=200)=false:=wP zy;rw[j2,j3];show(match a1Y ts k (A.length+1) (deep+1) t.p []with|.er p e=>Rd.er p e|.ok l j=>a1Y ts k j deep op (acc++[Nd.mk 0 t.p [] l]))=_;rw[g5,a8C b1];have j4:t'.k=1:=b2;have j5:decide (deep+1=0)=false:=rfl;rw[j4,j5];show a1Y ts k ((A++[(0,[])]++k1).length+1) deep op (acc++[Nd.mk 0 t.p [] ([]++n1)])=_;rw[vR,<-e3,g8];simp only[vw,qy]
theorem c3e {T ks xs}(h1:Lk T ks)(h2:Bal 200 ks xs):∃l j,a5B T=.ok l j/\IsL l xs:=by obtain⟨ts,e1,e2⟩:=h1 T 0 rfl;have e3:=e2 (T.length+1) [] zy;rw[vR]at e3;obtain⟨ns,g1,g2⟩:=d3x (ts:=ts++[(⟨4,T.length,[]⟩:Tok)]) h2 [] [(4,[])] 0 (by rw[ul,e1];rfl) zy;obtain⟨k',g3,g4,g5⟩:=g2 ((ts++[(⟨4,T.length,[]⟩:Tok)]).length+1) 0 [] zq;obtain⟨k',rfl⟩:∃j,k'=j+1:=⟨k'-1,zy⟩;obtain⟨t,b1,b2,b3⟩:=b5C (ts:=ts++[(⟨4,T.length,[]⟩:Tok)]) (A:=[]++ks) (q:=(4,[])) (B:=[]) (by rw[ul,e1];rfl);refine⟨ns,([]++ks).length,?_,g1⟩;unfold a5B;rw[e3];show a1Y _ _ 0 0 0 []=_;have g5':a1Y (ts++[(⟨4,T.length,[]⟩:Tok)]) ((ts++[(⟨4,T.length,[]⟩:Tok)]).length+1) 0 0 0 []=a1Y (ts++[(⟨4,T.length,[]⟩:Tok)]) (k'+1) ([]++ks).length 0 0 ([]++ns):=g5;rw[g5',a8C b1];have j:t.k=4:=b2;rw[j];rfl
end Go.Proofs.YtmomonnlmbljoaaGreatDoor
end
