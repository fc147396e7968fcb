import Derived.Test.YtmomonnlmbljoaaGreatDoorGbf
set_option maxRecDepth 1000000
set_option maxHeartbeats 4000000
set_option linter.unusedVariables false
set_option linter.unusedSimpArgs false
noncomputable section
namespace Go.Proofs.YtmomonnlmbljoaaGreatDoor
open Go.V Go.RowKit Go.Shelf Go.Proofs
variable {mL:Int}
section
attribute [local congr] q9 x8 A8 z8 D5 x9 D6 D8 D7
theorem d7z:b6q.size=3:=zw
theorem d6X:Nat.blt b6q.bytes 4096=true:=zw
structure Tok where
 k:Nat
 p:Nat
 t:List UInt8
def b5l (x:Tok):List Value:=[.int .i64 (.ofNat x.k),.int .i64 (.ofNat x.p),.string ⟨⟨x.t⟩⟩]
inductive Lx where
 | ok (l:List Tok)
 | er (p e:Nat)
def a5T (T:List UInt8):Nat->Nat->List Tok->Lx|0,_,_=>.er 0 1|k+1,a,l=>match T.drop a with|[]=>.ok (l++[⟨4,T.length,[]⟩])|b::t=>match a8a (b::t)with|none=>.er a 3|some (n+1)=>a5T T k (a+(n+1)) l|some 0=>match a6I a (b::t)with|.er p e=>.er p e|.ok q W e=>a5T T k e (l++[⟨q,a,W⟩])
theorem b8V:∀bs:List Tok,(bs.flatMap b5l).length=bs.length*3:=yJ
theorem e5w (n a):o8 A9 (n+1) 64 [a]=c7b o9 NN (o8 A9 n) a:=a1j (q:=c7b) (N:=NN) zw n a
structure LI (c0:Nat) (h0:Trie VObj) (c:Nat) (h:Trie VObj) (u:Sl) (l:List Tok):Prop where
 le:c0≤c
 fr:∀ i,i<c0→h.get i=h0.get i
 g:R7 3 c h u (l.flatMap b5l)
 o:∀ i,u.own i→c0≤i
theorem LI.n {c0 c h0 h u l}(H:LI c0 h0 c h u l):u.n=l.length:=by have:=H.g.1;rw[b8V]at this;omega
theorem LI.app {β c0 c h0 h u l x b}{f:Value->M β}{Q r w}(H:LI c0 h0 c h u l)(hl:l.length<2000000)(b2:b<c)(hb:h.get b=some (.cells [(.int .i64 (.ofNat x.k),0),(.int .i64 (.ofNat x.p),0),(.string ⟨⟨x.t⟩⟩,0)] 0 false))(k:∀(u') (c') (h') (r' w'),LI c0 h0 c' h' u' (l++[x])->l9 (go (f (.slice u'.a u'.n u'.e)) ⟨c',h',r',w'⟩) Q):l9 (U3 (go (a3G b6q (.slice u.a u.n u.e) (.slice (some ⟨b,0,some 0⟩) 1 3)) ⟨c,h,r,w⟩) f) Q:=by have hn:=H.n;refine l9.bindS (a0M (x:=⟨some ⟨b,0,some 0⟩,1,3⟩) (xs:=b5l x) d7z zq d6X H.g ⟨rfl,Or.inr ⟨b,0,0,_,0,false,rfl,rfl,b2,hb,rfl⟩⟩ rfl zu r w) λy s hq=>?_;obtain⟨c',h',r',w'⟩:=s;obtain⟨u',rfl,hn',hg,hc,hs1,hown,hww⟩:=hq;have hc:c<=c':=hc;have le:=H.le;refine k u' c' h' r' w' ⟨zy,λi hi=>?_,?_,λi hi=>?_⟩;exact(hs1 i zy λho=>by have:=H.o i ho;omega).trans (H.fr i hi);rw[uZ,ui];exact hg;rcases uV i c with k1|k1;exact H.o i (hown i k1 hi);omega
theorem LI.to {c0 c h0 h u l}(H:LI c0 h0 c h u l){c' h'}(hc:c<=c')(hs:∀i,i<c->h'.get i=h.get i):LI c0 h0 c' h' u l:=⟨wL H.le hc,λi hi=>(hs i (wY hi H.le)).trans (H.fr i hi),H.g.mono hc λb k _=>hs b k,H.o⟩
section
variable {T:List UInt8}{c0:Nat}{h0:Trie VObj}
def f0e (c0:Nat)(h0:Trie VObj)(T:List UInt8)(lx:Lx)(y:Xc×List Value)(s:V.S):Prop:=(∃xs' u l,y=(.exit 0,xs')/\C8 xs' 36=.slice u.a u.n u.e/\LI c0 h0 s.c s.h u l/\l.length<=T.length/\lx=.ok (l++[⟨4,T.length,[]⟩]))\/(∃xs' p e,y=(.ret,xs')/\C8 xs' 29=.slice none 0 0/\C8 xs' 30=.int .i64 (.ofNat p)/\C8 xs' 31=.int .i64 (.ofNat e)/\c0<=s.c/\(∀i,i<c0->s.h.get i=h0.get i)/\lx=.er p e/\e≠0)
theorem n64 (hT:T.length<1800000)(m):∀(k e a) (c) (h) (u) (l) (xs) (r w),T.length-a<k->a<=T.length->l.length<=a->LI c0 h0 c h u l->C8 xs 38=.int .i64 (.ofNat a)->C8 xs 36=.slice u.a u.n u.e->l9 (go (Q5 (d5F o9 NN (o8 A9 (m+2)) (.string ⟨⟨T⟩⟩)) (k+e) xs) ⟨c,h,r,w⟩) (f0e c0 h0 T (a5T T k a l)):=by
 intro k;induction k with
  |zero=>omega|succ k ih=>
   intro e a c h u l xs r w hk ha hla H h1 h2;rw[wX k 1 e,O8];cases hd:T.drop a with
    |nil=>
     have hl:=a3x hd;have e0:decide (a<T.length)=false:=wy zy;have eS:a5T T (k+1) a l=.ok (l++[⟨4,T.length,[]⟩]):=by show(match T.drop a with|[]=>_|b::t=>_)=_;rw[hd]
     rw[eS];simp(disch:=try exact dz)only[e1M,h1,h2,dL,e0,↓gP,gY];exact l9.done (Or.inl ⟨_,u,l,rfl,rfl,H,zy,rfl⟩)|cons b t=>
     obtain⟨d1,d2,d3⟩:=a5Q hd;have e0:decide (a<T.length)=true:=ww d3;have eS:a5T T (k+1) a l=(match a8a (b::t)with|none=>.er a 3|some (n+1)=>a5T T k (a+(n+1)) l|some 0=>match a6I a (b::t)with|.er p e=>.er p e|.ok q W e=>a5T T k e (l++[⟨q,a,W⟩])):=by show(match T.drop a with|[]=>_|b::t=>_)=_;rw[hd]
     rw[eS];simp(disch:=try exact dz)only[e1M,h1,h2,dL,e0,↓gP,gY];refine l9.bindC (e8m hT m hd _ _) λx s hq=>?_;obtain⟨c1,h1',r1,w1⟩:=s;obtain⟨f1,f2,rfl,f4⟩:=hq;simp only at f1 f2;subst f1;subst f2;cases q1:a8a (b::t)with
      |none=>have e1:decide (Int.negSucc 0<Int.ofNat 0)=true:=wm rfl rfl;simp(disch:=try exact dz)only[c1i,e1,↓gP,gY];exact l9.done (Or.inr ⟨_,a,3,rfl,rfl,rfl,rfl,H.le,H.fr,rfl,zq⟩)|some n=>
       have hn:=f4 n q1;have e1:∀z:Nat,decide (Int.ofNat z<Int.ofNat 0)=false:=λz=>wy (λh=>zN);cases n with
        |succ n=>have e2:decide (a<a+(n+1))=true:=ww zy;simp(disch:=try exact dz)only[c1i,e1,dL,e2,↓gP,gY];exact ih e (a+(n+1)) c1 h1' u l _ _ _ zy hn zy H rfl rfl|zero=>
         have e2:decide (a<a)=false:=wy (vJ a);simp(disch:=try exact dz)only[c1i,vZ,e1,dL,e2,↓gP,gY];refine l9.bindC (e8Q hT m hd _ _) λx s hq=>?_;obtain⟨c2,h2',r2,w2⟩:=s;obtain⟨g1,g2,rfl,g4⟩:=hq;have g1:c1<=c2:=g1;have H2:=H.to g1 g2;cases q2:a6I a (b::t)with
          |er p e'=>
           rw[q2]at g4;have q3:decide (e'=0)=false:=wy g4;simp(disch:=try exact dz)only[tkV,di,q3,↓gP,gY,gT];refine l9.done (Or.inr ⟨_,p,e',rfl,rfl,rfl,rfl,?_,λi hi=>?_,rfl,g4⟩);have:=H2.le;grind;have k1:i≠c2:=by have:=H2.le;omega
           simp(disch:=try exact xE)only[d9];exact H2.fr i hi|ok q W e'=>rw[q2]at g4;obtain⟨g5,g6,g7⟩:=g4;simp(disch:=try exact dz)only[tkV,↓gP,gY,gT];refine LI.app (x:=⟨q,a,W⟩) (H2.to zy λi hi=>?_) zy (wu _) (o7 _ _ _) λu' c' h' r' w' H3=>?_;have k1:i≠c2:=zy;have k2:i≠c2+1:=zy;grind[d9];simp(disch:=try exact dz)only[↓gP,gY];refine ih e e' c' h' u' (l++[⟨q,a,W⟩]) _ _ _ zy g6 zg H3 ?_ ?_;rfl;rfl
theorem t64 (hT:T.length<900000)(m r w):l9 (go (o8 A9 (m+3) 64 [.string ⟨⟨T⟩⟩]) ⟨c0,h0,r,w⟩) λx s=>c0<=s.c/\(∀i,i<c0->s.h.get i=h0.get i)/\((∃l u,a5T T (T.length+1) 0 []=.ok l/\x=.ret (.tuple ⟨[.slice u.a u.n u.e,.int .i64 (.ofNat 0),.int .i64 (.ofNat 0)]⟩)/\LI c0 h0 s.c s.h u l/\l.length<=T.length+1)\/(∃p e,a5T T (T.length+1) 0 []=.er p e/\e≠0/\x=.ret (.tuple ⟨[.slice none 0 0,.int .i64 (.ofNat p),.int .i64 (.ofNat e)]⟩))):=by rw[e5w];have hNN:1800002<=NN:=zq;obtain⟨e,hNe⟩:∃e,NN=T.length+1+e:=⟨NN-(T.length+1),zy⟩;have e0:decide (Int.ofNat 1048576<Int.ofNat T.length)=false:=wy (λh=>zN);simp(disch:=try exact dz)only[G64,e0,↓gP,gY];have hloop:=n64 (T:=T) (c0:=c0) (h0:=h0) zy m (T.length+1) e 0 c0 h0 ⟨none,0,0⟩ [] [undef,undef,undef,undef,undef,undef,undef,undef,undef,undef,undef,undef,undef,undef,undef,undef,undef,undef,undef,undef,undef,undef,undef,undef,undef,undef,undef,undef,undef,.slice none 0 0,.int .i64 (.ofNat 0),.int .i64 (.ofNat 0),undef,undef,undef,undef,.slice none 0 0,undef,.int .i64 (.ofNat 0)] r w zy (vY _) (xD _) ⟨xD _,λ_ _=>rfl,R7.nil _ _ _,λi hi=>(by obtain⟨a,h,_⟩:=hi;cases h)⟩ rfl rfl;rw[<-hNe]at hloop;refine l9.bindJ hloop λy xs' s hq=>?_;obtain⟨c',h',r',w'⟩:=s;rcases hq with⟨xs1,u,l,f1,f2,H,f4,f5⟩|⟨xs1,p,e,f1,f2,f3,f4,f5,f6,f7,f8⟩;cases f1;simp(disch:=try exact dz)only[f2,a3q,↓gP,gY];refine LI.app (x:=⟨4,T.length,[]⟩) (H.to (wZ _) λi hi=>d9 zu) zy (wu _) (o7 _ _ _) λu' c2 h2 r2 w2 H2=>?_;simp(disch:=try exact dz)only[gY];exact l9.done ⟨H2.le,H2.fr,Or.inl ⟨_,u',f5,rfl,H2,zg⟩⟩;cases f1;simp(disch:=try exact dz)only[f2,f3,f4,↓gP,gY];exact l9.done ⟨f5,f6,Or.inr ⟨p,e,f7,f8,rfl⟩⟩
end
theorem d5J:b6t.size=4:=zw
theorem d7w:Nat.blt b6t.bytes 4096=true:=zw
theorem d7h:c0w.size=4:=zw
theorem d6P:Nat.blt c0w.bytes 4096=true:=zw
inductive Rd where
 | ok (l:List Nd) (i:Nat)
 | er (p e:Nat)
def b2m (i deep op:Nat)(acc:List Nd):Rd:=bcase (decide (deep=0)) (.ok acc i) (.er op 3)
def a4A (ts:List Tok):Nat->Nat->Nat->Nat->List Nd->Rd|0,_,_,_,_=>.er 0 1|k+1,i,deep,op,acc=>match ts[i]? with|none=>b2m i deep op acc|some t=>bcase (decide (t.k=4)) (b2m i deep op acc) (bcase (decide (t.k=1)) (bcase (decide (deep=0)) (.er t.p 4) (.ok acc (i+1))) (bcase (decide (t.k=0)) (bcase (decide (deep=200)) (.er t.p 6) (match a4A ts k (i+1) (deep+1) t.p []with|.er p e=>.er p e|.ok l j=>a4A ts k j deep op (acc++[.mk 0 t.p [] l]))) (a4A ts k (i+1) deep op (acc++[.mk t.k t.p t.t []]))))
theorem b5o {g}:∀(cs) (n j m) (vs),A7 g cs n=some vs->j+m<=n->A7 g (F8 cs j) m=some ((vs.drop j).take m):=by
 intro cs;induction cs with
  |nil=>intro n j m vs h hj;cases n with|zero=>have:j=0:=zy;grind[Y5]|succ n=>cases h
  |cons c cs ih=>
   intro n j m vs h hj;obtain⟨y,st⟩:=c;cases n with
    |zero=>have:j=0:=zy;grind[Y5]|succ n=>
     have h':(match Nat.ble st g with|true=>(match A7 g cs n with|some vs=>some (y::vs)|none=>none)|false=>none)=some vs:=h;cases q1:Nat.ble st g with
      |false=>rw[q1]at h';cases h'|true=>
       rw[q1]at h';cases q2:A7 g cs n with
        |none=>rw[q2]at h';cases h'|some vs'=>
         rw[q2]at h';cases h';cases j with
          |zero=>cases m with|zero=>rw[Y5];rfl|succ m=>have:=ih n 0 m vs' q2 zy;rw[Y7]at this⊢;show(match Nat.ble st g with|true=>(match A7 g cs m with|some vs=>some (y::vs)|none=>none)|false=>none)=_;rw[q1,this];rfl
          |succ j=>show A7 g (F8 cs j) m=_;exact ih n j m vs' q2 zy
theorem b1A {α:Type}(f:α->List Value)(sz)(hf:∀x,(f x).length=sz):∀(l:List α) (i) (x),l[i]?=some x->((l.flatMap f).drop (i*sz)).take sz=f x/\i*sz+sz<=(l.flatMap f).length:=by
 intro l;induction l with
  |nil=>simp_all|cons y l ih=>
   intro i x h;rw[vU];cases i with
    |zero=>simp_all|succ i=>
     obtain⟨h1,h2⟩:=ih i x h;have e:(i+1)*sz=(f y).length+i*sz:=by rw[hf,tY];omega
     rw[e,List.drop_append,vH zy,um,uu,h1,wW];grind
theorem R7.at {α:Type}{f sz c h u}{l:List α}(H:R7 sz c h u (l.flatMap f))(hf:∀x,(f x).length=sz)(h0:sz≠0){i x}(hi:l[i]?=some x):∃ab g cs,ab<c/\u.own ab/\h.get ab=some (.cells cs g false)/\(∀k,a7l sz (.slice u.a u.n u.e) (.int k (.ofNat i))=M.pure (.pointer (some ⟨ab,i*sz,some g⟩)))/\A7 g (F8 cs (i*sz)) sz=some (f x)/\∀(j) (y),(f x)[j]?=some y->A7 g (F8 cs (i*sz+j)) 1=some [y]:=by
 obtain⟨h1,h2|⟨ab,g,cs,h2,h3,h4,h5,h6,h7⟩⟩:=H;have hl:(l.flatMap f).length=0:=by rw[h1,h2];simp_all
 have:=(b1A f sz hf l i x hi).2;omega;obtain⟨e1,e2⟩:=b1A f sz hf l i x hi;have hlen:u.n=l.length:=by
  have hgen:∀l:List α,(l.flatMap f).length=l.length*sz:=by intro l;induction l<;>grind
  rw[hgen]at h1;exact(qW (Nat.pos_of_ne_zero h0) h1).symm
 have hlt:=(xC.1 hi).1;have e3:=b5o cs _ (i*sz) sz _ h7 e2;rw[e1]at e3;obtain⟨ua,un,ue⟩:=u;simp only at h2 h3 hlen;subst h2;subst h3;subst hlen;refine⟨ab,g,cs,h4,⟨_,rfl,rfl⟩,h5,λk=>by rw[a1d ue i l.length k ab 0 (some g) hlt h0,wM],e3,λj y hy=>?_⟩;rw[a3y];grind[a1e]
def b1z (x:Nd×Sl):List Value:=[.int .i64 (.ofNat x.1.k),.int .i64 (.ofNat x.1.p),.string ⟨⟨x.1.t⟩⟩,.slice x.2.a x.2.n x.2.e]
theorem R7.nd {U c h u}{rows:List (Nd×Sl)}(H:R7 4 c h u (rows.flatMap b1z))(hU:∀i,u.own i->U i)(hn:∀x∈rows,NdL U h x.2 x.1.l/\x.1.t.length<1800000)(hl:rows.length<1800000):NdL U h u (rows.map (·.1)):=by
 have hgen:∀l:List (Nd×Sl),(l.flatMap b1z).length=l.length*4:=by intro l;induction l with|nil=>simp|cons y l ih=>rw[vU,wW,ih,wU,tY];show 4+_=_;omega
 obtain⟨h1,h2|⟨ab,g,cs,h2,h3,h4,h5,h6,h7⟩⟩:=H;have:rows=[]:=by
  have h0:(rows.flatMap b1z).length=0:=by rw[h1,h2];rfl
  rw[hgen]at h0;grind
 subst this;subst h2;exact .nil;rw[hgen]at h1;have hn':u.n=(rows.map (·.1)).length:=by rw[wK];omega
 obtain⟨ua,un,ue⟩:=u;simp only at h2 h3 hn';subst h2;subst h3;subst hn';have hat:∀(i:Nat) (n:Nd),(rows.map (·.1))[i]?=some n->∃x,rows[i]?=some x/\x.1=n:=λi n hi=>by rw[wE]at hi;simp_all
 refine .row (λi=>match rows[i]? with|some x=>x.2|none=>⟨none,0,0⟩) (hU ab ⟨_,rfl,rfl⟩) h5 (by rw[wK];exact hl) (λi n hi=>?_) λi n hi=>?_;obtain⟨x,hx,rfl⟩:=hat i n hi;obtain⟨e1,e2⟩:=b1A b1z 4 (λ_=>rfl) rows i x hx;refine⟨(hn x (wG hx)).2,?_⟩;have e3:=b5o cs _ (i*4) 4 _ h7 e2;rw[e1]at e3;rw[hx,wM];exact e3;grind
theorem e6r (n a b c d):o8 A9 (n+1) 65 [a,b,c,d]=c6T o9 NN (o8 A9 n) a b c d:=b0T (q:=c6T) (N:=NN) zw n a b c d
def z4:List (Value×Nat):=[(.slice none 0 0,0),(.int .i64 (.ofNat 0),0),(.int .i64 (.ofNat 0),0),(.int .i64 (.ofNat 0),0)]
def e2a (v:Sl)(i p e:Nat):List (Value×Nat):=[(.slice v.a v.n v.e,0),(.int .i64 (.ofNat i),0),(.int .i64 (.ofNat p),0),(.int .i64 (.ofNat e),0)]
structure TI (c0:Nat) (h0:Trie VObj) (c:Nat) (h:Trie VObj) (u:Sl) (rows:List (Nd×Sl)):Prop where
 le:c0+1≤c
 fr:∀ i,i<c0→h.get i=h0.get i
 bx:h.get c0=some (.cells z4 0 false)
 g:R7 4 c h u (rows.flatMap b1z)
 o:∀ i,u.own i→c0<i
 nd:∀ x∈rows,NdL (fun i=>c0<i∧i<c∧¬ u.own i) h x.2 x.1.l∧x.1.t.length<1800000
theorem b8m:∀bs:List (Nd×Sl),(bs.flatMap b1z).length=bs.length*4:=by intro bs;induction bs with|nil=>rfl|cons R Rs ih=>rw[vU,wW,ih,wU];show 4+_=_;omega
theorem TI.n {c0 c h0 h u rows}(H:TI c0 h0 c h u rows):u.n=rows.length:=by have:=H.g.1;rw[b8m]at this;omega
theorem TI.to {c0 c h0 h u rows}(H:TI c0 h0 c h u rows){c' h'}(hc:c<=c')(hs:∀i,i<c->h'.get i=h.get i):TI c0 h0 c' h' u rows:=by have le:=H.le;exact⟨zy,λi hi=>(hs i zy).trans (H.fr i hi),(hs c0 zy).trans H.bx,H.g.mono hc λb k _=>hs b k,H.o,λx hx=>⟨(H.nd x hx).1.mono λi k=>⟨⟨k.1,wY k.2.1 hc,k.2.2⟩,hs i k.2.1⟩,(H.nd x hx).2⟩⟩
theorem TI.app {β c0 c h0 h u rows x v b}{f:Value->M β}{Q r w}(H:TI c0 h0 c h u rows)(hl:rows.length<2000000)(hx:NdL (λi=>c0<i/\i<c/\¬u.own i) h v x.l)(ht:x.t.length<1800000)(b2:b<c)(hb:h.get b=some (.cells [(.int .i64 (.ofNat x.k),0),(.int .i64 (.ofNat x.p),0),(.string ⟨⟨x.t⟩⟩,0),(.slice v.a v.n v.e,0)] 0 false))(k:∀(u') (c') (h') (r' w'),c<=c'->(∀i,i<c->¬u.own i->h'.get i=h.get i)->TI c0 h0 c' h' u' (rows++[(x,v)])->l9 (go (f (.slice u'.a u'.n u'.e)) ⟨c',h',r',w'⟩) Q):l9 (U3 (go (a3G b6t (.slice u.a u.n u.e) (.slice (some ⟨b,0,some 0⟩) 1 4)) ⟨c,h,r,w⟩) f) Q:=by
 have hn:=H.n;refine l9.bindS (a0M (x:=⟨some ⟨b,0,some 0⟩,1,4⟩) (xs:=b1z (x,v)) d5J zq d7w H.g ⟨rfl,Or.inr ⟨b,0,0,_,0,false,rfl,rfl,b2,hb,rfl⟩⟩ rfl zu r w) λy s hq=>?_;obtain⟨c',h',r',w'⟩:=s;obtain⟨u',rfl,hn',hg,hc,hs1,hown,hww⟩:=hq;have hc:c<=c':=hc;have le:=H.le;have ho':∀i,u'.own i->u.own i\/c<=i:=λi hi=>zu;have key:∀i,(c0<i/\i<c/\¬u.own i)->(c0<i/\i<c'/\¬u'.own i)/\h'.get i=h.get i:=λi k=>⟨⟨k.1,wY k.2.1 hc,λho=>zu⟩,hs1 i k.2.1 k.2.2⟩;have hno:∀i,i<=c0->¬u.own i:=λi hi ho=>by have:=H.o i ho;omega
 refine k u' c' h' r' w' hc hs1 ⟨zy,λi hi=>(hs1 i zy (hno i zy)).trans (H.fr i hi),(hs1 c0 zy (hno c0 (xD _))).trans H.bx,?_,λi hi=>?_,λy hy=>?_⟩;rw[uZ,ui];exact hg;grind;rcases vN.1 hy with k1|k1;exact⟨(H.nd y k1).1.mono key,(H.nd y k1).2⟩;rw[wN]at k1;subst k1;exact⟨hx.mono key,ht⟩
theorem TI.fin {c0 c h0 h u rows}(H:TI c0 h0 c h u rows)(hl:rows.length<1800000):NdL (λi=>c0<i/\i<c) h u (rows.map (·.1)):=H.g.nd (λi hi=>⟨H.o i hi,H.g.own_lt hi⟩) (λx hx=>⟨(H.nd x hx).1.mono λi k=>⟨⟨k.1,k.2.1⟩,rfl⟩,(H.nd x hx).2⟩) hl
def RdV (c0 c:Nat)(h:Trie VObj)(i0 n:Nat)(v:Sl)(i p e:Nat):Rd->Prop|.ok l j=>NdL (λb=>c0<b/\b<c) h v l/\i=j/\p=0/\e=0/\i0<=j/\j<=n|.er p' e'=>v=⟨none,0,0⟩/\i=0/\p=p'/\e=e'/\e'≠0
theorem RdV.mono {c0 c c' h h' i0 n v i p e rd}(H:RdV c0 c h i0 n v i p e rd)(hc:c<=c')(hs:∀b,c0<b->b<c->h'.get b=h.get b):RdV c0 c' h' i0 n v i p e rd:=by cases rd with|er p' e'=>exact H|ok l j=>exact⟨H.1.mono λb k=>⟨⟨k.1,wY k.2 hc⟩,hs b k.1 k.2⟩,H.2⟩
def e9C (c0:Nat)(h0:Trie VObj)(i0 n:Nat)(rd:Rd)(x:CR)(s:V.S):Prop:=c0<=s.c/\(∀i,i<c0->s.h.get i=h0.get i)/\∃v i p e,x=.ret (.agg ⟨[.slice v.a v.n v.e,.int .i64 (.ofNat i),.int .i64 (.ofNat p),.int .i64 (.ofNat e)]⟩)/\RdV c0 s.c s.h i0 n v i p e rd
def d4k (tu:Sl)(ts:List Tok)(k:Nat):Prop:=∀(m i deep op c0:Nat) (h0:Trie VObj) (r w:List Nat),R7 3 c0 h0 tu (ts.flatMap b5l)->ts.length-i<k->i<=ts.length->deep<201->l9 (go (o8 A9 (m+k+1) 65 [.slice tu.a tu.n tu.e,.int .i64 (.ofNat i),.int .i64 (.ofNat deep),.int .i64 (.ofNat op)]) ⟨c0,h0,r,w⟩) (e9C c0 h0 i ts.length (a4A ts k i deep op []))
def e8a (c0:Nat)(h0:Trie VObj)(i0 n deep op:Nat)(rd:Rd)(y:Xc×List Value)(s:V.S):Prop:=(∃xs' u rows i,y=(.exit 0,xs')/\C8 xs' 70=.slice u.a u.n u.e/\C8 xs' 73=.int .i64 (.ofNat i)/\TI c0 h0 s.c s.h u rows/\rows.length<=i/\i<=n/\i0<=i/\rd=b2m i deep op (rows.map (·.1)))\/(∃xs' v i p e,y=(.ret,xs')/\s.h.get c0=some (.cells (e2a v i p e) 0 false)/\c0+1<=s.c/\(∀i,i<c0->s.h.get i=h0.get i)/\RdV c0 s.c s.h i0 n v i p e rd)
theorem c3L {ts:List Tok}{k i deep op:Nat}{acc:List Nd}{t:Tok}(h:ts[i]?=some t):a4A ts (k+1) i deep op acc=bcase (decide (t.k=4)) (b2m i deep op acc) (bcase (decide (t.k=1)) (bcase (decide (deep=0)) (.er t.p 4) (.ok acc (i+1))) (bcase (decide (t.k=0)) (bcase (decide (deep=200)) (.er t.p 6) (match a4A ts k (i+1) (deep+1) t.p []with|.er p e=>.er p e|.ok l j=>a4A ts k j deep op (acc++[.mk 0 t.p [] l]))) (a4A ts k (i+1) deep op (acc++[.mk t.k t.p t.t []])))):=by show(match ts[i]? with|none=>_|some t=>_)=_;rw[h]
section
variable {tu:Sl}{ts:List Tok}{c0:Nat}{h0:Trie VObj}{i0:Nat}
theorem n65 (hn:ts.length<1800000)(htx:∀t∈ts,t.t.length<1800000)(hG:R7 3 c0 h0 tu (ts.flatMap b5l))(K)(hP:∀j,j<K->d4k tu ts j)(m deep op)(hde:deep<201):∀(k e i) (c) (h) (u) (rows) (xs) (r w),k<=K->ts.length-i<k->i<=ts.length->i0<=i->rows.length<=i->TI c0 h0 c h u rows->C8 xs 73=.int .i64 (.ofNat i)->C8 xs 70=.slice u.a u.n u.e->l9 (go (Q5 (c8t o9 NN (o8 A9 (m+K)) (.slice tu.a tu.n tu.e) (.int .i64 (.ofNat deep)) (.pointer (some ⟨c0,0,some 0⟩))) (k+e) xs) ⟨c,h,r,w⟩) (e8a c0 h0 i0 ts.length deep op (a4A ts k i deep op (rows.map (·.1)))):=by
 intro k;induction k with
  |zero=>omega|succ k ih=>
   intro e i c h u rows xs r w hkK hk hi hi0 hr H h1 h2;rw[wX k 1 e,O8];have htn:tu.n=ts.length:=by have:=hG.1;rw[b8V]at this;omega
   cases ht:ts[i]? with
    |none=>
     have hge:=uX.1 ht;have e0:decide (i<tu.n)=false:=wy zy;have eS:a4A ts (k+1) i deep op (rows.map (·.1))=b2m i deep op (rows.map (·.1)):=by show(match ts[i]? with|none=>_|some t=>_)=_;rw[ht]
     rw[eS];simp(disch:=try exact dz)only[b5D,h1,h2,dL,e0,↓gP,gY];exact l9.done (Or.inl ⟨_,u,rows,i,rfl,rfl,rfl,H,hr,hi,hi0,rfl⟩)|some t=>
     have hlt:=(xC.1 ht).1;have e0:decide (i<tu.n)=true:=ww zy;rw[c3L ht];obtain⟨ab,g,cs,b1,b2,b3,b4,b5,b6⟩:=hG.at (f:=b5l) (λ_=>rfl) zq ht;have t0:=b6 0 _ rfl;rw[vZ]at t0;have le:=H.le;have b7:ab<c:=zy;have b8:=(H.fr ab b1).trans b3;have b9:ab≠c:=zy;have hinc:=G9 i zy;have b5':A7 g (F8 cs (i*3)) 3=some [.int .i64 (.ofNat t.k),.int .i64 (.ofNat t.p),.string ⟨⟨t.t⟩⟩]:=b5;have htl:=htx t (wG ht);have bx:=H.bx;have c1:c0<c:=zy;have c2:c0≠c:=zy;cases q4:decide (t.k=4)with
      |true=>simp(disch:=try exact dz)only[b5D,h1,h2,dL,di,e0,b4,b8,t0,q4,↓gP,gY,gT];exact l9.done (Or.inl ⟨_,u,rows,i,rfl,rfl,rfl,H,hr,hi,hi0,rfl⟩)|false=>
       rw[G5];cases q1:decide (t.k=1)with
        |true=>rw[G6];cases qd:decide (deep=0)with|true=>simp(disch:=try exact dz)only[b5D,h1,h2,dL,di,e0,b4,b8,t0,b5',q4,q1,qd,bx,z4,↓gP,gY,gT];refine l9.done (Or.inr ⟨_,⟨none,0,0⟩,0,t.p,4,rfl,o7 _ _ _,zu,λj hj=>?_,rfl,rfl,rfl,rfl,zq⟩);have k1:j≠c:=zy;have k2:j≠c0:=zy;simp(disch:=try exact xE)only[d9];exact H.fr j hj|false=>simp(disch:=try exact dz)only[b5D,h1,h2,dL,di,e0,b4,b8,t0,b5',q4,q1,qd,hinc,bx,z4,↓gP,gY,gT];refine l9.done (Or.inr ⟨_,u,i+1,0,0,rfl,o7 _ _ _,zu,λj hj=>?_,(H.fin zy).mono λj k=>⟨⟨k.1,by have:=k.2;grind⟩,?_⟩,rfl,rfl,rfl,zy,hlt⟩);have k1:j≠c:=zy;have k2:j≠c0:=zy;simp(disch:=try exact xE)only[d9];exact H.fr j hj;grind[d9]
        |false=>
         rw[G5];cases q0:decide (t.k=0)with
          |true=>
           rw[G6];cases qd:decide (deep=200)with
            |true=>simp(disch:=try exact dz)only[b5D,h1,h2,dL,di,e0,b4,b8,t0,b5',q4,q1,q0,qd,bx,z4,↓gP,gY,gT];refine l9.done (Or.inr ⟨_,⟨none,0,0⟩,0,t.p,6,rfl,o7 _ _ _,zu,λj hj=>?_,rfl,rfl,rfl,rfl,zq⟩);have k1:j≠c:=zy;have k2:j≠c0:=zy;simp(disch:=try exact xE)only[d9];exact H.fr j hj|false=>
             have hdi:=G9 deep zy;have qd':=vR qd;simp(disch:=try exact dz)only[b5D,h1,h2,dL,di,e0,b4,b8,t0,b5',q4,q1,q0,qd,hinc,hdi,↓gP,gY,gT];have hb:∀j,j<c->(V.upd (V.upd h c (.cells [(.int .i64 (.ofNat 0),0),(.int .i64 (.ofNat 0),0),(.string ⟨⟨[]⟩⟩,0)] 0 false)) c (.cells [(.int .i64 (.ofNat t.k),0),(.int .i64 (.ofNat t.p),0),(.string ⟨⟨t.t⟩⟩,0)] 0 false)).get j=h.get j:=λj hj=>by have k1:j≠c:=zy;grind[d9]
             have hG2:R7 3 (c+1) (V.upd (V.upd h c (.cells [(.int .i64 (.ofNat 0),0),(.int .i64 (.ofNat 0),0),(.string ⟨⟨[]⟩⟩,0)] 0 false)) c (.cells [(.int .i64 (.ofNat t.k),0),(.int .i64 (.ofNat t.p),0),(.string ⟨⟨t.t⟩⟩,0)] 0 false)) tu (ts.flatMap b5l):=hG.mono zy λj k _=>(hb j zy).trans (H.fr j k);have hcall:=hP k zy (m+(K-(k+1))) (i+1) (deep+1) t.p (c+1) (V.upd (V.upd h c (.cells [(.int .i64 (.ofNat 0),0),(.int .i64 (.ofNat 0),0),(.string ⟨⟨[]⟩⟩,0)] 0 false)) c (.cells [(.int .i64 (.ofNat t.k),0),(.int .i64 (.ofNat t.p),0),(.string ⟨⟨t.t⟩⟩,0)] 0 false)) (c::c::c::ab::ab::r) (c::c::w) hG2 zy hlt zy;have eK:m+(K-(k+1))+k+1=m+K:=zy;rw[eK]at hcall;refine l9.bindC hcall λx s hq=>?_;obtain⟨c',h',r',w'⟩:=s;obtain⟨g1,g2,v,i2,p2,e2,rfl,hR⟩:=hq;have g1:c+1<=c':=g1;have g2:∀j,j<c+1->h'.get j=(V.upd (V.upd h c (.cells [(.int .i64 (.ofNat 0),0),(.int .i64 (.ofNat 0),0),(.string ⟨⟨[]⟩⟩,0)] 0 false)) c (.cells [(.int .i64 (.ofNat t.k),0),(.int .i64 (.ofNat t.p),0),(.string ⟨⟨t.t⟩⟩,0)] 0 false)).get j:=g2;have hs:∀j,j<c->h'.get j=h.get j:=λj hj=>(g2 j zy).trans (hb j hj);have hbc:=g2 c (wu c);rw[o7]at hbc;have bx':=(hs c0 c1).trans bx;have k4:c0≠c':=zy;have k5:c≠c':=zy;have k6:c<c':=zy;have k7:c0<c':=zy;cases q7:a4A ts k (i+1) (deep+1) t.p []with
              |er p' e'=>rw[q7]at hR;obtain⟨rfl,rfl,rfl,rfl,hne⟩:=hR;have q8:decide (e2=0)=false:=wy hne;simp(disch:=try exact dz)only[di,q8,bx',z4,↓gP,gY,gT];refine l9.done (Or.inr ⟨_,⟨none,0,0⟩,0,p2,e2,rfl,o7 _ _ _,zu,λj hj=>?_,rfl,rfl,rfl,rfl,hne⟩);have k1:j≠c':=zy;have k2:j≠c0:=zy;simp(disch:=try exact xE)only[d9];exact(hs j zy).trans (H.fr j hj)|ok l j2=>
               rw[q7]at hR;obtain⟨hN,rfl,rfl,rfl,j3,j4⟩:=hR;have hN:NdL (λb=>c+1<b/\b<c') h' v l:=hN;simp(disch:=try exact dz)only[hbc,↓gP,gY,gT];refine TI.app (x:=.mk 0 t.p [] l) (v:=v) ((H.to (c':=c') zy hs).to (c':=c'+1+1) zy λj hj=>?_) zy (hN.mono λj k=>⟨⟨by have:=k.1;omega,by have:=k.2;omega,λho=>by have:=H.g.own_lt ho;have:=k.1;omega⟩,?_⟩) (by show 0<1800000;omega) (wu _) (o7 _ _ _) λu' c3 h3 r3 w3 hc3 hs3 H3=>?_;have k1:j≠c':=zy;have k2:j≠c'+1:=zy;grind[d9];have k3:=k.2;have k1:j≠c':=zy;have k2:j≠c'+1:=zy;grind[d9];have hno:∀j,c<=j->¬u.own j:=λj k ho=>by have:=H.g.own_lt ho;omega
               have hb3:=hs3 c' zy (hno _ zy);have k8:c'≠c'+1:=zy;simp(disch:=try exact xE)only[d9,o7]at hb3;have k9:c'<c3:=zy;simp(disch:=try exact dz)only[hb3,↓gP,gY];have hfin:=ih e i2 c3 h3 u' (rows++[(.mk 0 t.p [] l,v)]);rw[ut]at hfin;refine hfin _ _ _ zy zy j4 zy zg H3 ?_ ?_;rfl;rfl
          |false=>simp(disch:=try exact dz)only[b5D,h1,h2,dL,di,e0,b4,b8,t0,b5',q4,q1,q0,hinc,↓gP,gY,gT];refine TI.app (x:=.mk t.k t.p t.t []) (v:=⟨none,0,0⟩) (H.to (c':=c+1+1) zy λj hj=>?_) zy .nil htl (wu _) (o7 _ _ _) λu' c3 h3 r3 w3 hc3 hs3 H3=>?_;have k1:j≠c:=zy;have k2:j≠c+1:=zy;grind[d9];simp(disch:=try exact dz)only[↓gP,gY];have hfin:=ih e (i+1) c3 h3 u' (rows++[(.mk t.k t.p t.t [],⟨none,0,0⟩)]);rw[ut]at hfin;refine hfin _ _ _ zy zy zy zy zg H3 ?_ ?_;rfl;rfl
end
theorem e4T {tu ts}(hn:ts.length<1800000)(htx:∀t∈ts,t.t.length<1800000):∀B K,K<B->K<=1900000->d4k tu ts K:=by
 intro B;induction B with
  |zero=>omega|succ B ihB=>
   intro K hK hK9 m i deep op c0 h0 r w hG hk hi hde;have hNN:1900001<=NN:=zq;obtain⟨e,hNe⟩:∃e,NN=K+e:=⟨NN-K,zy⟩;rw[e6r];simp(disch:=try exact dz)only[G65,↓gP,gY];have hT0:TI c0 h0 (c0+1) (V.upd h0 c0 (.cells z4 0 false)) ⟨none,0,0⟩ []:=⟨xD _,λj hj=>d9 zy,o7 _ _ _,R7.nil _ _ _,λj hj=>(by obtain⟨a,h,_⟩:=hj;cases h),λx hx=>(by cases hx)⟩;have hloop:=n65 (i0:=i) hn htx hG K (λj hj=>ihB j zy zy) m deep op hde K e i (c0+1) _ ⟨none,0,0⟩ [] [undef,undef,undef,undef,undef,undef,undef,undef,undef,undef,undef,undef,undef,undef,undef,undef,undef,undef,undef,undef,undef,undef,undef,undef,undef,undef,undef,undef,undef,undef,undef,undef,undef,undef,undef,undef,undef,undef,undef,undef,undef,undef,undef,undef,undef,undef,undef,undef,undef,undef,undef,undef,undef,undef,undef,undef,undef,undef,undef,undef,undef,undef,undef,undef,undef,undef,undef,undef,undef,undef,.slice none 0 0,undef,undef,.int .i64 (.ofNat i)] r (c0::w) (xD _) hk hi (xD _) (vY _) hT0 rfl rfl;rw[<-hNe]at hloop;refine l9.bindJ hloop λy xs' s hq=>?_;obtain⟨c',h',r',w'⟩:=s;rcases hq with⟨xs1,u,rows,i2,e1,e2,e3,H,e4,e5,e6,e7⟩|⟨xs1,v,i2,p,e',e1,e2,e3,e4,e5⟩;cases e1;have le:=H.le;have bx:=H.bx;simp only at le bx;have k1:c0<c':=zy;rw[List.map_nil]at e7;rw[e7];unfold b2m;cases qd:decide (deep=0)with|true=>have q2:decide (0<deep)=false:=wy (by have:=wP qd;omega);simp(disch:=try exact dz)only[e2,e3,dL,q2,bx,z4,a3q,↓gP,gY];refine l9.done ⟨zu,λj hj=>?_,u,i2,0,0,rfl,(H.fin zy).mono λj k=>⟨k,d9 (by have:=k.1;omega)⟩,rfl,rfl,rfl,e6,e5⟩;dsimp only;rw[d9 zy];exact H.fr j hj|false=>have q2:decide (0<deep)=true:=ww (by have:=vR qd;omega);simp(disch:=try exact dz)only[e2,e3,dL,q2,bx,z4,a3q,↓gP,gY];refine l9.done ⟨zu,λj hj=>?_,⟨none,0,0⟩,0,op,3,rfl,rfl,rfl,rfl,rfl,zq⟩;dsimp only;rw[d9 zy];exact H.fr j hj
   cases e1;simp only at e2 e3;have k1:c0<c':=zy;simp(disch:=try exact dz)only[e2,e2a,↓gP,gY];exact l9.done ⟨zu,e4,v,i2,p,e',rfl,e5⟩
theorem e5r (n a):o8 A9 (n+1) 27 [a]=c7T o9 NN (o8 A9 n) a:=a1j (q:=c7T) (N:=NN) zw n a
theorem d0K {T:List UInt8}{a t}(hd:T.drop a=t){q e W}(h:a6I a t=.ok q W e):W.length<=T.length:=by
 have hl:t.length<=T.length:=by rw[<-hd,vz];omega
 cases t with|nil=>cases h|cons b t=>simp only[wU]at hl;unfold a6I at h;simp only at h;cases q1:decide (b.toNat=40)with|true=>rw[q1]at h;cases h;simp_all|false=>rw[q1,G5]at h;cases q2:decide (b.toNat=41)with|true=>rw[q2]at h;cases h;simp_all|false=>rw[q2,G5]at h;cases q3:decide (b.toNat=34)<;>first|rfl|grind[decide,G6,G5]
theorem d2j {T}:∀(k a) (l l'),(∀x∈l,x.t.length<=T.length)->a5T T k a l=.ok l'->∀x∈l',x.t.length<=T.length:=by intro k;induction k with|zero=>intro a l l' _ h;cases h|succ k ih=>intro a l l' hl h;have h':(match T.drop a with|[]=>Lx.ok (l++[(⟨4,T.length,[]⟩:Tok)])|b::t=>match a8a (b::t)with|none=>.er a 3|some (n+1)=>a5T T k (a+(n+1)) l|some 0=>match a6I a (b::t)with|.er p e=>.er p e|.ok q W e=>a5T T k e (l++[(⟨q,a,W⟩:Tok)]))=.ok l':=h;cases hd:T.drop a with|nil=>rw[hd]at h';grind|cons b t=>rw[hd]at h';grind[d0K]
theorem c4R (a x):zs (a++[x])=zs a+x.z:=by induction a<;>first|rfl|grind[zs]
theorem d7y {ts}:∀(k i deep op) (acc l) (j),a4A ts k i deep op acc=.ok l j->i<=j/\zs l<=zs acc+4*(j-i):=by
 intro k;induction k with
  |zero=>intro i deep op acc l j h;cases h|succ k ih=>
   intro i deep op acc l j h;have fin:b2m i deep op acc=.ok l j->i<=j/\zs l<=zs acc+4*(j-i):=λh=>by unfold b2m at h;cases q:decide (deep=0)with|true=>rw[q]at h;cases h;omega|false=>rw[q]at h;cases h
   cases ht:ts[i]? with
    |none=>have h':(match ts[i]? with|none=>b2m i deep op acc|some t=>_)=Rd.ok l j:=h;rw[ht]at h';exact fin h'|some t=>
     rw[c3L ht]at h;cases q4:decide (t.k=4)with
      |true=>rw[q4]at h;exact fin h|false=>
       rw[q4,G5]at h;cases q1:decide (t.k=1)with
        |true=>rw[q1,G6]at h;cases qd:decide (deep=0)with|true=>rw[qd]at h;cases h|false=>rw[qd]at h;cases h;omega
        |false=>
         rw[q1,G5]at h;cases q0:decide (t.k=0)with
          |true=>rw[q0,G6]at h;cases qd:decide (deep=200)with|true=>rw[qd]at h;cases h|false=>rw[qd,G5]at h;cases e:a4A ts k (i+1) (deep+1) t.p []with|er p e'=>rw[e]at h;cases h|ok l1 j1=>rw[e]at h;obtain⟨a1,a2⟩:=ih _ _ _ _ _ _ e;obtain⟨b1,b2⟩:=ih _ _ _ _ _ _ h;rw[c4R]at b2;have hz:=a3X (.mk 0 t.p [] l1);have e1:zs (Nd.mk 0 t.p [] l1).l=zs l1:=rfl;have e2:zs ([]:List Nd)=0:=rfl;omega
          |false=>rw[q0,G5]at h;obtain⟨b1,b2⟩:=ih _ _ _ _ _ _ h;rw[c4R]at b2;have hz:=a3X (.mk t.k t.p t.t []);have e1:zs (Nd.mk t.k t.p t.t []).l=0:=rfl;omega
def b3z (T:List UInt8):Rd:=match a5T T (T.length+1) 0 []with|.er p e=>.er p e|.ok ts=>a4A ts (ts.length+1) 0 0 0 []
theorem t27 {T}(hT:T.length<890000)(M)(hM:1800010<=M)(c0 h0 r w):l9 (go (o8 A9 (M+1) 27 [.string ⟨⟨T⟩⟩]) ⟨c0,h0,r,w⟩) λx s=>c0<=s.c/\(∀i,i<c0->s.h.get i=h0.get i)/\((∃l j v,b3z T=.ok l j/\x=.ret (.tuple ⟨[.slice v.a v.n v.e,.int .i64 (.ofNat 0),.int .i64 (.ofNat 0)]⟩)/\NdL (λb=>c0<=b/\b<s.c) s.h v l/\zs l<=4*(T.length+1))\/(∃p e,b3z T=.er p e/\e≠0/\x=.ret (.tuple ⟨[.slice none 0 0,.int .i64 (.ofNat p),.int .i64 (.ofNat e)]⟩))):=by
 rw[e5r];obtain⟨M3,rfl⟩:∃k,M=k+3:=⟨M-3,zy⟩;simp(disch:=try exact dz)only[G27,↓gP];refine l9.bindC (t64 zy M3 _ _) λx s hq=>?_;obtain⟨c1,h1,r1,w1⟩:=s;obtain⟨f1,f2,⟨ts,u,f3,rfl,H,f4⟩|⟨p,e,f3,f4,rfl⟩⟩:=hq;have f1:c0<=c1:=f1;have htx:∀t∈ts,t.t.length<1800000:=λt ht=>by have:=d2j _ _ _ _ (λx hx=>by cases hx) f3 t ht;omega
 have eP:b3z T=a4A ts (ts.length+1) 0 0 0 []:=by grind[b3z]
 rw[eP];simp(disch:=try exact dz)only[↓gP,gY,gT];have hcall:=e4T (tu:=u) zy htx (ts.length+2) (ts.length+1) zy zy (M3+3-(ts.length+1+1)) 0 0 0 c1 h1 r1 w1 H.g zy (vY _) zq;have eM:M3+3-(ts.length+1+1)+(ts.length+1)+1=M3+3:=zy;rw[eM]at hcall;refine l9.bindC hcall λx s hq=>?_;obtain⟨c2,h2,r2,w2⟩:=s;obtain⟨g1,g2,v,i2,p2,e2,rfl,hR⟩:=hq;have g1:c1<=c2:=g1;simp(disch:=try exact dz)only[G27,↓gP,gY];refine l9.done ⟨zu,λj hj=>?_,?_⟩;have k1:j≠c2:=zy;grind[d9];cases q7:a4A ts (ts.length+1) 0 0 0 []with|er p' e'=>rw[q7]at hR;obtain⟨rfl,rfl,rfl,rfl,hne⟩:=hR;grind|ok l j=>rw[q7]at hR;obtain⟨hN,rfl,rfl,rfl,_,hj⟩:=hR;obtain⟨_,hz⟩:=d7y _ _ _ _ _ _ _ q7;have e0:zs ([]:List Nd)=0:=rfl;refine Or.inl ⟨l,i2,v,rfl,rfl,hN.mono λb k=>⟨⟨by have:=k.1;omega,by have:=k.2;grind⟩,?_⟩,zy⟩;have k3:=k.2;grind[d9]
 have q8:decide (e=0)=false:=wy f4;simp(disch:=try exact dz)only[di,q8,↓gP,gY,gT];refine l9.done ⟨f1,f2,Or.inr ⟨p,e,?_,f4,rfl⟩⟩;grind[b3z]
theorem d3J (n a):o8 A9 (n+1) 30 [a]=c6U o9 NN (o8 A9 n) a:=a1j (q:=c6U) (N:=NN) zw n a
theorem d6s (b c1 r1 w1 r2 w2)(h1:Y3 w1 [b]=true)(h2:Y3 [c1] [b]=true)(h3:Y3 w2 [b]=true):a0v [(0,1),(0,2),(1,2),(0,3),(0,4),(0,5),(0,6),(1,6),(2,6),(3,6),(4,6),(5,6),(0,7),(1,7),(2,7),(3,7),(4,7),(5,7),(6,7),(0,8),(1,8),(2,8),(3,8),(4,8),(5,8),(0,9),(1,9),(2,9),(3,9),(4,9),(5,9),(0,10),(1,10),(2,10),(3,10),(4,10),(5,10),(0,11),(1,11),(2,11),(3,11),(4,11),(5,11),(6,11),(7,11),(8,11),(9,11),(10,11),(0,12),(1,12),(2,12),(3,12),(4,12),(5,12),(6,12),(7,12),(8,12),(9,12),(10,12),(11,12),(0,13),(1,13),(2,13),(3,13),(4,13),(5,13),(6,13),(7,13),(8,13),(9,13),(10,13),(0,14),(1,14),(2,14),(3,14),(4,14),(5,14),(6,14),(7,14),(8,14),(9,14),(10,14),(0,15),(1,15),(2,15),(3,15),(4,15),(5,15),(6,15),(7,15),(8,15),(9,15),(10,15),(0,16),(1,16),(2,16),(3,16),(4,16),(5,16),(6,16),(7,16),(8,16),(9,16),(10,16),(11,16),(12,16),(13,16),(14,16),(15,16),(0,17),(1,17),(2,17),(3,17),(4,17),(5,17),(6,17),(7,17),(8,17),(9,17),(10,17),(11,17),(12,17),(13,17),(14,17),(15,17),(16,17),(0,18),(1,18),(2,18),(3,18),(4,18),(5,18),(6,18),(7,18),(8,18),(9,18),(10,18),(11,18),(12,18),(13,18),(14,18),(15,18),(0,19),(1,19),(2,19),(3,19),(4,19),(5,19),(6,19),(7,19),(8,19),(9,19),(10,19),(11,19),(12,19),(13,19),(14,19),(15,19),(0,20),(1,20),(2,20),(3,20),(4,20),(5,20),(6,20),(7,20),(8,20),(9,20),(10,20),(11,20),(12,20),(13,20),(14,20),(15,20),(0,21),(1,21),(2,21),(3,21),(4,21),(5,21),(6,21),(7,21),(8,21),(9,21),(10,21),(11,21),(12,21),(13,21),(14,21),(15,21),(0,22),(0,23)] [([],[]),([],[]),([],[]),([],[]),([],[]),([b],[]),([],[]),([],[]),([],[]),([],[]),([b],[]),([],[]),([],[]),([],[]),([],[]),([b],[]),([],[]),([],[]),([],[]),([],[]),([b],[]),(r1,w1),([],[]),([],[c1]),(r2,w2),([],[])]=true:=by simp only[a0W,a1v,O5,O4,a2p,a0N,O9,h1,a9o]
structure CI (c0:Nat) (h0:Trie VObj) (c:Nat) (h:Trie VObj) (u:Sl) (rows:List (Nd×Sl)) (w0 w:List Nat):Prop where
 le:c0≤c
 fr:∀ i,i<c0→h.get i=h0.get i
 g:R7 4 c h u (rows.flatMap b1z)
 o:∀ i,u.own i→c0≤i
 nd:∀ x∈rows,NdL (fun i=>c0≤i∧i<c∧¬ u.own i) h x.2 x.1.l∧x.1.t.length<1800000
 w:∀ i∈w,i∈w0∨c0≤i
section
variable {U:Nat->Prop}{lv:Sl}{l:List Nd}{c0:Nat}{h0:Trie VObj}
def f0F (c0:Nat)(h0:Trie VObj)(l:List Nd)(w0:List Nat)(x:CR)(s:V.S):Prop:=c0<=s.c/\(∀i,i<c0->s.h.get i=h0.get i)/\(∀i∈s.w,i∈w0\/c0<=i)/\∃v,x=.ret (.slice v.a v.n v.e)/\NdL (λb=>c0<=b/\b<s.c) s.h v l
def c9z (n:Nat):Prop:=∀(m:Nat) (U:Nat->Prop) (lv:Sl) (l:List Nd) (c0:Nat) (h0:Trie VObj) (r w:List Nat),NdL U h0 lv l->(∀i,U i->i<c0)->zs l<=n->l9 (go (o8 A9 (m+n+1) 30 [.slice lv.a lv.n lv.e]) ⟨c0,h0,r,w⟩) (f0F c0 h0 l w)
theorem n30 {n}(hC:c9z n)(hn:NdL U h0 lv l)(hU:∀i,U i->i<c0)(hz:zs l<=n+1)(m w0):∀(k e i) (c) (h) (u) (rows) (xs) (r w),l.length=i+k->rows.map (·.1)=l.take i->CI c0 h0 c h u rows w0 w->C8 xs 32=.int .i64 (.ofNat i)->C8 xs 29=.slice u.a u.n u.e->l9 (go (Q5 (d4D o9 NN (o8 A9 (m+n+1)) (.slice lv.a lv.n lv.e)) (k+1+e) xs) ⟨c,h,r,w⟩) λy s=>∃xs' u rows,y=(.exit 0,xs')/\C8 xs' 29=.slice u.a u.n u.e/\rows.map (·.1)=l/\CI c0 h0 s.c s.h u rows w0 s.w:=by
 intro k;induction k with
  |zero=>intro e i c h u rows xs r w hk hr H h1 h2;rw[wX 0 1 e,O8];have hlen:=hn.len.1;obtain⟨la,ln,le⟩:=lv;simp only at hlen;subst hlen;have e0:decide (i<l.length)=false:=wy zy;simp(disch:=try exact dz)only[d3k,h1,h2,dL,e0,↓gP,gY];exact l9.done ⟨_,u,rows,rfl,rfl,by rw[hr,tF zy],H⟩|succ k ih=>
   intro e i c h u rows xs r w hk hr H h1 h2;rw[wX (k+1) 1 e,O8];have hlt:i<l.length:=zy;obtain⟨y,hy⟩:∃y,l[i]?=some y:=⟨_,wz hlt⟩;obtain⟨b,p,g,cs,cur,ro,nl,hb,hg,hNn,hT,e1,e2,e3,e4,e5,e6⟩:=hn.get hy;have hlen:=hn.len.1;have hll:=hn.len.2;obtain⟨la,ln,le⟩:=lv;simp only at hlen e1;subst hlen;have b1:=hU b hb;have b2:=(H.fr b b1).trans hg;have cle:=H.le;have b3:b<c:=zy;have hinc:=G9 i zy;have e0:decide (i<l.length)=true:=ww hlt;simp(disch:=try exact dz)only[d3k,h1,h2,dL,e0,e1,b2,e3,e4,e5,e6,↓gP,gY];have hm:=b6a hy;have hzy:=a3X y;refine l9.footS (l9.bindC (hC m (λi=>i<c0) nl y.l c h [] [] (hNn.mono λi k=>⟨hU i k,H.fr i (hU i k)⟩) (λi k=>zy) zy) (λx s hq=>?_) (Q:=λa s=>∃v,a=.slice v.a v.n v.e/\c<=s.c/\(∀i,i<c->s.h.get i=h.get i)/\(∀i∈s.w,c<=i)/\NdL (λb=>c<=b/\b<s.c) s.h v y.l)) λa s hq=>?_;obtain⟨q1,q2,q3,v,rfl,q4⟩:=hq;exact l9.done ⟨v,rfl,q1,q2,λi hi=>(q3 i hi).resolve_left zm,q4⟩;obtain⟨c',h',r',w'⟩:=s;obtain⟨v,rfl,q1,q2,q3,q4⟩:=hq;have q1:c<=c':=q1;have hnn:=H.g.1;rw[b8m]at hnn;have hrl:rows.length=i:=by have:=wO List.length hr;rw[wK,tQ]at this;omega
   simp(disch:=try exact dz)only[↓gP,gY];refine l9.footS (a0M (x:=⟨some ⟨c',0,some 0⟩,1,4⟩) (xs:=b1z (y,v)) d7h zq d6P (H.g.mono (c':=c'+1) (h':=V.upd h' c' (.cells [(.int .i64 (.ofNat y.k),0),(.int .i64 (.ofNat y.p),0),(.string ⟨⟨y.t⟩⟩,0),(.slice v.a v.n v.e,0)] 0 false)) zy λj k1 k2=>(d9 zy).trans (q2 j k1)) ⟨rfl,Or.inr ⟨c',0,0,_,0,false,rfl,rfl,wu _,o7 _ _ _,rfl⟩⟩ rfl zu [] []) λa s hq=>?_;obtain⟨c2,h2',r2,w2⟩:=s;obtain⟨u',rfl,hn',hg2,hc2,hs2,hown,hww⟩:=hq;have hc2:c'+1<=c2:=hc2;have hft:=(d6s _ _ _ _ _ _ (a7p λi hi hj=>by rw[wN]at hj;grind) (a7p λi hi hj=>yU) (a7p λi hi hj=>by rw[wN]at hj;subst hj;rcases hww _ hi with k|k|k;cases k;have:=H.o _ k;omega;omega):a0v _ [([],[]),([],[]),([],[]),([],[]),([],[]),([b],[]),([],[]),([],[]),([],[]),([],[]),([b],[]),([],[]),([],[]),([],[]),([],[]),([b],[]),([],[]),([],[]),([],[]),([],[]),([b],[]),(r',w'),([],[]),([],[c']),(r2,w2),([],[])]=true);simp(disch:=try exact dz)only[G30,hinc,↓gP,gY];have ho':∀j,u'.own j->u.own j\/c'+1<=j:=λj hj=>zu;have hso:∀j,j<c'+1->¬u.own j->j≠c'->h2'.get j=h'.get j:=λj k1 k2 k3=>(hs2 j k1 k2).trans (d9 k3);have huc:∀j,u.own j->j<c:=λj hj=>H.g.own_lt hj;have key:∀j,(c0<=j/\j<c/\¬u.own j)->(c0<=j/\j<c2/\¬u'.own j)/\h2'.get j=h.get j:=λj kk=>⟨⟨kk.1,by have:=kk.2.1;omega,λho=>zu⟩,(hso j (by have:=kk.2.1;omega) kk.2.2 (by have:=kk.2.1;omega)).trans (q2 j kk.2.1)⟩;have H2:CI c0 h0 c2 h2' u' (rows++[(y,v)]) w0 (I9 w2 (c'::I9 w' w)):=by refine⟨zy,λj hj=>?_,?_,λj hj=>?_,λz hz=>?_,λj hj=>?_⟩;exact(hso j zy (λho=>by have:=H.o j ho;omega) zy).trans ((q2 j zy).trans (H.fr j hj));rw[uZ,ui];exact hg2;rcases ho' j hj with k1|k1;exact H.o j k1;omega;rcases vN.1 hz with k1|k1;exact⟨(H.nd z k1).1.mono key,(H.nd z k1).2⟩;rw[wN]at k1;subst k1;refine⟨q4.mono λj kk=>⟨⟨by have:=kk.1;omega,by have:=kk.2;grind,λho=>?_⟩,hso j (by have:=kk.2;grind) (λho=>by have:=huc j ho;have:=kk.1;omega) (by have:=kk.2;grind)⟩,hT⟩;grind;rw[V7,vN,vG,V7,vN]at hj;rcases hj with k1|k1|k1|k1;rcases hww j k1 with k2|k2|k2;cases k2;exact Or.inr (H.o j k2);omega;omega;have:=q3 j k1;omega;exact H.w j k1
   refine ih e (i+1) c2 h2' u' (rows++[(y,v)]) _ _ _ zy ?_ H2 ?_ ?_;rw[ut,hr,qM,hy];rfl;rfl;rfl
theorem c1C:∀n,c9z n:=by
 intro n;induction n with
  |zero=>intro m U lv l c0 h0 r w hn hU hz;cases l with|cons y l=>have h1:zs (y::l)=y.z+zs l:=rfl;have h2:=a3X y;omega|nil=>have hlen:=hn.len.1;obtain⟨la,ln,le⟩:=lv;simp only[vM]at hlen;subst hlen;have e0:decide (0<0)=false:=rfl;have hNe:NN=1999999+1:=rfl;rw[d3J];simp(disch:=try exact dz)only[G30,↓gP];rw[hNe,O8];simp(disch:=try exact dz)only[d3k,dL,a3q,↓gP,gY,gT,Nat.reduceAdd,Nat.reduceLT];exact l9.done ⟨xD _,λ_ _=>rfl,λi hi=>Or.inl hi,⟨none,0,0⟩,rfl,.nil⟩
  |succ n ih=>
   intro m U lv l c0 h0 r w hn hU hz;have hll:=hn.len.2;have hNN:1800001<=NN:=zq;obtain⟨e,hNe⟩:∃e,NN=l.length+1+e:=⟨NN-(l.length+1),zy⟩;show l9 (go (o8 A9 (m+n+1+1) 30 _) _) _;rw[d3J];simp(disch:=try exact dz)only[G30,↓gP];have hloop:=n30 ih hn hU hz m w l.length e 0 c0 h0 ⟨none,0,0⟩ [] [undef,undef,undef,undef,undef,undef,undef,undef,undef,undef,undef,undef,undef,undef,undef,undef,undef,undef,undef,undef,undef,undef,undef,undef,undef,undef,undef,undef,undef,.slice none 0 0,undef,undef,.int .i64 (.ofNat 0)] r w zy rfl ⟨xD _,λ_ _=>rfl,R7.nil _ _ _,λj hj=>(by obtain⟨a,h,_⟩:=hj;cases h),λx hx=>(by cases hx),λi hi=>Or.inl hi⟩ rfl rfl;rw[<-hNe]at hloop;refine l9.bindJ hloop λy xs' s hq=>?_;obtain⟨c',h',r',w'⟩:=s;obtain⟨xs1,u,rows,f1,f2,f3,H⟩:=hq;cases f1;simp(disch:=try exact dz)only[f2,a3q,↓gP,gY];refine l9.done ⟨H.le,H.fr,H.w,u,rfl,?_⟩;have hrl:rows.length=l.length:=by rw[<-f3,wK]
   have:=H.g.nd (U:=λb=>c0<=b/\b<c') (λi hi=>⟨H.o i hi,H.g.own_lt hi⟩) (λx hx=>⟨(H.nd x hx).1.mono λi k=>⟨⟨k.1,k.2.1⟩,rfl⟩,(H.nd x hx).2⟩) zy;rw[f3]at this;exact this
end
end
section
attribute [local congr] q9 x8 A8 z8 D5
theorem n63 (N call z):c1H o9 N call (.int .u8 (.ofNat z))=V.M.pure (.ret (.bool (sgN z))):=by simp only[e7I,U1,Y6,Q4,Q3,Q6,Q7,l_0,l_s,a7o,I6,V.e7i,a3N,a9T,a5d];have d1:∀a b:Nat,decide (Int.ofNat a<=Int.ofNat b)=Nat.ble a b:=λa b=>(sN.2 sD).trans (tJ.2 ⟨λh=>uO (wP h),λh=>ww (wJ h)⟩);have d2:∀a b:Nat,decide (Int.ofNat a=Int.ofNat b)=Nat.beq a b:=λa b=>(deq a b).trans (tJ.2 ⟨λh=>by rw[wP h];simp_all,λh=>ww (wo h)⟩);simp only[d1,d2];grind[sgN]
theorem e6I (n a):o8 A9 (n+1) 63 [a]=c1H o9 NN (o8 A9 n) a:=a1j (q:=c1H) (N:=NN) zw n a
theorem e6c (n a):o8 A9 (n+1) 24 [a]=c1T o9 NN (o8 A9 n) a:=a1j (q:=c1T) (N:=NN) zw n a
theorem l24 (N0 call)(hs:∀b:UInt8,call 63 [.int .u8 (.ofNat b.toNat)]=V.M.pure (.ret (.bool (sgN b.toNat))))(T)(hT:T.length<2000000):∀(l) (i N) (xs),T.drop i=l->l.length<N->C8 xs 12=.int .i64 (.ofNat i)->C8 xs 9=.bool false->∃x,Q5 (d3I o9 N0 call (.string ⟨⟨T⟩⟩)) N xs=V.M.pure x/\bcase (a6y l) (x.1=.exit 0) (x.1=.ret/\C8 x.2 9=.bool false):=by have hlenS:a3S (.string ⟨⟨T⟩⟩)=V.M.pure (.int .i64 (.ofNat T.length)):=a1k _;intro l;induction l with|nil=>intro i N xs hd hN h1 h2;obtain⟨N,rfl⟩:∃m,N=m+1:=⟨N-1,zy⟩;have hi:¬i<T.length:=yQ;have h3:=b1y i T.length hi;rw[Z6];simp(disch:=try exact dy)only[b6Q,h1,h3,hlenS,U1,Y8,G5,N7,a2x,V.e7i,I7,M4];exact⟨_,rfl,rfl⟩|cons b l ih=>intro i N xs hd hN h1 h2;obtain⟨N,rfl⟩:∃m,N=m+1:=⟨N-1,zy⟩;obtain⟨hb,hd',hi⟩:=b4n hd;have h3:=b4l i T.length hi;have hbT:(⟨⟨T⟩⟩:ByteArray).data.toList[i]?=some b:=hb;have h4:=a0l ⟨⟨T⟩⟩ i b hbT;have hsi:=b5Z i zy;have hlen:l.length<N:=zm;have hsg:=hs b;have ha:a6y (b::l)=(sgN b.toNat&&a6y l):=X7 _ _ _;rw[ha];cases hq:sgN b.toNat with|true=>rw[hq]at hsg;rw[Z6,a7i];simp(disch:=try exact dy)only[b6Q,h1,h2,h3,h4,hlenS,hsi,hsg,a1o,U1,Y8,J3,G6,G5,N7,I6,V.e7i,I7,M4,T9];exact ih (i+1) N _ hd' hlen rfl rfl|false=>rw[hq]at hsg;rw[Z6,uf];simp(disch:=try exact dy)only[b6Q,h1,h2,h3,h4,hlenS,hsi,hsg,a0K,U1,Y8,J3,G6,G5,N7,a3l,V.e7i,I7,M4,T9];exact⟨_,rfl,rfl,rfl⟩
theorem n24 (N call)(hs:∀b:UInt8,call 63 [.int .u8 (.ofNat b.toNat)]=V.M.pure (.ret (.bool (sgN b.toNat))))(T)(hT:T.length<N)(hT2:T.length<2000000):c1T o9 N call (.string ⟨⟨T⟩⟩)=V.M.pure (.ret (.bool (a1l T))):=by have hlenS:∀T:List UInt8,a3S (.string ⟨⟨T⟩⟩)=V.M.pure (.int .i64 (.ofNat T.length)):=λT=>a1k _;match T,hT,hT2 with|[],hT,hT2=>have h1:decide (([]:List UInt8).length<2)=true:=rfl;rfl|[b],hT,hT2=>have h1:decide (([b]:List UInt8).length<2)=true:=rfl;rfl|b::c::l,hT,hT2=>have h1:decide ((b::c::l).length<2)=false:=wy zn;have i0:=a0l ⟨⟨b::c::l⟩⟩ 0 b rfl;have hn:a1l (b::c::l)=(decide (b.toNat=36)&&a6y (c::l)):=rfl;rw[hn];cases h36:decide (b.toNat=36)with|false=>simp(disch:=try exact dy)only[e2H,hlenS,dL,J5,h1,h36,i0,U1,Y6,b0n,N9,G6,Q3,Q6,Q7,l_0,l_s,X0,N7,I6,V.e7i,a5d,I7,a0K,uf]|true=>simp(disch:=try exact dy)only[e2H,hlenS,dL,J5,h1,h36,i0,U1,Y6,b0n,N9,G6,G5,Q3,Q6,Q7,l_0,l_s,X0,N7,I6,V.e7i,a5d,I7,a1o,a0K,a7i];obtain⟨x,hx,hm⟩:=l24 N call hs (b::c::l) hT2 (c::l) 1 N [undef,undef,undef,undef,undef,undef,undef,undef,undef,.bool false,undef,undef,.int .i64 (.ofNat 1)] rfl zu rfl rfl;rw[hx,V.e7i];cases ha:a6y (c::l)with|true=>rw[ha]at hm;have hm:x.1=.exit 0:=hm;grind[a2x,J4,G6]|false=>rw[ha]at hm;obtain⟨q1,q2⟩:=(hm:x.1=.ret/\C8 x.2 9=.bool false);grind[a3l]
theorem t24 {T}(hT:T.length<1800000)(M):o8 A9 (M+2) 24 [.string ⟨⟨T⟩⟩]=V.M.pure (.ret (.bool (a1l T))):=by rw[e6c];exact n24 NN _ (λb=>by rw[e6I];exact n63 _ _ _) T zu zy
end
section
def Tok.e (x:Tok):Nat×List UInt8:=(x.k,x.t)
def c3d:List UInt8->Bool|[]=>false|b::_=>sgN b.toNat
def Lk (t:List UInt8)(ks:List (Nat×List UInt8)):Prop:=∀(T:List UInt8) (a:Nat),T.drop a=t->∃ts,ts.map Tok.e=ks/\∀k acc,T.length-a<k->a5T T k a acc=.ok (acc++ts++[(⟨4,T.length,[]⟩:Tok)])
theorem c5u {T t:List UInt8}{b:UInt8}{a:Nat}(hd:T.drop a=b::t)(k:Nat)(l:List Tok):a5T T (k+1) a l=(match a8a (b::t)with|none=>.er a 3|some (n+1)=>a5T T k (a+(n+1)) l|some 0=>match a6I a (b::t)with|.er p e=>.er p e|.ok q W e=>a5T T k e (l++[⟨q,a,W⟩])):=by show(match T.drop a with|[]=>_|b::t=>_)=_;rw[hd]
theorem Lk.nil:Lk [] []:=by intro T a hd;refine⟨[],rfl,λk acc hk=>?_⟩;obtain⟨k,rfl⟩:∃j,k=j+1:=⟨k-1,zy⟩;show(match T.drop a with|[]=>_|b::t=>_)=_;rw[hd,wR]
theorem Lk.ws {b t ks}(hb:wsB b.toNat=true)(H:Lk t ks):Lk (b::t) ks:=by
 intro T a hd;obtain⟨d1,d2,d3⟩:=a5Q hd;obtain⟨ts,h1,h2⟩:=H T (a+1) d2;refine⟨ts,h1,λk acc hk=>?_⟩;obtain⟨k,rfl⟩:∃j,k=j+1:=⟨k-1,zy⟩;have e:a8a (b::t)=some 1:=by show bcase (wsB b.toNat) (some 1) _=_;rw[hb];rfl
 rw[c5u hd,e];grind
theorem Lk.tok {b t t' ks q n W}(hs:a8a (b::t)=some 0)(hn:∀a,a6I a (b::t)=.ok q W (a+(n+1)))(ht:t.drop n=t')(H:Lk t' ks):Lk (b::t) ((q,W)::ks):=by
 intro T a hd;obtain⟨d1,d2,d3⟩:=a5Q hd;have hd2:T.drop (a+(n+1))=t':=by rw[<-pI,hd,List.drop_succ_cons,ht]
 obtain⟨ts,h1,h2⟩:=H T (a+(n+1)) hd2;refine⟨⟨q,a,W⟩::ts,by rw[rX,h1];rfl,λk acc hk=>?_⟩;obtain⟨k,rfl⟩:∃j,k=j+1:=⟨k-1,zy⟩;rw[c5u hd,hs];grind
theorem c7s {b t}(h1:wsB b.toNat=false)(h2:b≠59)(h3:b=40->t.head?≠some 59):a8a (b::t)=some 0:=by
 show bcase (wsB b.toNat) (some 1) _=_;rw[h1,G5];cases t with
  |nil=>rfl|cons b1 t1=>
   have e1:beqBytes [b,b1] [59,59]=false:=by cases q:beqBytes [b,b1] [59,59]with|false=>rfl|true=>have:=a8Y q;simp_all
   have e2:beqBytes [b,b1] [40,59]=false:=by cases q:beqBytes [b,b1] [40,59]with|false=>rfl|true=>have:=a8Y q;simp_all
   simp_all[bcase]
theorem Lk.op {t ks}(h:t.head?≠some 59)(H:Lk t ks):Lk (40::t) ((0,[])::ks):=Lk.tok (n:=0) (c7s rfl zq λ_=>h) (λa=>rfl) (ug) H
theorem Lk.cl {t ks}(H:Lk t ks):Lk (41::t) ((1,[])::ks):=Lk.tok (n:=0) (c7s rfl zq λh=>absurd h zq) (λa=>rfl) (ug) H
theorem d1V:∀(W t),W.all (λb=>sgN b.toNat)=true->c3d t=false->a1C sgN (W++t)=W.length:=by
 intro W;induction W with
  |nil=>intro t _ h;cases t with|nil=>rfl|cons b t=>have h:sgN b.toNat=false:=h;show a1C sgN (b::t)=0;unfold a1C;rw[h];rfl
  |cons b W ih=>intro t h1 h2;rw[oq,wh]at h1;grind[a1C,G6]
theorem d4s {b:UInt8}(h:sgN b.toNat=true):wsB b.toNat=false/\b≠59/\b≠40/\decide (b.toNat=40)=false/\decide (b.toNat=41)=false/\decide (b.toNat=34)=false:=by
 have key:∀n,n<256->sgN n=true->wsB n=false/\n≠59/\n≠40/\n≠41/\n≠34:=by have hall:M0 (λn=>!(sgN n)||(!(wsB n)&&(!(Nat.beq n 59)&&(!(Nat.beq n 40)&&(!(Nat.beq n 41)&& !(Nat.beq n 34)))))) (upN 256)=true:=zw;intro n hn hs;have:=(R5 _ _).1 hall n (uw.2 hn);rw[hs]at this;simp_all[Nat.ne_of_beq_eq_false]
 obtain⟨k1,k2,k3,k4,k5⟩:=key b.toNat (UInt8.toNat_lt b) h;exact⟨k1,λe=>k2 (by rw[e];rfl),λe=>k3 (by rw[e];rfl),wy k3,wy k4,wy k5⟩
theorem Lk.wd {W t ks}(h0:W≠[])(h1:W.all (λb=>sgN b.toNat)=true)(h2:c3d t=false)(H:Lk t ks):Lk (W++t) ((2,W)::ks):=by
 cases W with
  |nil=>simp_all|cons b W=>
   have hs:=d1V (b::W) t h1 h2;have hb:sgN b.toNat=true:=by rw[oq,wh]at h1;exact h1.1
   obtain⟨k1,k2,k3,k4,k5,k6⟩:=d4s hb;have hs':a1C sgN (b::(W++t))=W.length+1:=hs;refine Lk.tok (n:=W.length) (c7s k1 k2 λe=>absurd e k3) (λa=>?_) List.drop_left H;show a6I a (b::(W++t))=_;unfold a6I;have e0:decide (W.length+1=0)=false:=rfl;simp_all[G5]
inductive Sp where
 | w (t:List UInt8)
 | l (xs:List Sp)
mutual
inductive Is:Nd→Sp→Prop
 | w {p:Nat} {t:List UInt8}:Is (.mk 2 p t []) (.w t)
 | l {p:Nat} {ns:List Nd} {xs:List Sp}:IsL ns xs→Is (.mk 0 p [] ns) (.l xs)
inductive IsL:List Nd→List Sp→Prop
 | nil:IsL [] []
 | cons {n:Nd} {x:Sp} {ns:List Nd} {xs:List Sp}:Is n x→IsL ns xs→IsL (n::ns) (x::xs)
end
inductive Bal:Nat→List (Nat×List UInt8)→List Sp→Prop
 | nil {d:Nat}:Bal d [] []
 | w {d:Nat} {W:List UInt8} {ks:List (Nat×List UInt8)} {xs:List Sp}:Bal d ks xs→Bal d ((2,W)::ks) (.w W::xs)
 | l {d:Nat} {k1 k2:List (Nat×List UInt8)} {x1 x2:List Sp}:Bal d k1 x1→Bal (d+1) k2 x2→Bal (d+1) ((0, [])::(k1 ++ (1, [])::k2)) (.l x1::x2)
theorem Bal.app {d k1 k2 x1 x2}(h1:Bal d k1 x1)(h2:Bal d k2 x2):Bal d (k1++k2) (x1++x2):=by induction h1 with|nil=>exact h2|w _ ih=>exact .w (ih h2)|l a b _ ih2=>have:=ih2 h2;rw[sQ,vT];exact .l a this
theorem IsL.app {n1 n2 x1 x2}(h1:IsL n1 x1)(h2:IsL n2 x2):IsL (n1++n2) (x1++x2):=by induction n1 generalizing x1 with|nil=>cases h1;exact h2|cons n ns ih=>cases h1 with|cons a b=>exact .cons a (ih b)
end
theorem d9l {u}(h:u<10):Lib.decDigits u=[UInt8.ofNat (48+u)]:=by rw[Lib.decDigits,dif_pos h]
theorem d8b {u}(h:¬u<10):Lib.decDigits u=Lib.decDigits (u/10)++[UInt8.ofNat (48+u%10)]:=by rw[Lib.decDigits,dif_neg h]
theorem e6i {n:Nat}(h:n<256):(UInt8.ofNat n).toNat=n:=by rw[UInt8.toNat_ofNat'];omega
theorem c4F:∀(n u),u<n->Lib.decDigits u≠[]/\∀b∈Lib.decDigits u,48<=b.toNat/\b.toNat<=57:=by intro n;induction n<;>first|rfl|grind[d9l,e6i,d8b]
theorem d1h (u):Lib.decDigits u≠[]:=(c4F (u+1) u (wu u)).1
theorem d8S {u b}(h:b∈Lib.decDigits u):48<=b.toNat/\b.toNat<=57:=(c4F (u+1) u (wu u)).2 b h
theorem e3B {n}(h1:48<=n)(h2:n<=57):sgN n=true:=by have hall:M0 (λn=>!(Nat.ble 48 n&&Nat.ble n 57)||sgN n) (upN 256)=true:=zw;have:=(R5 _ _).1 hall n (uw.2 zy);rw[a2e h1,a2e h2]at this;simp_all
theorem b3G (u):(Lib.decDigits u).all (λb=>sgN b.toNat)=true:=by rw[sS];grind[d8S,e3B]
def e8O (w n:Nat):Int:=if n<2^(w-1)then(n:Int)else(n:Int)-2^w
theorem d0P (z):(Lib.itoa z).all (λb=>sgN b.toNat)=true/\Lib.itoa z≠[]:=by unfold Lib.itoa;by_cases h:z<0;rw[vX h];refine⟨?_,zn⟩;rw[oq,b3G];rfl;simp_all[vg,b3G,d1h]
def a5v (o:Option Nat)(n:Nat):Bool:=match o with|some m=>Nat.beq m n|none=>false
section
theorem Is.ls {n xs}(h:Is n (.l xs)):n.k=0/\n.t=[]/\IsL n.l xs:=by cases h with|l h=>exact⟨rfl,rfl,h⟩
theorem IsL.one {ns x}(h:IsL ns [x]):∃n,ns=[n]/\Is n x:=by cases h with|cons h1 h2=>cases h2;simp_all
theorem IsL.split {ns xs ys}(h:IsL ns (xs++ys)):∃n1 n2,ns=n1++n2/\IsL n1 xs/\IsL n2 ys:=by induction xs generalizing ns with|nil=>exact⟨[],ns,rfl,.nil,h⟩|cons x xs ih=>cases h with|cons h1 h2=>obtain⟨n1,n2,rfl,h3,h4⟩:=ih h2;exact⟨_::n1,n2,rfl,.cons h1 h3,h4⟩
structure FolN (n:Nd):Prop where
 ix:Z0 n.k n.t=false
 of:(decide (n.k=2) && a0X n.t [111, 102, 102, 115, 101, 116, 61])=false
 al:(decide (n.k=2) && a0X n.t [97, 108, 105, 103, 110, 61])=false
 nm:(decide (n.k=2) && a1l n.t)=false
 re:Z4 n.k (a0f n.l) [114, 101, 115, 117, 108, 116]=false
 ty:Z4 n.k (a0f n.l) [116, 121, 112, 101]=false
def Fol (t:List Nd):Prop:=∀n u,t=n::u->FolN n
theorem Fol.nil:Fol []:=λn u h=>zZ
section
variable {F:Nat->List (Value×Value)}{L:List (List UInt8)}{al q a u v:Nat}{l t:List Nd}{R:RV}{n m:Nd}
end
end
section
def c6n (N:Nat):List UInt8:=[111,102,102,115,101,116,61]++Lib.decDigits N
def c7G (A:Nat):List UInt8:=[97,108,105,103,110,61]++Lib.decDigits (2^A)
section
variable {F:Nat->List (Value×Value)}{L:List (List UInt8)}{al q a u v:Nat}{l t:List Nd}{R:RV}{n m:Nd}
end
end
inductive It where
 | w (W:List UInt8)
 | l (W V:List UInt8)
def It.b:It->List UInt8|.w W=>32::W|.l W V=>32::40::(W++32::(V++[41]))
def It.k:It->List (Nat×List UInt8)|.w W=>[(2,W)]|.l W V=>[(0,[]),(2,W),(2,V),(1,[])]
def It.s:It->Sp|.w W=>.w W|.l W V=>.l [.w W,.w V]
def Wd (W:List UInt8):Prop:=W≠[]/\W.all (λb=>sgN b.toNat)=true
def It.ok:It->Prop|.w W=>Wd W|.l W V=>Wd W/\Wd V
theorem Lk.it {x:It}{t ks}(hx:x.ok)(ht:c3d t=false)(H:Lk t ks):Lk (x.b++t) (x.k++ks):=by
 cases x with
  |w W=>exact Lk.ws (b:=32) rfl (Lk.wd hx.1 hx.2 ht H)|l W V=>
   obtain⟨⟨h1,h2⟩,h3,h4⟩:=hx;have e:It.b (.l W V)++t=32::40::(W++32::(V++41::t)):=by show 32::40::(W++32::(V++[41]))++t=_;simp
   rw[e];refine Lk.ws (b:=32) rfl (Lk.op ?_ (Lk.wd h1 h2 rfl (Lk.ws (b:=32) rfl (Lk.wd h3 h4 rfl (Lk.cl H)))));cases W with|nil=>simp_all|cons b W=>simp_all[d4s]
theorem Lk.its:∀(its:List It) {t} {ks},(∀x∈its,x.ok)->c3d t=false->Lk t ks->Lk (its.flatMap It.b++t) (its.flatMap It.k++ks)/\c3d (its.flatMap It.b++t)=false:=by intro its;induction its with|nil=>simp_all|cons x its ih=>intro t ks hx ht H;obtain⟨h1,h2⟩:=ih (λy hy=>hx y (by simp[hy])) ht H;rw[vU,vU,vT,vT];refine⟨Lk.it (hx x zn) h2 h1,?_⟩;cases x<;>rfl
theorem Bal.its:∀its:List It,Bal 1 (its.flatMap It.k) (its.map It.s):=by intro its;induction its with|nil=>exact .nil|cons x its ih=>rw[vU,rX];cases x with|w W=>exact .w ih|l W V=>exact .l (.w (.w .nil)) ih
def b1Y (n:Nat):List It:=bcase (Nat.beq n 0) [] [.w (Lib.decDigits n)]
def tyW:List UInt8:=[116,121,112,101]
def reW:List UInt8:=[114,101,115,117,108,116]
inductive Pl:AI→List It→Prop
 | none {op:Nat}:P9 (.ofNat op)=0→Pl ⟨op, 0, 0, 0, 0, 0, 0, [], []⟩ []
 | one {op A j:Nat}:P9 (.ofNat op)=j→(j=2∨j=4∨j=7∨j=8∨j=12∨j=16)→A<4294967296→Pl ⟨op,A, 0, 0, 0, 0, 0, [], []⟩ [.w (Lib.decDigits A)]
 | tab {op A:Nat} {ls:List Nat}:P9 (.ofNat op)=3→A<4294967296→(∀ k∈ls,k<4294967296)→Pl ⟨op,A, 0, 0, 0, 0, 0, [],ls⟩ ((ls ++ [A]).map fun k=>.w (Lib.decDigits k))
 | ind {op A B:Nat}:P9 (.ofNat op)=5→A<4294967296→B<4294967296→Pl ⟨op,A,B, 0, 0, 0, 0, [], []⟩ (b1Y B ++ [.l tyW (Lib.decDigits A)])
 | sel {v:Nat}:1≤v→v≤4→Pl ⟨28, 0, 0, 0, 0, 0, 0, [v], []⟩ [.l reW (a1f (.ofNat v))]
 | tbl {op A:Nat}:P9 (.ofNat op)=9→A<4294967296→Pl ⟨op,A, 0, 0, 0, 0, 0, [], []⟩ (b1Y A)
 | two {op A B j:Nat}:P9 (.ofNat op)=j→(j=10∨j=14)→A<4294967296→B<4294967296→Pl ⟨op,A,B, 0, 0, 0, 0, [], []⟩ (bcase (Nat.beq A 0 && Nat.beq B 0) [] [.w (Lib.decDigits A),.w (Lib.decDigits B)])
 | ini {op A B j:Nat}:P9 (.ofNat op)=j→(j=11∨j=15)→A<4294967296→B<4294967296→Pl ⟨op,A,B, 0, 0, 0, 0, [], []⟩ (b1Y B ++ [.w (Lib.decDigits A)])
 | mem {op B:Nat}:P9 (.ofNat op)=13→B<4294967296→Pl ⟨op, 0,B, 0, 0, 0, 0, [], []⟩ (b1Y B)
 | acc {op A B N:Nat}:P9 (.ofNat op)=17→A<64→B<4294967296→N<4294967296→Pl ⟨op,A,B,N, 0, 0, 0, [], []⟩ (b1Y B ++ (bcase (Nat.beq N 0) [] [.w (c6n N)] ++ bcase (Nat.beq A (a6l op)) [] [.w (c7G A)]))
 | con {op N j w:Nat}:P9 (.ofNat op)=j→(j=18∧w=32∨j=19∧w=64)→N<2 ^ w→Pl ⟨op, 0, 0,N, 0, 0, 0, [], []⟩ [.w (Lib.itoa (e8O w N))]
 | null {op A:Nat}:P9 (.ofNat op)=20→(A=3∨A=4)→Pl ⟨op,A, 0, 0, 0, 0, 0, [], []⟩ [.w (bcase (decide (A=3)) [102, 117, 110, 99] [101, 120, 116, 101, 114, 110])]
theorem b0o (u):Wd (Lib.decDigits u):=⟨d1h u,b3G u⟩
theorem b0f {n x}(h:x∈b1Y n):x.ok:=by unfold b1Y at h;cases q:Nat.beq n 0 with|true=>rw[q]at h;cases h|false=>rw[q,G5,wN]at h;subst h;exact b0o n
theorem e2c {v}(h1:1<=v)(h4:v<=4):Wd (a1f (.ofNat v)):=by have:v=1\/v=2\/v=3\/v=4:=zy;have one:Wd [105,51,50]:=⟨zn,zw⟩;have two:Wd [105,54,52]:=⟨zn,zw⟩;have thr:Wd [102,117,110,99,114,101,102]:=⟨zn,zw⟩;have fou:Wd [101,120,116,101,114,110,114,101,102]:=⟨zn,zw⟩;rcases this with rfl|rfl|rfl|rfl;exact one;exact two;exact thr;exact fou
theorem d8u (N):Wd (c6n N):=⟨by unfold c6n;simp,by unfold c6n;rw[List.all_append,b3G,uC];kernel_rfl⟩
theorem d7E (A):Wd (c7G A):=⟨by unfold c7G;simp,by unfold c7G;rw[List.all_append,b3G,uC];kernel_rfl⟩
theorem e6H:Wd tyW:=⟨by unfold tyW;simp,zw⟩
theorem e2Y:Wd reW:=⟨by unfold reW;simp,zw⟩
theorem Pl.ok {X its}(h:Pl X its):∀x∈its,x.ok:=by
 intro x hx;cases h with
  |none=>cases hx|one _ _ _=>rw[wN]at hx;subst hx;exact b0o _|tab _ _ _=>rw[uj]at hx;obtain⟨k,_,rfl⟩:=hx;exact b0o k|ind _ _ _=>rcases vN.1 hx with h|h;exact b0f h;rw[wN]at h;subst h;exact⟨e6H,b0o _⟩|sel h1 h4=>rw[wN]at hx;subst hx;exact⟨e2Y,e2c h1 h4⟩|tbl _ _=>exact b0f hx| @two op A B j _ _ _ _=>cases q:Nat.beq A 0&&Nat.beq B 0 with|true=>rw[q]at hx;cases hx|false=>rw[q,G5]at hx;simp only[vG,List.not_mem_nil,or_false]at hx;rcases hx with rfl|rfl;exact b0o _;exact b0o _
  |ini _ _ _ _=>rcases vN.1 hx with h|h;exact b0f h;rw[wN]at h;subst h;exact b0o _|mem _ _=>exact b0f hx| @acc op A B N _ _ _ _=>
   rcases vN.1 hx with h|h;exact b0f h;rcases vN.1 h with h|h;cases q:Nat.beq N 0 with|true=>rw[q]at h;cases h|false=>rw[q,G5,wN]at h;subst h;exact d8u N
   cases q:Nat.beq A (a6l op)with|true=>rw[q]at h;cases h|false=>rw[q,G5,wN]at h;subst h;exact d7E A
  |con _ _ _=>rw[wN]at hx;subst hx;exact⟨(d0P _).2,(d0P _).1⟩| @null op A _ hA=>rw[wN]at hx;subst hx;rcases hA with rfl|rfl;exact(⟨zn,zw⟩:Wd [102,117,110,99]);exact(⟨zn,zw⟩:Wd [101,120,116,101,114,110])
section
section
variable {F:Nat->List (Value×Value)}{L:List (List UInt8)}{i:Nat}{l t ns:List Nd}{n:Nd}
end
end
theorem IsL.none {ns}(h:IsL ns []):ns=[]:=by cases h;rfl
section
attribute [local congr] q9 x8 A8 z8 D5 x9 D6 D8 D7
theorem e4j (m n v):a6F tab 90 (.map (some m)) (.int .i64 n) v=M.bind (a6s m) λes=>M.obind (Y9 (.int .i64 n) es) λ_=>fList (a1G (.int .i64 n) v es) λes'=>wr m (.map es'):=zw
theorem d2t {m c h r w es n v x}(hm:m<c)(e:h.get m=some (.map es))(hf:Y9 (.int .i64 n) es=some x):go (b7Z tab 90 (.map (some m)) (.int .i64 n) v) ⟨c,h,r,w⟩=some (undef,⟨c,V.upd h m (.map (a1G (.int .i64 n) v es)),m::r,m::w⟩):=by unfold b7Z;rw[e4j,M5,M5,a6h m c h r w es hm e,M9,hf,G7,a0g];show U3 (wr m _ ⟨c,h,m::r,w⟩) _=_;rw[b2U,L8 hm,e];rfl
theorem c5j (c h r w):go c6a ⟨c,h,r,w⟩=some (.map (some c),⟨c+1,V.upd h c (.map []),r,c::w⟩):=by unfold c6a;rw[M5];show U3 (new _ _) _=_;rw[c5C];rfl
def esN (c:Nat):Nat->List (Value×Value)|0=>[]|i+1=>a1G (.int .i64 (.ofNat i)) (.pointer (some ⟨c+3+2*i,0,some 0⟩)) (esN c i)
theorem b2j (a b):a1q (.int .i64 (.ofNat a)) (.int .i64 (.ofNat b))=some (decide (a=b)):=by have e:a1q (.int .i64 (.ofNat a)) (.int .i64 (.ofNat b))=some (decide (Int.ofNat a=Int.ofNat b)):=rfl;rw[e,di]
theorem d2m (k j v):∀es,(∀e∈es,∃n,e.1=.int .i64 (.ofNat n))->Y9 (.int .i64 (.ofNat k)) (a1G (.int .i64 (.ofNat j)) v es)=bcase (decide (k=j)) (some (some v)) (Y9 (.int .i64 (.ofNat k)) es):=by
 intro es;induction es with
  |nil=>intro _;show(match a1q (.int .i64 (.ofNat k)) (.int .i64 (.ofNat j))with|none=>none|some true=>some (some v)|some false=>some none)=_;rw[b2j];cases decide (k=j)<;>rfl|cons e es ih=>
   intro h;obtain⟨n,hn⟩:=h e zn;obtain⟨e1,e2⟩:=e;simp only at hn;subst hn;have hih:=ih λe he=>h e (vW _ he);have e0:a1G (.int .i64 (.ofNat j)) v ((.int .i64 (.ofNat n),e2)::es)=(match a1q (.int .i64 (.ofNat j)) (.int .i64 (.ofNat n))with|some true=>(.int .i64 (.ofNat j),v)::es|_=>(.int .i64 (.ofNat n),e2)::a1G (.int .i64 (.ofNat j)) v es):=rfl;rw[e0,b2j];have e3:∀(q:Nat) (x:Value) (l:List (Value×Value)),Y9 (.int .i64 (.ofNat k)) ((.int .i64 (.ofNat q),x)::l)=bcase (decide (k=q)) (some (some x)) (Y9 (.int .i64 (.ofNat k)) l):=λq x l=>by show(match a1q (.int .i64 (.ofNat k)) (.int .i64 (.ofNat q))with|none=>none|some true=>some (some x)|some false=>Y9 (.int .i64 (.ofNat k)) l)=_;rw[b2j];cases decide (k=q)<;>rfl
   by_cases h1:j=n;subst h1;rw[ww rfl];show Y9 _ ((.int .i64 (.ofNat j),v)::es)=_;rw[e3,e3];by_cases h2:k=j;rw[ww h2];rfl;rw[wy h2];rfl;rw[wy h1];show Y9 _ ((.int .i64 (.ofNat n),e2)::a1G _ v es)=_;rw[e3,e3,hih];by_cases h2:k=j;rw[ww h2,wy (show¬k=n by omega)];rfl;rw[wy h2];rfl
theorem d2i (j v):∀es,(∀e∈es,∃n,e.1=.int .i64 (.ofNat n))->∀e∈a1G (.int .i64 (.ofNat j)) v es,∃n,e.1=.int .i64 (.ofNat n):=by intro es;induction es with|nil=>intro _ e he;have:e=(.int .i64 (.ofNat j),v):=wN.1 he;rw[this];grind|cons x es ih=>intro h e he;obtain⟨n,hn⟩:=h x zn;obtain⟨x1,x2⟩:=x;simp only at hn;subst hn;have e0:a1G (.int .i64 (.ofNat j)) v ((.int .i64 (.ofNat n),x2)::es)=(match a1q (.int .i64 (.ofNat j)) (.int .i64 (.ofNat n))with|some true=>(.int .i64 (.ofNat j),v)::es|_=>(.int .i64 (.ofNat n),x2)::a1G (.int .i64 (.ofNat j)) v es):=rfl;rw[e0,b2j]at he;grind
theorem d2Z (c):∀i,∀e∈esN c i,∃n,e.1=.int .i64 (.ofNat n):=by intro i;induction i with|zero=>intro e he;cases he|succ i ih=>exact d2i i _ _ ih
theorem b4Z (c k):∀i,Y9 (.int .i64 (.ofNat k)) (esN c i)=bcase (decide (k<i)) (some (some (.pointer (some ⟨c+3+2*k,0,some 0⟩)))) (some none):=by intro i;induction i with|zero=>rfl|succ i ih=>show Y9 _ (a1G _ _ (esN c i))=_;rw[d2m k i _ _ (d2Z c i),ih];by_cases h1:k=i;subst h1;rw[ww rfl,ww (wu k)];rfl;rw[wy h1];by_cases h2:k<i;rw[ww h2,ww (show k<i+1 by omega)];rfl;rw[wy h2,wy (show¬k<i+1 by omega)];rfl
structure NI (c0:Nat) (h0:Trie VObj) (i c:Nat) (h:Trie VObj):Prop where
 c:c=c0+2+2 * i
 fr:∀ j,j<c0→h.get j=h0.get j
 m:h.get c0=some (.map (esN c0 i))
 s:h.get (c0+1)=some (.cells [(.map (some c0), 0),(.slice none 0 0, 0)] 0 false)
 k:∀ j,j<i→h.get (c0+2+2 * j)=some (.map [])∧h.get (c0+3+2 * j)=some (.cells [(.int .i64 (.ofNat 0), 0),(.slice none 0 0, 0),(.map (some (c0+2+2 * j)), 0)] 0 false)
theorem e3n (n):o8 A9 (n+1) 21 []=c7P o9 NN (o8 A9 n):=e1r (q:=c7P) (N:=NN) zw n
section
variable {c0:Nat}{h0:Trie VObj}
theorem n21 (call):∀(k e i c) (h) (xs) (r w),i+k=9->NI c0 h0 i c h->C8 xs 12=.int .i64 (.ofNat i)->l9 (go (Q5 (d3Y o9 NN call (.pointer (some ⟨c0+1,0,some 0⟩))) (k+1+e) xs) ⟨c,h,r,w⟩) λy s=>∃xs',y=(.exit 0,xs')/\NI c0 h0 9 s.c s.h:=by
 intro k;induction k with
  |zero=>intro e i c h xs r w hi H h1;rw[wX 0 1 e,O8];have:i=9:=zy;subst this;have e0:decide (9<9)=false:=rfl;simp(disch:=try exact dz)only[e0z,h1,dL,↓gP,gY,gT,Nat.reduceLT];exact l9.done ⟨_,rfl,H⟩|succ k ih=>
   intro e i c h xs r w hi H h1;rw[wX (k+1) 1 e,O8];have e0:decide (i<9)=true:=ww zy;have hinc:=G9 i zy;obtain⟨hc,hfr,hm,hs,hk⟩:=H;have b1:c0+1<c:=zy;have b2:c0+1≠c:=zy;have b3:c0+1≠c+1:=zy;have b4:c0≠c:=zy;have b5:c0≠c+1:=zy;have b6:c0≠c0+1:=zy;have hf:Y9 (.int .i64 (.ofNat i)) (esN c0 i)=some none:=by rw[b4Z,wy (vJ i)];rfl
   have hfill:a5l [(2,1)] [.map (some c)] [.int .i64 (.ofNat 0),.slice none 0 0,.map none]=some [.int .i64 (.ofNat 0),.slice none 0 0,.map (some c)]:=rfl;have hone:(M0 P8 [.int .i64 (.ofNat 0),.slice none 0 0,.map (some c)]&& !(a2A [Value.int .i64 (.ofNat 0),.slice none 0 0,.map (some c)]))=true:=rfl;have hup2:=λ(h':Trie VObj) (r w:List Nat)=>a1n (c+1) h' r w [Value.int .i64 (.ofNat 0),.slice none 0 0,.map (some c)] hone;simp(disch:=try exact dz)only[e0z,h1,dL,e0,hs,c5j,hinc,hfill,G7,hup2,a2w,a3g,↓gP,gY];rw[d2t (es:=esN c0 i) (x:=none) zy (by rw[d9 b5,d9 b4];exact hm) hf,M9];simp(disch:=try exact dz)only[↓gP,gY];refine ih e (i+1) (c+1+1) _ _ _ _ zy ⟨zy,λj hj=>?_,?_,?_,λj hj=>?_⟩ rfl;have k1:j≠c:=zy;have k2:j≠c+1:=zy;have k3:j≠c0:=zy;grind[d9];rw[o7];have e1:c+1=c0+3+2*i:=zy;rw[e1];rfl;have k3:c0+1≠c0:=zy;grind[d9];rcases uV j i with k|k;grind[d9];have:j=i:=zy;subst this;have e1:c0+3+2*j=c+1:=zy;have e2:c0+2+2*j=c:=zy;rw[e1,e2];have k1:c≠c+1:=zy;have k2:c≠c0:=zy;have k3:c+1≠c0:=zy;simp(disch:=try exact xE)only[d9,o7];grind
end
theorem ScS.mono {sb m F L c c' h h' u U}(H:ScS sb m F L c h u U)(hc:c<=c')(hs:∀i,i<c->h'.get i=h.get i):ScS sb m F L c' h' u (λi=>U i\/c<=i/\i<c'):=⟨wY H.s hc,(hs _ H.s).trans H.hs,H.la.mono hc λb k _=>hs b k,H.lo,H.sc.mono λi hi=>⟨Or.inl hi,hs i (H.u i hi).1⟩,λi hi=>by rcases hi with k|⟨k1,k2⟩;exact⟨wY (H.u i k).1 hc,(H.u i k).2⟩;have:=H.s;exact⟨k2,zy,λho=>by have:=H.la.own_lt ho;omega⟩⟩
end
end Go.Proofs.YtmomonnlmbljoaaGreatDoor
