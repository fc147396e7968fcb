import Derived.Test.YtmomonnlmbljoaaGreatDoorBbi
set_option maxRecDepth 1000000
set_option maxHeartbeats 4000000
set_option linter.unusedVariables false
set_option linter.unusedSimpArgs false
section
namespace Go.Proofs.YtmomonnlmbljoaaGreatDoor
open Go.V Go.RowKit Go.Shelf Go.Proofs
variable {mL:Int}
attribute [local congr] y7 x9 A8 A7 D5 z8 E5 G8 G7
theorem b3g {α}(cs:List α)(n)(h:x8 cs=n):a0x cs n=cs:=by rw[a2m];rw[F9]at h;rw[<-h];exact List.take_length
theorem b2C {g}:∀(cs) (n) (rows xs),x8 cs=n->y8 g cs n=some rows->y8 (g+1) (D7 cs (U0 (λv=>(v,g+1)) xs)) (n+xs.length)=some (rows++xs):=by
 have new:∀(xs:List Value),y8 (g+1) (U0 (λv=>(v,g+1)) xs) xs.length=some xs:=by intro xs;induction xs with|nil=>exact V9 _ _|cons x xs ih=>show(match Nat.ble (g+1) (g+1)with|true=>(match y8 (g+1) (U0 (λv=>(v,g+1)) xs) xs.length with|some vs=>some (x::vs)|none=>none)|false=>none)=_;rw[a3K,ih]
 intro cs;induction cs with
  |nil=>
   intro n rows xs hn h;have hn:n=0:=hn.symm;subst hn;have h:rows=[]:=by rw[V9]at h;cases h;rfl
   subst h;rw[vV];exact new xs|cons q cs ih=>intro n rows xs hn h;obtain⟨v,st⟩:=q;have hn:x8 cs+1=n:=hn;subst hn;have h':(match Nat.ble st g with|true=>(match y8 g cs (x8 cs)with|some vs=>some (v::vs)|none=>none)|false=>none)=some rows:=h;cases q1:Nat.ble st g with|false=>rw[q1]at h';cases h'|true=>rw[q1]at h';cases q2:y8 g cs (x8 cs)with|none=>rw[q2]at h';cases h'|some vs=>rw[q2]at h';cases h';have hle:Nat.ble st (g+1)=true:=uG (Nat.le_succ_of_le (vT q1));rw[vY];show(match Nat.ble st (g+1)with|true=>(match y8 (g+1) (D7 cs (U0 (λv=>(v,g+1)) xs)) (x8 cs+xs.length)with|some vs=>some (v::vs)|none=>none)|false=>none)=_;rw[hle,ih (x8 cs) vs xs rfl q2];rfl
def a4M (sz c0 c:Nat)(h:Trie VObj)(u:Sl)(rows:List Value):Prop:=rows.length=u.n*sz/\((u=⟨none,0,0⟩)\/∃ab g cs,u.a=some ⟨ab,0,some g⟩/\u.e=sz/\c0<=ab/\ab<c/\h.get ab=some (.cells cs g false)/\x8 cs=rows.length/\y8 g cs rows.length=some rows)
def c2a (sz c:Nat)(h:Trie VObj)(x:Sl)(xs:List Value):Prop:=xs.length=x.n*sz/\(x.n=0\/∃xb ox gx cs cur ro,x.a=some ⟨xb,ox,some gx⟩/\x.e=sz/\xb<c/\h.get xb=some (.cells cs cur ro)/\y8 gx (H9 cs ox) xs.length=some xs)
theorem a4M.nil (sz c0 c h):a4M sz c0 c h ⟨none,0,0⟩ []:=⟨zq,Or.inl rfl⟩
theorem a4M.mono {sz c0 c c' h h' u rows}(H:a4M sz c0 c h u rows)(hc:c<=c')(hh:∀b,c0<=b->b<c->(∀a,u.a=some a->a.block=b->h'.get b=h.get b)):a4M sz c0 c' h' u rows:=by obtain⟨h1,h2|⟨ab,g,cs,h2,h3,h4,h5,h6,h7,h8⟩⟩:=H;exact⟨h1,Or.inl h2⟩;exact⟨h1,Or.inr ⟨ab,g,cs,h2,h3,h4,zy,(hh ab h4 h5 _ h2 rfl).trans h6,h7,h8⟩⟩
def Sl.own (u:Sl)(i:Nat):Prop:=∃a,u.a=some a/\a.block=i
theorem b5I {sz c h x xs}(X:c2a sz c h x xs)(r w):∃r',go (a9s sz (.slice x.a x.n x.e)) ⟨c,h,r,w⟩=some (xs,⟨c,h,r',w⟩):=by
 obtain⟨xa,xn,xe⟩:=x;obtain⟨h1,h2⟩:=X;simp only at h1 h2;cases xn with
  |zero=>have:xs=[]:=uz.1 (by rw[h1,tT]);subst this;cases xa with|none=>exact⟨r,rfl⟩|some a=>exact⟨r,rfl⟩
  |succ m=>rcases h2 with h2|⟨xb,ox,gx,cs,cur,ro,rfl,rfl,h3,h4,h5⟩;cases h2;refine⟨xb::r,?_⟩;show go (M.guard (Nat.beq xe xe) (loadN ⟨xb,ox,some gx⟩ ((m+1)*xe))) ⟨c,h,r,w⟩=_;rw[R5,P8,a1u,I7 h3,h4,a0h,<-h1,h5];rfl
theorem d1W {e sz}(e1:e.size=sz)(e0:0<sz)(e2:Nat.blt e.bytes 4096=true){c0 c h u x rows xs}(H:a4M sz c0 c h u rows)(X:c2a sz c h x xs)(ho:J2 O4 xs=true)(hl:(u.n+x.n)*4<4294967296)(hc:c0<=c)(r w):l9 (go (a4F e (.slice u.a u.n u.e) (.slice x.a x.n x.e)) ⟨c,h,r,w⟩) λy s=>∃u',y=.slice u'.a u'.n u'.e/\u'.n=u.n+x.n/\a4M sz c0 s.c s.h u' (rows++xs)/\c<=s.c/\(∀i,i<c->¬u.own i->s.h.get i=h.get i)/\∀i,i<c->u'.own i->u.own i:=by
 obtain⟨r',hs⟩:=b5I X r w;unfold a4F;rw[e1,J8,hs,J3,Z6];obtain⟨hx,_⟩:=X;cases xs with
  |nil=>have hx0:x.n=0:=xU;refine⟨_,_,rfl,u,rfl,zy,by rw[wH];exact H,wQ _,λ_ _ _=>rfl,λ_ _ h=>h⟩|cons v vs=>
   have hlen:x8 (v::vs)=x.n*sz:=by rw[F9];exact hx
   have hlen':x8 vs+1=x.n*sz:=hlen;have hdiv:(x8 vs+1)/sz=x.n:=by rw[hlen'];exact Nat.mul_div_cancel _ e0
   have hg1:Nat.beq (x.n*sz) (x8 vs+1)=true:=by rw[hlen'];exact R5 _
   have hg2:Nat.blt ((u.n+x.n)*4) a3W=true:=I7 hl;unfold a1J;simp only[a2F,e1,hdiv,hg1,ho,hg2,e2,uf,P8];obtain⟨hrl,rfl|⟨ab,g,cs,h2,h3,h4,h5,h6,h7,h8⟩⟩:=H;have hr0:rows=[]:=by
    have:rows.length=0:=by rw[hrl];exact tT _
    exact uz.1 this
   subst hr0;simp only[R5,P8];rw[J8,a1T _ _ _ _ _ ho,J3];refine⟨_,_,rfl,⟨some ⟨c,0,some 0⟩,x.n,sz⟩,rfl,(vV _).symm,⟨?_,Or.inr ⟨c,0,_,rfl,rfl,hc,wE c,o7 _ _ _,?_,?_⟩⟩,vv c,λi hi _=>d9 zy,λi hi hq=>?_⟩;exact hx;rw[F9,a0R,wF];rfl;have:∀l:List Value,y8 0 (U0 (λv=>(v,0)) l) l.length=some l:=yN;exact this (v::vs);obtain⟨a,ha,hb⟩:=hq;cases ha;simp only at hb;omega;obtain⟨ua,un,ue⟩:=u;simp only at h2 h3 hrl hl⊢;subst h2;subst h3;simp only[R5,P8];unfold appendAt;have hb:Nat.ble (0+un*ue) (x8 cs)=true:=by rw[vV,h7,hrl];exact a3K _
   simp only[E8,e1];rw[J8];show l9 (R8 (rd ab ⟨c,h,r',w⟩) _) _;rw[b3I,I7 h5,h6];simp only[J3,a5A,ug,P8,hb,a0i];rw[<-hrl,h8,E8,Z6,vV,b3g cs rows.length h7,J8];show l9 (R8 (wr ab _ _) _) _;rw[b2N,I7 h5,h6];refine⟨_,_,rfl,⟨some ⟨ab,0,some (g+1)⟩,un+x.n,ue⟩,rfl,rfl,⟨?_,Or.inr ⟨ab,g+1,_,rfl,rfl,h4,h5,o7 _ _ _,?_,?_⟩⟩,wQ c,λi hi hq=>d9 (λe=>hq ⟨_,rfl,e.symm⟩),λi hi hq=>?_⟩;rw[wG,hrl,hx,tJ];rw[X3,h7,F9,a0R,wF,wG];rw[wG];exact b2C cs rows.length rows (v::vs) h7 h8;obtain⟨a,ha,hb⟩:=hq;cases ha;exact⟨_,rfl,hb⟩
theorem l9.footS {α β x}{f:α×a1Q->M β}{r w P Q}(h:l9 x P)(k:∀a s,P a s->l9 (go (f (a,(s.r,s.w))) ⟨s.c,s.h,D7 s.r r,D7 s.w w⟩) Q):l9 (R8 (V.b9F x r w) f) Q:=by obtain⟨a,s,e,p⟩:=h;rw[e];exact k a s p
theorem e5H:ti3.size=1:=zw
theorem e4i:Nat.blt ti3.bytes 4096=true:=zw
theorem d4y:ti9.size=1:=zw
theorem d4b:Nat.blt ti9.bytes 4096=true:=zw
theorem d9v:b3b.size=9:=zw
theorem e0p:Nat.blt b3b.bytes 4096=true:=zw
end Go.Proofs.YtmomonnlmbljoaaGreatDoor
end
section
namespace Go.Proofs.YtmomonnlmbljoaaGreatDoor
open Go.V Go.RowKit Go.Shelf Go.Proofs
variable {mL:Int}
attribute [local congr] y7 x9 A8 A7 D5 z8 E5 G8 G7
theorem At.setO {U h0 sv fo ar ap lv q c h h' R P}(H:At U h0 sv fo ar ap lv q c h R P){b}(b2:b≠ar)(b3:b≠ap)(b4:¬U b)(hs:∀i,i≠b->h'.get i=h.get i):At U h0 sv fo ar ap lv q c h' R P:=⟨λi hi=>⟨(H.u i hi).1,(H.u i hi).2.1,(H.u i hi).2.2.1,(hs i (λe=>b4 (e▸hi))).trans (H.u i hi).2.2.2⟩,H.r,H.p,H.ne,(hs ar (λe=>b2 e.symm)).trans H.hr,(hs ap (λe=>b3 e.symm)).trans H.hp⟩
section
variable {U:Nat->Prop}{h0:Trie VObj}{sv fo:Value}{F:Nat->List (Value×Value)}{L:List (List UInt8)}{ar ap:Nat}{lv:Sl}{q c:Nat}{h:Trie VObj}{R:RV}{P:PV}{l:List Nd}
theorem c9T (E:Env U h0 sv F L)(m){kv fd}(hk:a8g F L kv fd)(H:At U h0 sv fo ar ap lv q c h R P)(hl:NdL U h0 lv l){tb}(b1:tb<c)(b2:tb≠ar)(b3:tb≠ap)(b4:¬U tb){v0}(htb:h.get tb=some (.cells [(v0,0)] 0 false))(r w):l9 (go (o8 D8 (m+5) 183 [.pointer (some ⟨ar,0,some 0⟩),kv,.pointer (some ⟨tb,0,some 0⟩)]) ⟨c,h,r,w⟩) λx s=>c<=s.c/\(∀i,i<c->i≠ar->i≠ap->i≠tb->s.h.get i=h.get i)/\((∃k,N9 fd l q R.i=.ok k/\x=.ret (.bool true)/\At U h0 sv fo ar ap lv q s.c s.h {R with i:=R.i+1} P/\s.h.get tb=some (.cells [(.int .i64 (.ofNat k),0)] 0 false))\/(∃p e,N9 fd l q R.i=.er p e/\x=.ret (.bool false)/\∃R',At U h0 sv fo ar ap lv q s.c s.h R' {P with p:=p,e:=e})):=by
 have hr:=H.hr;have hp:=H.hp;have a1:=H.r;have a2:=H.p;have a3:=H.ne;have a4:ap≠ar:=λe=>H.ne e.symm;have a5:ar≠c:=zy;have a6:ap≠c:=zy;have a7:ar≠c+1:=zy;have a8:ap≠c+1:=zy;have b5:tb≠c:=zy;have b6:tb≠c+1:=zy;have b7:ar≠tb:=λe=>b2 e.symm;have b8:ap≠tb:=λe=>b3 e.symm;have hlen:=hl.len.1;have e0:=S9 lv.a l.length lv.e;rw[c2Z];cases hi:l[R.i]? with
  |none=>
   obtain⟨z,y,o1,o2,hm⟩:=a0Z (m+3) H hl hi;have hlt:l.length<=R.i:=za;have d1:decide (R.i<l.length)=false:=zS;have eS:N9 fd l q R.i=.er q 4:=by unfold N9;rw[hi]
   simp(disch:=try exact dz)only[b2i,hm,hr,hp,I5,F8,a1g,a3g,V3,G72,hlen,e0,dlt,d1,↓gP,gY,gT];refine l9.done ?_;refine⟨zV,λi hi h1 h2 h3=>?_,Or.inr ⟨_,_,eS,rfl,R,H.setP zV (λi hi hp=>?_) ?_⟩⟩;simp(disch:=first|assumption|omega)only[d9];simp(disch:=first|assumption|omega)only[d9];simp(disch:=first|assumption|omega)only[o7,F8]|some n=>
   obtain⟨z,y,o1,o2,nl,hn,hT,hm⟩:=a1a (m+3) H hl hi;have hlt:R.i<l.length:=(wM.1 hi).1;have d1:decide (R.i<l.length)=true:=zR;have hinc:=J6 R.i xK;cases q1:Y3 n.k n.t with
    |false=>have eS:N9 fd l q R.i=.er n.p 4:=xu;obtain⟨b,p,g,cs,cur,ro,nl',hb,hg,_,_,e1,e2,e3,e4,e5,e6⟩:=hl.get hi;obtain⟨u1,u2,u3,u4⟩:=H.u b hb;have hg':=u4.trans hg;rw[hlen]at e1;have b1:b≠c:=zy;have b2:b≠c+1:=zy;simp(disch:=try exact dz)only[b2i,hm,a1S,q1,hr,hp,I5,F8,a1g,a3g,V3,G72,hlen,e0,dlt,d1,e1,e4,hg',↓gP,gY,gT];refine l9.done ?_;refine⟨zV,λi hi h1 h2 h3=>?_,Or.inr ⟨_,_,eS,rfl,R,H.setP zV (λi hi hp=>?_) ?_⟩⟩;simp(disch:=first|assumption|omega)only[d9];simp(disch:=first|assumption|omega)only[d9];simp(disch:=first|assumption|omega)only[o7,F8]|true=>
     simp(disch:=try exact dz)only[b2i,hm,a1S,q1,↓gP,gY,gT];refine l9.bindC (c1A E (m+1) hk (H.to ?_ λi hi=>?_) n nl hT _ _) λx s hq=>?_;omega;simp(disch:=first|assumption|omega)only[d9];obtain⟨c',h',r',w'⟩:=s;obtain⟨hc,hs,hor⟩:=hq;simp only at hc hs;have htb':h'.get tb=some (.cells [(v0,0)] 0 false):=by have:=hs tb zy b3;simp(disch:=first|assumption|omega)only[d9]at this;exact this.trans htb
     have b1':tb<c':=zy;have hs0:∀i,i<c->i≠ap->h'.get i=h.get i:=λi k1 k2=>by have:=hs i zy k2;simp(disch:=first|assumption|omega)only[d9]at this;exact this
     rcases hor with⟨q2,rfl,H'⟩|⟨q2,rfl,H'⟩;have eS:N9 fd l q R.i=.ok (fd n.t).1:=yR;have hr':=H'.hr;have c1:=H'.r;simp only at hr' c1;simp(disch:=try exact dz)only[hr',I5,hinc,htb',↓gP,gY];refine l9.done ?_;refine⟨zV,λi k1 k2 k3 k4=>?_,Or.inl ⟨_,eS,rfl,(H'.setR (R':={R with i:=R.i+1}) (wQ _) (h':=V.upd h' ar (.cells (I5 ap lv q {R with i:=R.i+1}) 0 false)) (λi k1 k2=>?_) ?_).setO (b:=tb) b2 b3 b4 (λi k1=>?_),?_⟩⟩;have:=hs0 i k1 k3;simp(disch:=first|assumption|omega)only[d9];exact this;simp(disch:=first|assumption|omega)only[d9];simp(disch:=first|assumption|omega)only[o7,I5];simp(disch:=first|assumption|omega)only[d9,I5,hlen];simp(disch:=first|assumption|omega)only[o7];have eS:N9 fd l q R.i=.er n.p (fd n.t).2:=yS;have hr':=H'.hr;have c1:=H'.r;simp only at hr' c1;simp(disch:=try exact dz)only[hr',I5,hinc,htb',↓gP,gY];refine l9.done ?_;refine⟨zV,λi k1 k2 k3 k4=>?_,Or.inr ⟨_,_,eS,rfl,{R with i:=R.i+1},(H'.setR (R':={R with i:=R.i+1}) (wQ _) (h':=V.upd h' ar (.cells (I5 ap lv q {R with i:=R.i+1}) 0 false)) (λi k1 k2=>?_) ?_).setO (b:=tb) b2 b3 b4 (λi k1=>?_)⟩⟩;have:=hs0 i k1 k3;simp(disch:=first|assumption|omega)only[d9];exact this;simp(disch:=first|assumption|omega)only[d9];simp(disch:=first|assumption|omega)only[o7,I5];simp(disch:=first|assumption|omega)only[d9,I5,hlen]
end
end Go.Proofs.YtmomonnlmbljoaaGreatDoor
end
section
namespace Go.Proofs.YtmomonnlmbljoaaGreatDoor
open Go.V Go.RowKit Go.Shelf Go.Proofs
variable {mL:Int}
attribute [local congr] y7 x9 A8 A7 D5 z8 E5 G8 G7
inductive Ls where
 | ok (ks:List Nat)
 | er (p e:Nat)
def Ls.cons (k:Nat):Ls->Ls|.ok ks=>.ok (k::ks)|.er p e=>.er p e
noncomputable def hdI:List Nd->Bool|[]=>false|n::_=>Y3 n.k n.t
noncomputable def a3b (fd:List UInt8->Nat×Nat)(q:Nat):List Nd->Ls|[]=>.er q 4|n::t=>bcase (Y3 n.k n.t) (bcase (decide ((fd n.t).2=0)) (bcase (hdI t) ((a3b fd q t).cons (fd n.t).1) (.ok [(fd n.t).1])) (.er n.p (fd n.t).2)) (.er n.p 4)
def iV (k:Nat):Value:=.int .i64 (.ofNat k)
theorem d2q (l i):hdI (l.drop i)=isI l i:=by
 unfold isI;cases h:l[i]? with
  |none=>
   have:l.drop i=[]:=by rw[pY];simpa using h
   rw[this];rfl|some n=>
   have hi:=(wM.1 h).1;have:l.drop i=n::l.drop (i+1):=by rw[tK hi];have:=(wM.1 h).2;rw[this]
   rw[this];rfl
theorem a4M.fresh {sz c0 c h u rows}(H:a4M sz c0 c h u rows){i}(hi:i<c0):¬u.own i:=by rintro⟨a,ha,rfl⟩;obtain⟨_,rfl|⟨ab,g,cs,h2,h3,h4,_⟩⟩:=H;cases ha;rw[h2]at ha;cases ha;simp only at hi;omega
theorem a4M.keep {sz c0 c c' h h' u rows}(H:a4M sz c0 c h u rows)(hc:c<=c')(hh:∀b,c0<=b->b<c->h'.get b=h.get b):a4M sz c0 c' h' u rows:=H.mono hc λb h1 h2 _ _ _=>hh b h1 h2
section
variable {U:Nat->Prop}{h0:Trie VObj}{sv fo:Value}{F:Nat->List (Value×Value)}{L:List (List UInt8)}{ar ap:Nat}{lv:Sl}{q c:Nat}{h:Trie VObj}{R:RV}{P:PV}{l:List Nd}
theorem d0M (E:Env U h0 sv F L)(m)(hl:NdL U h0 lv l)(c0)(hb0:Trie VObj)(ha:ar<c0)(hap:ap<c0)(hU0:∀i,U i->i<c0):∀(t) (R) (k) (S) (u) (g0 g1 g2 g3 g5 g6 g7 g8 g10 g11 g12 g13 g14 g15 g16 g17 g18 g19 g20 g21 g22 g23) (c) (h) (r w),l.drop R.i=t->R.i<=l.length->t.length<k->S.length+t.length<1000000->c0<=c->(∀i,i<c0->i≠ar->i≠ap->h.get i=hb0.get i)->At U h0 sv fo ar ap lv q c h R P->a4M 1 c0 c h u (S.map iV)->l9 (go (U4 (c8c o9 NN (o8 D8 (m+6)) (.pointer (some ⟨ar,0,some 0⟩))) k [g0,g1,g2,g3,.bool false,g5,g6,g7,g8,.slice u.a u.n u.e,g10,g11,g12,g13,g14,g15,g16,g17,g18,g19,g20,g21,g22,g23]) ⟨c,h,r,w⟩) λx s=>c0<=s.c/\(∀i,i<c0->i≠ar->i≠ap->s.h.get i=hb0.get i)/\((∃ks,a3b (a0q L) q t=.ok ks/\x.1=.exit 0/\∃u',C9 x.2 9=.slice u'.a u'.n u'.e/\a4M 1 c0 s.c s.h u' ((S++ks).map iV)/\At U h0 sv fo ar ap lv q s.c s.h {R with i:=R.i+ks.length} P)\/(∃p e,a3b (a0q L) q t=.er p e/\x.1=.ret/\C9 x.2 4=.bool false/\∃R',At U h0 sv fo ar ap lv q s.c s.h R' {P with p:=p,e:=e})):=by
 intro t;induction t with
  |nil=>
   intro R k S u g0 g1 g2 g3 g5 g6 g7 g8 g10 g11 g12 g13 g14 g15 g16 g17 g18 g19 g20 g21 g22 g23 c h r w hd hRl hk hS hc hs H HG;obtain⟨k,rfl⟩:∃m,k=m+1:=⟨k-1,zU⟩;have hi:l[R.i]?=none:=by have:l.length<=R.i:=yl;simp[this]
   have n1:¬U c:=λhi=>by have:=hU0 _ hi;omega
   simp(disch:=try exact dz)only[Y5,d4D,↓gP,gY];refine l9.bindC (c9T E (m+1) (Or.inl ⟨rfl,rfl⟩) (H.to ?_ λi hi=>?_) hl (tb:=c) (v0:=.int .i64 (.ofNat 0)) ?_ ?_ ?_ n1 ?_ _ _) λx s hq=>?_;omega;simp(disch:=first|assumption|omega)only[d9];omega;have:=H.r;omega;have:=H.p;omega;simp only[o7];obtain⟨c',h',r',w'⟩:=s;obtain⟨hc',hs',hor⟩:=hq;simp only at hc' hs';have eM:N9 (a0q L) l q R.i=.er q 4:=by unfold N9;rw[hi]
   rcases hor with⟨kk,e1,rfl,H',ht⟩|⟨p,e,e1,rfl,R',H'⟩;rw[eM]at e1;cases e1;rw[eM]at e1;cases e1;simp(disch:=try exact dz)only[↓gP,gY,gT];refine l9.done ?_;refine⟨zV,λi k1 k2 k3=>?_,Or.inr ⟨q,4,rfl,rfl,rfl,R',H'⟩⟩;have:=hs' i zy k2 k3 zy;simp(disch:=first|assumption|omega)only[d9]at this;exact this.trans (hs i k1 k2 k3)|cons n t ih=>
   intro R k S u g0 g1 g2 g3 g5 g6 g7 g8 g10 g11 g12 g13 g14 g15 g16 g17 g18 g19 g20 g21 g22 g23 c h r w hd hRl hk hS hc hs H HG;obtain⟨k,rfl⟩:∃m,k=m+1:=⟨k-1,zU⟩;have hil:R.i<l.length:=zJ;have hi:l[R.i]?=some n:=zF;have hd':l.drop (R.i+1)=t:=zI;have n1:¬U c:=λhi=>by have:=hU0 _ hi;omega
   have hll:=hl.len.2;simp(disch:=try exact dz)only[Y5,d4D,↓gP,gY];refine l9.bindC (c9T E (m+1) (Or.inl ⟨rfl,rfl⟩) (H.to ?_ λi hi=>?_) hl (tb:=c) (v0:=.int .i64 (.ofNat 0)) ?_ ?_ ?_ n1 ?_ _ _) λx s hq=>?_;omega;simp(disch:=first|assumption|omega)only[d9];omega;have:=H.r;omega;have:=H.p;omega;simp only[o7];obtain⟨c',h',r',w'⟩:=s;obtain⟨hc',hs',hor⟩:=hq;simp only at hc' hs';have hs1:∀i,i<c0->i≠ar->i≠ap->h'.get i=hb0.get i:=λi k1 k2 k3=>by have:=hs' i zy k2 k3 zy;simp(disch:=first|assumption|omega)only[d9]at this;exact this.trans (hs i k1 k2 k3)
   rcases hor with⟨kk,e1,rfl,H',ht⟩|⟨p,e,e1,rfl,R',H'⟩;have eM:Y3 n.k n.t=true/\(a0q L n.t).2=0/\kk=(a0q L n.t).1:=by unfold N9 at e1;rw[hi]at e1;simp only at e1;cases q1:Y3 n.k n.t with|false=>rw[q1,V7]at e1;cases e1|true=>rw[q1,U9]at e1;cases q2:decide ((a0q L n.t).2=0)with|false=>rw[q2,V7]at e1;cases e1|true=>rw[q2,U9]at e1;cases e1;exact⟨rfl,vS q2,rfl⟩
   obtain⟨m1,m2,rfl⟩:=eM;simp only at ht H';have t1:c<c':=zy;have HG':a4M 1 c0 c' h' u (S.map iV):=HG.keep zy λb k1 k2=>by have:=hs' b zy zy zy zy;simp(disch:=first|assumption|omega)only[d9]at this;exact this
   have hGn:u.n=S.length:=by have:=HG'.1;rw[wF,uu]at this;exact this.symm
   simp(disch:=try exact dz)only[ht,↓gP,gY,gT];refine l9.bindS (d1W (x:=⟨some ⟨c',0,some 0⟩,1,1⟩) (xs:=[iV (a0q L n.t).1]) e5H zu e4i (HG'.keep (vv c') λb k1 k2=>?_) ⟨rfl,Or.inr ⟨c',0,0,_,0,false,rfl,rfl,wE _,o7 _ _ _,rfl⟩⟩ rfl ?_ ?_ _ _) λy s hq=>?_;simp(disch:=omega)only[d9];dsimp only;simp at hS;omega;omega;obtain⟨c2,h2,r2,w2⟩:=s;obtain⟨u',rfl,hn',HG2,hc2,hs2,hown⟩:=hq;simp only at HG2 hc2 hs2;have hs2':∀i,i<c0->h2.get i=h'.get i:=λi k1=>by have:=hs2 i zy (HG'.fresh k1);simp(disch:=omega)only[d9]at this;exact this
   have H2:At U h0 sv fo ar ap lv q c2 h2 {R with i:=R.i+1} P:=⟨λi hi=>⟨by have:=hU0 i hi;omega,(H'.u i hi).2.1,(H'.u i hi).2.2.1,(hs2' i (hU0 i hi)).trans (H'.u i hi).2.2.2⟩,zy,zy,H'.ne,(hs2' ar ha).trans H'.hr,(hs2' ap hap).trans H'.hp⟩;have hs3:∀i,i<c0->i≠ar->i≠ap->h2.get i=hb0.get i:=λi k1 k2 k3=>(hs2' i k1).trans (hs1 i k1 k2 k3);have eR:S.map iV++[iV (a0q L n.t).1]=(S++[(a0q L n.t).1]).map iV:=by rw[ul];rfl
   rw[eR]at HG2;have eI:=d2q l (R.i+1);rw[hd']at eI;unfold isI at eI;cases hi2:l[R.i+1]? with|none=>rw[hi2]at eI;have eL:a3b (a0q L) q (n::t)=.ok [(a0q L n.t).1]:=yU;obtain⟨z,y,o1,o2,hm⟩:=a0Z (m+5) H2 hl hi2;simp(disch:=try exact dz)only[hm,↓gP,gY,gT];refine l9.done ?_;refine⟨zV,λi k1 k2 k3=>?_,Or.inl ⟨_,eL,rfl,u',rfl,HG2.keep zV (λb k1 k2=>?_),H2.to zV (λi k1=>?_)⟩⟩;have:=hs3 i k1 k2 k3;simp(disch:=first|assumption|omega)only[d9];exact this;simp(disch:=first|assumption|omega)only[d9];simp(disch:=first|assumption|omega)only[d9]|some n2=>rw[hi2]at eI;simp only at eI;obtain⟨z,y,o1,o2,nlm,hnm,hTm,hm⟩:=a1a (m+5) H2 hl hi2;cases q1:Y3 n2.k n2.t with|false=>rw[q1]at eI;have eL:a3b (a0q L) q (n::t)=.ok [(a0q L n.t).1]:=yU;simp(disch:=try exact dz)only[hm,a1S,q1,↓gP,gY,gT];refine l9.done ?_;refine⟨zV,λi k1 k2 k3=>?_,Or.inl ⟨_,eL,rfl,u',rfl,HG2.keep zV (λb k1 k2=>?_),H2.to zV (λi k1=>?_)⟩⟩;have:=hs3 i k1 k2 k3;simp(disch:=first|assumption|omega)only[d9];exact this;simp(disch:=first|assumption|omega)only[d9];simp(disch:=first|assumption|omega)only[d9]|true=>rw[q1]at eI;have eL:a3b (a0q L) q (n::t)=(a3b (a0q L) q t).cons (a0q L n.t).1:=yU;simp(disch:=try exact dz)only[hm,a1S,q1,↓gP,gY,gT];refine(ih {R with i:=R.i+1} k (S++[(a0q L n.t).1]) u' _ _ _ _ _ _ _ _ _ _ _ _ _ _ _ _ _ _ _ _ _ _ _ _ _ _ hd' zV zU (by simp at hS⊢;omega) zy (λi k1 k2 k3=>?_) (H2.to zy (λi k1=>?_)) (HG2.keep zy (λb k1 k2=>?_))).mono λx s hq=>?_;have:=hs3 i k1 k2 k3;simp(disch:=first|assumption|omega)only[d9];exact this;simp(disch:=first|assumption|omega)only[d9];simp(disch:=first|assumption|omega)only[d9];obtain⟨p1,p2,hor⟩:=hq;refine⟨p1,p2,?_⟩;rcases hor with⟨ks,f1,f2,u2,f3,f4,f5⟩|⟨p,e,f1,f2,f3,f4⟩;rw[eL,f1];refine Or.inl ⟨_,rfl,f2,u2,f3,?_,?_⟩;rw[vw]at f4;exact f4;simp only[wI]at f5⊢;rw[show R.i+(ks.length+1)=R.i+1+ks.length by omega];exact f5;rw[eL,f1];exact Or.inr ⟨p,e,rfl,f2,f3,f4⟩
   have eL:a3b (a0q L) q (n::t)=.er p e:=by unfold N9 at e1;rw[hi]at e1;simp only at e1;show bcase (Y3 n.k n.t) (bcase (decide ((a0q L n.t).2=0)) (bcase (hdI t) _ _) _) _=_;cases q1:Y3 n.k n.t with|false=>rw[q1,V7]at e1;cases e1;rfl|true=>rw[q1,U9]at e1;cases q2:decide ((a0q L n.t).2=0)with|false=>rw[q2,V7]at e1;cases e1;rfl|true=>rw[q2,U9]at e1;cases e1
   simp(disch:=try exact dz)only[↓gP,gY,gT];refine l9.done ?_;exact⟨zV,hs1,Or.inr ⟨p,e,eL,rfl,rfl,R',H'⟩⟩
end
end Go.Proofs.YtmomonnlmbljoaaGreatDoor
end
section
namespace Go.Proofs.YtmomonnlmbljoaaGreatDoor
open Go.V Go.RowKit Go.Shelf Go.Proofs
variable {mL:Int}
attribute [local congr] y7 x9 A8 A7 D5 z8 E5 G8 G7
theorem b1l (sz b o g n j k)(h:j<=n)(h0:sz≠0):a7s sz (.slice (some ⟨b,o,some g⟩) n sz) none (some (.int k (.ofNat j)))=M.pure (.slice (some ⟨b,o,some g⟩) j sz):=by show M.guard (Nat.beq sz sz) (cutN sz ⟨b,o,some g⟩ n none (some (.int k (.ofNat j))))=_;rw[R5,P8];show M.guard (Nat.ble 0 j&&Nat.ble j n&& !(Nat.beq sz 0)) (M.pure (Value.slice (some ⟨b,o+0*sz,some g⟩) (j-0) sz))=_;rw[a7m,a1l h,X9 h0,tT];rfl
theorem c9G (sz b o g n j k)(h:j<=n)(h0:sz≠0):a7s sz (.slice (some ⟨b,o,some g⟩) n sz) (some (.int k (.ofNat j))) none=M.pure (.slice (some ⟨b,o+j*sz,some g⟩) (n-j) sz):=by show M.guard (Nat.beq sz sz) (cutN sz ⟨b,o,some g⟩ n (some (.int k (.ofNat j))) none)=_;rw[R5,P8];show M.guard (Nat.ble j n&&Nat.ble n n&& !(Nat.beq sz 0)) (M.pure (Value.slice (some ⟨b,o+j*sz,some g⟩) (n-j) sz))=_;rw[a1l h,a3K,X9 h0];rfl
theorem b2H {g}:∀(cs) (n) (vs) (m),y8 g cs n=some vs->m<=n->y8 g cs m=some (vs.take m):=by
 intro cs;induction cs with
  |nil=>intro n vs m h hm;cases n with|zero=>have:m=0:=zy;subst this;cases h;rfl|succ n=>cases h
  |cons q cs ih=>intro n vs m h hm;obtain⟨v,st⟩:=q;cases m with|zero=>exact V9 _ _|succ m=>cases n with|zero=>omega|succ n=>have h':(match Nat.ble st g with|true=>(match y8 g cs n with|some vs=>some (v::vs)|none=>none)|false=>none)=some vs:=h;show(match Nat.ble st g with|true=>(match y8 g cs m with|some vs=>some (v::vs)|none=>none)|false=>none)=_;cases q1:Nat.ble st g with|false=>rw[q1]at h';cases h'|true=>rw[q1]at h';cases q2:y8 g cs n with|none=>rw[q2]at h';cases h'|some ws=>rw[q2]at h';cases h';rw[ih n ws m q2 zy];rfl
section
variable {U:Nat->Prop}{h0:Trie VObj}{sv fo:Value}{F:Nat->List (Value×Value)}{L:List (List UInt8)}{ar ap:Nat}{lv:Sl}{q c:Nat}{h:Trie VObj}{R:RV}{P:PV}{l:List Nd}
theorem c3V (fd):∀(t) (ks),a3b fd q t=.ok ks->ks≠[]/\ks.length<=t.length:=by intro t;induction t with|nil=>intro ks h;cases h|cons n t ih=>intro ks h;have h':bcase (Y3 n.k n.t) (bcase (decide ((fd n.t).2=0)) (bcase (hdI t) ((a3b fd q t).cons (fd n.t).1) (.ok [(fd n.t).1])) (.er n.p (fd n.t).2)) (.er n.p 4)=Ls.ok ks:=h;cases q1:Y3 n.k n.t with|false=>rw[q1,V7]at h';cases h'|true=>rw[q1,U9]at h';cases q2:decide ((fd n.t).2=0)with|false=>rw[q2,V7]at h';cases h'|true=>rw[q2,U9]at h';cases q3:hdI t with|false=>rw[q3,V7]at h';cases h';exact⟨zq,zq⟩|true=>rw[q3,U9]at h';cases q4:a3b fd q t with|er p e=>rw[q4]at h';cases h'|ok ks'=>rw[q4]at h';cases h';have:=(ih ks' q4).2;exact⟨zq,zm⟩
def a8V (ks:List Nat):Nat:=ks.getLast?.getD 0
theorem e8N (E:Env U h0 sv F L)(m)(hRi:R.i<=l.length)(H:At U h0 sv fo ar ap lv q c h R P)(hl:NdL U h0 lv l)(r w):l9 (go (o8 D8 (m+7) 142 [.pointer (some ⟨ar,0,some 0⟩)]) ⟨c,h,r,w⟩) λx s=>c<=s.c/\(∀i,i<c->i≠ar->i≠ap->s.h.get i=h.get i)/\((∃ks,a3b (a0q L) q (l.drop R.i)=.ok ks/\x=.ret (.bool true)/\∃ls,SlU (λi=>c<=i/\i<s.c) s.h ls (ks.dropLast.map iV)/\At U h0 sv fo ar ap lv q s.c s.h {R with i:=R.i+ks.length,A:=a8V ks,ls:=ls} P)\/(∃p e,a3b (a0q L) q (l.drop R.i)=.er p e/\x=.ret (.bool false)/\∃R',At U h0 sv fo ar ap lv q s.c s.h R' {P with p:=p,e:=e})):=by
 have hll:=hl.len.2;have a1:=H.r;have a2:=H.p;have a4:ap≠ar:=λe=>H.ne e.symm;have hUc:∀i,U i->i<c:=λi hi=>(H.u i hi).1;rw[e0K];simp(disch:=try exact dz)only[e0V,↓gP];have hlp:=d0M (fo:=fo) (q:=q) (P:=P) E m hl c h a1 a2 hUc (l.drop R.i) R NN [] ⟨none,0,0⟩ undef undef undef undef undef undef undef undef undef undef undef undef undef undef undef undef undef undef undef undef undef undef c h;refine l9.bindJ (hlp _ _ rfl hRi (by rw[uq];exact uR (Nat.sub_le _ _) (sw hll zu)) (by rw[uq];simp;omega) (wQ c) (λ_ _ _ _=>rfl) H (a4M.nil _ _ _ _)) λy ll s hq=>?_;obtain⟨c',h',r',w'⟩:=s;obtain⟨hc,hs,⟨ks,e1,rfl,u',e2,HG,H'⟩|⟨p,e,e1,rfl,e2,R',H'⟩⟩:=hq;simp only at hc hs e2 HG H';rw[vR]at HG;obtain⟨hne,hkl⟩:=c3V _ _ _ e1;rw[uq]at hkl;obtain⟨k0,kt,rfl⟩:∃k0 kt,ks=k0::kt:=by cases ks with|nil=>exact absurd rfl hne|cons a t=>exact⟨a,t,rfl⟩
 obtain⟨ua,un,ue⟩:=u';obtain⟨hn,h0'|⟨ab,g,cs,h2,h3,h4,h5,h6,h7,h8⟩⟩:=HG;exfalso;cases h0';simp at hn;simp only at h2 h3 hn;subst h2;subst h3;have hn':un=kt.length+1:=by rw[uu,wF]at hn;exact hn.symm
 subst hn';have hlen:=S9 (some ⟨ab,0,some g⟩) (kt.length+1) 1;have f1:Q0 .i64 (Int.ofNat (kt.length+1)-Int.ofNat 1)=Int.ofNat kt.length:=by rw[show Int.ofNat (kt.length+1)-Int.ofNat 1=Int.ofNat kt.length by simp only[vz];omega];exact b5v _ (by simp at hkl;omega)
 have f2:=a1C 1 kt.length (kt.length+1) .i64 ab 0 (some g) zy zu;rw[a8S,uu]at f2;have f3:=b1l 1 ab 0 g (kt.length+1) kt.length .i64 zy zu;rw[wF]at h8;have hlast:((k0::kt).map iV)[kt.length]?=some (iV (a8V (k0::kt))):=by
  rw[vM];have:(k0::kt)[kt.length]?=some (a8V (k0::kt)):=by unfold a8V;rw[List.getLast?_eq_getElem?];simp
  rw[this];rfl
 have f4:=a2I h8 kt.length _ hlast;have hr':=H'.hr;have b1:=H'.r;have b2:ab≠ar:=zy;have b3:ab≠ap:=zy;simp(disch:=try exact dz)only[e0V,e2,hr',I5,hlen,f1,f2,f3,f4,h6,iV,↓gP,gY,Nat.reduceAdd];refine l9.done ?_;refine⟨zV,λi k1 k2 k3=>?_,Or.inl ⟨_,e1,rfl,⟨some ⟨ab,0,some g⟩,kt.length,1⟩,⟨zq,?_⟩,H'.setR (wQ _) (λi k1 k2=>?_) ?_⟩⟩;have:=hs i k1 k2 k3;simp(disch:=first|assumption|omega)only[d9];exact this;refine Or.inr ⟨ab,0,g,cs,g,false,rfl,rfl,⟨h4,h5⟩,?_,?_⟩;simp(disch:=first|assumption|omega)only[d9];exact h6;rw[a0i];have:=b2H cs _ _ kt.length h8 zq;rw[wF,rz];show y8 g cs kt.length=_;rw[this,pq,nM];rfl;simp(disch:=first|assumption|omega)only[d9];simp(disch:=first|assumption|omega)only[o7,I5];simp only at hc hs e2 H';simp(disch:=try exact dz)only[e2,↓gP,gY];exact l9.done ⟨hc,hs,Or.inr ⟨p,e,e1,rfl,R',H'⟩⟩
end
end Go.Proofs.YtmomonnlmbljoaaGreatDoor
end
