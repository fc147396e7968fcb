import Derived.Test.YtmomonnlmbljoaaGreatDoorKbc
set_option maxRecDepth 1000000
set_option maxHeartbeats 4000000
set_option linter.unusedVariables false
set_option linter.unusedSimpArgs false
noncomputable section
namespace Go.Proofs.YtmomonnlmbljoaaGreatDoor
open Go.V Go.RowKit Go.Shelf Go.Proofs
variable {mL:Int}
section
attribute [local congr] y8 x9 C8 A9 C9 A7 E8 F9 F8
theorem At.setR {U h0 sv fo ar ap lv q c c' h h' R R' P}(H:At U h0 sv fo ar ap lv q c h R P)(hc:c<=c')(hs:∀i,i<c->i≠ar->h'.get i=h.get i)(hr:h'.get ar=some (.cells (I6 ap lv q R') 0 false)):At U h0 sv fo ar ap lv q c' h' R' P:=⟨λi hi=>⟨wD (H.u i hi).1 hc,(H.u i hi).2.1,(H.u i hi).2.2.1,(hs i (H.u i hi).1 (H.u i hi).2.1).trans (H.u i hi).2.2.2⟩,wD H.r hc,wD H.p hc,H.ne,hr,(hs ap H.p (λe=>H.ne e.symm)).trans H.hp⟩
inductive Ix where
 | ok (k:Nat)
 | er (p e:Nat)
def N7 (fd:List UInt8->Nat×Nat)(l:List Nd)(q i:Nat):Ix:=match l[i]? with|none=>.er q 4|some n=>bcase (Y6 n.k n.t) (bcase (decide ((fd n.t).2=0)) (.ok (fd n.t).1) (.er n.p (fd n.t).2)) (.er n.p 4)
section
variable {U:Nat->Prop}{h0:Trie VObj}{sv fo:Value}{F:Nat->List (Value×Value)}{L:List (List UInt8)}{ar ap:Nat}{lv:Sl}{q c:Nat}{h:Trie VObj}{R:RV}{P:PV}{l:List Nd}
theorem a0X (m)(H:At U h0 sv fo ar ap lv q c h R P)(hl:NdL U h0 lv l){n}(hi:l[R.i]?=some n):∃(z y:List Nat->List Nat) (o1 o2:VObj) (nl:Sl),NdL U h0 nl n.l/\n.t.length<1800000/\∀r w,go (o9 D7 (m+1) 138 [.pointer (some ⟨ar,0,some 0⟩)]) ⟨c,h,r,w⟩=some (.ret (.tuple ⟨[.agg ⟨[.int .i64 (.ofNat n.k),.int .i64 (.ofNat n.p),.string ⟨⟨n.t⟩⟩,.slice (Sl.a nl) nl.n nl.e]⟩,.bool true]⟩),⟨c+1,V.upd (V.upd h c o1) c o2,z r,y w⟩):=by have hr:=H.hr;have a1:=H.r;have a5:ar≠c:=zy;obtain⟨b,p,g,cs,cur,ro,nl,hb,hg,hn,hT,e1,e2,e3,e4,e5,e6⟩:=hl.get hi;obtain⟨u1,u2,u3,u4⟩:=H.u b hb;have hg':=u4.trans hg;have a6:b≠c:=zy;have hlen:=hl.len.1;have hlt:R.i<l.length:=(wM.1 hi).1;rw[hlen]at e1;have d1:decide (l.length<=R.i)=false:=zS;have e0:=Q8 lv.a l.length lv.e;apply Exists.intro;apply Exists.intro;apply Exists.intro;apply Exists.intro;refine⟨nl,hn,hT,λr w=>?_⟩;rw[d1q];simp(disch:=try exact dz)only[e2s,hr,I6,hlen,e0,dle,d1,e1,e2,hg',↓gP,gY];rfl
theorem a0W (m)(H:At U h0 sv fo ar ap lv q c h R P)(hl:NdL U h0 lv l)(hi:l[R.i]?=none):∃(z y:List Nat->List Nat) (o1 o2:VObj),∀r w,go (o9 D7 (m+1) 138 [.pointer (some ⟨ar,0,some 0⟩)]) ⟨c,h,r,w⟩=some (.ret (.tuple ⟨[.agg ⟨[.int .i64 (.ofNat 0),.int .i64 (.ofNat 0),.string ⟨⟨[]⟩⟩,.slice none 0 0]⟩,.bool false]⟩),⟨c+1,V.upd (V.upd h c o1) c o2,z r,y w⟩):=by
 have hr:=H.hr;have a1:=H.r;have a5:ar≠c:=zy;have hlen:=hl.len.1;have hlt:l.length<=R.i:=zZ;have d1:decide (l.length<=R.i)=true:=by rw[vF];exact hlt
 have e0:=Q8 lv.a l.length lv.e;apply Exists.intro;apply Exists.intro;apply Exists.intro;apply Exists.intro;intro r w;rw[d1q];simp(disch:=try exact dz)only[e2s,hr,I6,hlen,e0,dle,d1,↓gP,gY];rfl
theorem e2S (E:Env U h0 sv F L)(m){kv fd}(hk:a8m F L kv fd)(H:At U h0 sv fo ar ap lv q c h R P)(hl:NdL U h0 lv l)(r w):l9 (go (o9 D7 (m+5) 183 [.pointer (some ⟨ar,0,some 0⟩),kv,.pointer (some ⟨ar,5,some 0⟩)]) ⟨c,h,r,w⟩) λx s=>(∃k,N7 fd l q R.i=.ok k/\x=.ret (.bool true)/\Fin U h0 sv fo ar ap lv q c h P (.ok {R with i:=R.i+1,A:=k}) s)\/(∃p e,N7 fd l q R.i=.er p e/\x=.ret (.bool false)/\Fin U h0 sv fo ar ap lv q c h P (.er p e) s):=by
 have hr:=H.hr;have hp:=H.hp;have a1:=H.r;have a2:=H.p;have a3:=H.ne;have a4:ap≠ar:=λe=>H.ne e.symm;have a5:ar≠c:=zy;have a6:ap≠c:=zy;have a7:ar≠c+1:=zy;have a8:ap≠c+1:=zy;have hlen:=hl.len.1;have e0:=Q8 lv.a l.length lv.e;rw[c3r];cases hi:l[R.i]? with
  |none=>
   obtain⟨z,y,o1,o2,hm⟩:=a0W (m+3) H hl hi;have hlt:l.length<=R.i:=zZ;have d1:decide (R.i<l.length)=false:=zS;have eS:N7 fd l q R.i=.er q 4:=by unfold N7;rw[hi]
   simp(disch:=try exact dz)only[b2z,hm,hr,hp,I6,H7,a1f,a3r,V4,G72,hlen,e0,dlt,d1,↓gP,gY,gT];refine l9.done ?_;refine Or.inr ⟨_,_,eS,rfl,zV,λi hi h1 h2=>?_,R,H.setP zV (λi hi hp=>?_) ?_,λR1 e=>zk⟩;simp(disch:=try exact wQ)only[d9];simp(disch:=try exact wQ)only[d9];simp(disch:=try exact wQ)only[o7,H7,Rs.P]|some n=>obtain⟨z,y,o1,o2,nl,hn,hT,hm⟩:=a0X (m+3) H hl hi;have hlt:R.i<l.length:=(wM.1 hi).1;have d1:decide (R.i<l.length)=true:=zR;have hinc:=J2 R.i xK;cases q1:Y6 n.k n.t with|false=>have eS:N7 fd l q R.i=.er n.p 4:=xu;obtain⟨b,p,g,cs,cur,ro,nl',hb,hg,_,_,e1,e2,e3,e4,e5,e6⟩:=hl.get hi;obtain⟨u1,u2,u3,u4⟩:=H.u b hb;have hg':=u4.trans hg;rw[hlen]at e1;have b1:b≠c:=zy;have b2:b≠c+1:=zy;simp(disch:=try exact dz)only[b2z,hm,a2b,q1,hr,hp,I6,H7,a1f,a3r,V4,G72,hlen,e0,dlt,d1,e1,e4,hg',↓gP,gY,gT];refine l9.done ?_;refine Or.inr ⟨_,_,eS,rfl,zV,λi hi h1 h2=>?_,R,H.setP zV (λi hi hp=>?_) ?_,λR1 e=>zk⟩;simp(disch:=try exact wQ)only[d9];simp(disch:=try exact wQ)only[d9];simp(disch:=try exact wQ)only[o7,H7,Rs.P]|true=>simp(disch:=try exact dz)only[b2z,hm,a2b,q1,↓gP,gY,gT];refine l9.bindC (c2E E (m+1) hk (H.to ?_ λi hi=>?_) n nl hT _ _) λx s hq=>?_;omega;simp(disch:=try exact wQ)only[d9];obtain⟨c',h',r',w'⟩:=s;obtain⟨hc,hs,⟨q2,rfl,H'⟩|⟨q2,rfl,H'⟩⟩:=hq;have eS:N7 fd l q R.i=.ok (fd n.t).1:=yQ;have hr':=H'.hr;simp only at hc hs hr';have c1:=H'.r;simp only at c1;simp(disch:=try exact dz)only[hr',I6,hinc,↓gP,gY];refine l9.done ?_;refine Or.inl ⟨_,eS,rfl,zV,λi hi h1 h2=>?_,_,H'.setR (wP _) (λi hi hp=>?_) ?_,λR1 e=>zb⟩;have:=hs i zy h2;simp(disch:=try exact wQ)only[d9]at this⊢;exact this;simp(disch:=try exact wQ)only[d9];simp(disch:=try exact wQ)only[o7,I6];have eS:N7 fd l q R.i=.er n.p (fd n.t).2:=yR;have hr':=H'.hr;simp only at hc hs hr';have c1:=H'.r;simp only at c1;simp(disch:=try exact dz)only[hr',I6,hinc,↓gP,gY];refine l9.done ?_;refine Or.inr ⟨_,_,eS,rfl,zV,λi hi h1 h2=>?_,{R with i:=R.i+1,A:=0},H'.setR (wP _) (λi hi hp=>?_) ?_,λR1 e=>zk⟩;have:=hs i zy h2;simp(disch:=try exact wQ)only[d9]at this⊢;exact this;simp(disch:=try exact wQ)only[d9];simp(disch:=try exact wQ)only[o7,I6]
theorem e1i (E:Env U h0 sv F L)(m){kv fd}(hk:a8m F L kv fd)(H:At U h0 sv fo ar ap lv q c h R P)(hl:NdL U h0 lv l)(r w):l9 (go (o9 D7 (m+5) 183 [.pointer (some ⟨ar,0,some 0⟩),kv,.pointer (some ⟨ar,6,some 0⟩)]) ⟨c,h,r,w⟩) λx s=>(∃k,N7 fd l q R.i=.ok k/\x=.ret (.bool true)/\Fin U h0 sv fo ar ap lv q c h P (.ok {R with i:=R.i+1,B:=k}) s)\/(∃p e,N7 fd l q R.i=.er p e/\x=.ret (.bool false)/\Fin U h0 sv fo ar ap lv q c h P (.er p e) s):=by
 have hr:=H.hr;have hp:=H.hp;have a1:=H.r;have a2:=H.p;have a3:=H.ne;have a4:ap≠ar:=λe=>H.ne e.symm;have a5:ar≠c:=zy;have a6:ap≠c:=zy;have a7:ar≠c+1:=zy;have a8:ap≠c+1:=zy;have hlen:=hl.len.1;have e0:=Q8 lv.a l.length lv.e;rw[c3r];cases hi:l[R.i]? with
  |none=>
   obtain⟨z,y,o1,o2,hm⟩:=a0W (m+3) H hl hi;have hlt:l.length<=R.i:=zZ;have d1:decide (R.i<l.length)=false:=zS;have eS:N7 fd l q R.i=.er q 4:=by unfold N7;rw[hi]
   simp(disch:=try exact dz)only[b2z,hm,hr,hp,I6,H7,a1f,a3r,V4,G72,hlen,e0,dlt,d1,↓gP,gY,gT];refine l9.done ?_;refine Or.inr ⟨_,_,eS,rfl,zV,λi hi h1 h2=>?_,R,H.setP zV (λi hi hp=>?_) ?_,λR1 e=>zk⟩;simp(disch:=try exact wQ)only[d9];simp(disch:=try exact wQ)only[d9];simp(disch:=try exact wQ)only[o7,H7,Rs.P]|some n=>obtain⟨z,y,o1,o2,nl,hn,hT,hm⟩:=a0X (m+3) H hl hi;have hlt:R.i<l.length:=(wM.1 hi).1;have d1:decide (R.i<l.length)=true:=zR;have hinc:=J2 R.i xK;cases q1:Y6 n.k n.t with|false=>have eS:N7 fd l q R.i=.er n.p 4:=xu;obtain⟨b,p,g,cs,cur,ro,nl',hb,hg,_,_,e1,e2,e3,e4,e5,e6⟩:=hl.get hi;obtain⟨u1,u2,u3,u4⟩:=H.u b hb;have hg':=u4.trans hg;rw[hlen]at e1;have b1:b≠c:=zy;have b2:b≠c+1:=zy;simp(disch:=try exact dz)only[b2z,hm,a2b,q1,hr,hp,I6,H7,a1f,a3r,V4,G72,hlen,e0,dlt,d1,e1,e4,hg',↓gP,gY,gT];refine l9.done ?_;refine Or.inr ⟨_,_,eS,rfl,zV,λi hi h1 h2=>?_,R,H.setP zV (λi hi hp=>?_) ?_,λR1 e=>zk⟩;simp(disch:=try exact wQ)only[d9];simp(disch:=try exact wQ)only[d9];simp(disch:=try exact wQ)only[o7,H7,Rs.P]|true=>simp(disch:=try exact dz)only[b2z,hm,a2b,q1,↓gP,gY,gT];refine l9.bindC (c2E E (m+1) hk (H.to ?_ λi hi=>?_) n nl hT _ _) λx s hq=>?_;omega;simp(disch:=try exact wQ)only[d9];obtain⟨c',h',r',w'⟩:=s;obtain⟨hc,hs,⟨q2,rfl,H'⟩|⟨q2,rfl,H'⟩⟩:=hq;have eS:N7 fd l q R.i=.ok (fd n.t).1:=yQ;have hr':=H'.hr;simp only at hc hs hr';have c1:=H'.r;simp only at c1;simp(disch:=try exact dz)only[hr',I6,hinc,↓gP,gY];refine l9.done ?_;refine Or.inl ⟨_,eS,rfl,zV,λi hi h1 h2=>?_,_,H'.setR (wP _) (λi hi hp=>?_) ?_,λR1 e=>zb⟩;have:=hs i zy h2;simp(disch:=try exact wQ)only[d9]at this⊢;exact this;simp(disch:=try exact wQ)only[d9];simp(disch:=try exact wQ)only[o7,I6];have eS:N7 fd l q R.i=.er n.p (fd n.t).2:=yR;have hr':=H'.hr;simp only at hc hs hr';have c1:=H'.r;simp only at c1;simp(disch:=try exact dz)only[hr',I6,hinc,↓gP,gY];refine l9.done ?_;refine Or.inr ⟨_,_,eS,rfl,zV,λi hi h1 h2=>?_,{R with i:=R.i+1,B:=0},H'.setR (wP _) (λi hi hp=>?_) ?_,λR1 e=>zk⟩;have:=hs i zy h2;simp(disch:=try exact wQ)only[d9]at this⊢;exact this;simp(disch:=try exact wQ)only[d9];simp(disch:=try exact wQ)only[o7,I6]
end
def a3X (R:RV):Ix->Rs|.ok k=>.ok {R with i:=R.i+1,A:=k}|.er p e=>.er p e
def b3D (R:RV):Ix->Rs|.ok k=>.ok {R with i:=R.i+1,B:=k}|.er p e=>.er p e
def Rs.then (x:Rs)(f:RV->Rs):Rs:=match x with|.ok R=>f R|.er p e=>.er p e
def isI (l:List Nd)(i:Nat):Bool:=match l[i]? with|some n=>Y6 n.k n.t|none=>false
structure EndR (U:Nat→Prop) (h0:Trie VObj) (sv fo:Value) (ar ap:Nat) (lv:Sl) (q c:Nat) (h:Trie VObj) (P:PV) (rs:Rs) (x:CR) (s:V.S):Prop where
 x:x=.ret (.bool rs.b)
 f:Fin U h0 sv fo ar ap lv q c h P rs s
theorem Fin.of_to {U h0 sv fo ar ap lv q c c1 h h1 P rs s}(H:Fin U h0 sv fo ar ap lv q c1 h1 P rs s)(hc:c<=c1)(hs:∀i,i<c->i≠ar->i≠ap->h1.get i=h.get i):Fin U h0 sv fo ar ap lv q c h P rs s:=⟨vR hc H.le,λi h1 h2 h3=>(H.same i (wD h1 hc) h2 h3).trans (hs i h1 h2 h3),H.at'⟩
section
variable {U:Nat->Prop}{h0:Trie VObj}{sv fo:Value}{F:Nat->List (Value×Value)}{L:List (List UInt8)}{ar ap:Nat}{lv:Sl}{q c:Nat}{h:Trie VObj}{R:RV}{P:PV}{l:List Nd}
theorem a5z (E:Env U h0 sv F L)(m){kv fd}(hk:a8m F L kv fd)(H:At U h0 sv fo ar ap lv q c h R P)(hl:NdL U h0 lv l)(r w):l9 (go (o9 D7 (m+5) 183 [.pointer (some ⟨ar,0,some 0⟩),kv,.pointer (some ⟨ar,5,some 0⟩)]) ⟨c,h,r,w⟩) (EndR U h0 sv fo ar ap lv q c h P (a3X R (N7 fd l q R.i))):=(e2S E m hk H hl r w).mono λx s hq=>xX
theorem c1r (E:Env U h0 sv F L)(m){kv fd}(hk:a8m F L kv fd)(H:At U h0 sv fo ar ap lv q c h R P)(hl:NdL U h0 lv l)(r w):l9 (go (o9 D7 (m+5) 183 [.pointer (some ⟨ar,0,some 0⟩),kv,.pointer (some ⟨ar,6,some 0⟩)]) ⟨c,h,r,w⟩) (EndR U h0 sv fo ar ap lv q c h P (b3D R (N7 fd l q R.i))):=(e1i E m hk H hl r w).mono λx s hq=>xX
def b3J (fd:List UInt8->Nat×Nat)(l:List Nd)(q:Nat)(R:RV):Rs:=bcase (isI l R.i) (a3X R (N7 fd l q R.i)) (.ok R)
theorem e1n (E:Env U h0 sv F L)(m){kv fd}(hk:a8m F L kv fd)(H:At U h0 sv fo ar ap lv q c h R P)(hl:NdL U h0 lv l)(r w):l9 (go (o9 D7 (m+6) 143 [.pointer (some ⟨ar,0,some 0⟩),kv,.pointer (some ⟨ar,5,some 0⟩)]) ⟨c,h,r,w⟩) (EndR U h0 sv fo ar ap lv q c h P (b3J fd l q R)):=by have hr:=H.hr;have hp:=H.hp;have a1:=H.r;have a2:=H.p;have a3:=H.ne;have a4:ap≠ar:=λe=>H.ne e.symm;have a5:ar≠c:=zy;have a6:ap≠c:=zy;have a7:ar≠c+1:=zy;have a8:ap≠c+1:=zy;rw[c9x];unfold b3J isI;cases hi:l[R.i]? with|none=>obtain⟨z,y,o1,o2,hm⟩:=a0W (m+4) H hl hi;simp(disch:=try exact dz)only[b7U,hm,↓gP,gY,gT];refine l9.done ⟨rfl,zV,λi hi h1 h2=>?_,R,H.to zV (λi hi=>?_),λR1 e=>zb⟩;simp(disch:=try exact wQ)only[d9];simp(disch:=try exact wQ)only[d9]|some n=>obtain⟨z,y,o1,o2,nl,hn,hT,hm⟩:=a0X (m+4) H hl hi;simp only;cases q1:Y6 n.k n.t with|false=>simp(disch:=try exact dz)only[b7U,hm,a2b,q1,↓gP,gY,gT];refine l9.done ⟨rfl,zV,λi hi h1 h2=>?_,R,H.to zV (λi hi=>?_),λR1 e=>zb⟩;simp(disch:=try exact wQ)only[d9];simp(disch:=try exact wQ)only[d9]|true=>simp(disch:=try exact dz)only[b7U,hm,a2b,q1,↓gP,gY,gT];refine l9.bindC (a5z E m hk (H.to ?_ λi hi=>?_) hl _ _) λx s hq=>?_;omega;simp(disch:=try exact wQ)only[d9];obtain⟨rfl,hF⟩:=hq;simp(disch:=try exact dz)only[gY];refine l9.done ⟨rfl,hF.of_to zy λi hi h1 h2=>?_⟩;simp(disch:=try exact wQ)only[d9]
def a6q (fd:List UInt8->Nat×Nat)(l:List Nd)(q:Nat)(R:RV):Rs:=bcase (isI l R.i) (b3D R (N7 fd l q R.i)) (.ok R)
theorem c2i (E:Env U h0 sv F L)(m){kv fd}(hk:a8m F L kv fd)(H:At U h0 sv fo ar ap lv q c h R P)(hl:NdL U h0 lv l)(r w):l9 (go (o9 D7 (m+6) 143 [.pointer (some ⟨ar,0,some 0⟩),kv,.pointer (some ⟨ar,6,some 0⟩)]) ⟨c,h,r,w⟩) (EndR U h0 sv fo ar ap lv q c h P (a6q fd l q R)):=by have hr:=H.hr;have hp:=H.hp;have a1:=H.r;have a2:=H.p;have a3:=H.ne;have a4:ap≠ar:=λe=>H.ne e.symm;have a5:ar≠c:=zy;have a6:ap≠c:=zy;have a7:ar≠c+1:=zy;have a8:ap≠c+1:=zy;rw[c9x];unfold a6q isI;cases hi:l[R.i]? with|none=>obtain⟨z,y,o1,o2,hm⟩:=a0W (m+4) H hl hi;simp(disch:=try exact dz)only[b7U,hm,↓gP,gY,gT];refine l9.done ⟨rfl,zV,λi hi h1 h2=>?_,R,H.to zV (λi hi=>?_),λR1 e=>zb⟩;simp(disch:=try exact wQ)only[d9];simp(disch:=try exact wQ)only[d9]|some n=>obtain⟨z,y,o1,o2,nl,hn,hT,hm⟩:=a0X (m+4) H hl hi;simp only;cases q1:Y6 n.k n.t with|false=>simp(disch:=try exact dz)only[b7U,hm,a2b,q1,↓gP,gY,gT];refine l9.done ⟨rfl,zV,λi hi h1 h2=>?_,R,H.to zV (λi hi=>?_),λR1 e=>zb⟩;simp(disch:=try exact wQ)only[d9];simp(disch:=try exact wQ)only[d9]|true=>simp(disch:=try exact dz)only[b7U,hm,a2b,q1,↓gP,gY,gT];refine l9.bindC (c1r E m hk (H.to ?_ λi hi=>?_) hl _ _) λx s hq=>?_;omega;simp(disch:=try exact wQ)only[d9];obtain⟨rfl,hF⟩:=hq;simp(disch:=try exact dz)only[gY];refine l9.done ⟨rfl,hF.of_to zy λi hi h1 h2=>?_⟩;simp(disch:=try exact wQ)only[d9]
end
variable {mL:Int}
section
variable {U:Nat->Prop}{h0:Trie VObj}{sv fo:Value}{F:Nat->List (Value×Value)}{L:List (List UInt8)}{ar ap:Nat}{lv:Sl}{q c:Nat}{h:Trie VObj}{R:RV}{P:PV}{l:List Nd}
def b3F (fd:List UInt8→Nat×Nat) (l:List Nd) (q:Nat) (R:RV):Rs:=bcase (isI l R.i) ((a3X R (N7 fd l q R.i)).then fun R1=>b3D R1 (N7 fd l q R1.i)) (.ok R)
theorem d8V (E:Env U h0 sv F L)(m){kv fd}(hk:a8m F L kv fd)(H:At U h0 sv fo ar ap lv q c h R P)(hl:NdL U h0 lv l)(r w):l9 (go (o9 D7 (m+6) 145 [.pointer (some ⟨ar,0,some 0⟩),kv]) ⟨c,h,r,w⟩) (EndR U h0 sv fo ar ap lv q c h P (b3F fd l q R)):=by
 have hr:=H.hr;have hp:=H.hp;have a1:=H.r;have a2:=H.p;have a3:=H.ne;have a4:ap≠ar:=λe=>H.ne e.symm;have a5:ar≠c:=zy;have a6:ap≠c:=zy;have a7:ar≠c+1:=zy;have a8:ap≠c+1:=zy;rw[d8Y];unfold b3F isI;cases hi:l[R.i]? with
  |none=>obtain⟨z,y,o1,o2,hm⟩:=a0W (m+4) H hl hi;simp(disch:=try exact dz)only[d2C,hm,↓gP,gY,gT,Nat.reduceAdd];refine l9.done ⟨rfl,zV,λi hi h1 h2=>?_,R,H.to zV (λi hi=>?_),λR1 e=>zb⟩;simp(disch:=try exact wQ)only[d9];simp(disch:=try exact wQ)only[d9]|some n=>
   obtain⟨z,y,o1,o2,nl,hn,hT,hm⟩:=a0X (m+4) H hl hi;simp only;cases q1:Y6 n.k n.t with
    |false=>simp(disch:=try exact dz)only[d2C,hm,a2b,q1,↓gP,gY,gT,Nat.reduceAdd];refine l9.done ⟨rfl,zV,λi hi h1 h2=>?_,R,H.to zV (λi hi=>?_),λR1 e=>zb⟩;simp(disch:=try exact wQ)only[d9];simp(disch:=try exact wQ)only[d9]|true=>
     simp(disch:=try exact dz)only[d2C,hm,a2b,q1,↓gP,gY,gT,Nat.reduceAdd];refine l9.bindC (a5z E m hk (H.to ?_ λi hi=>?_) hl _ _) λx s hq=>?_;omega;simp(disch:=try exact wQ)only[d9];obtain⟨rfl,hF⟩:=hq;obtain⟨c',h',r',w'⟩:=s;have hc:=hF.le;have hs:=hF.same;simp only at hc hs;have hs':∀i,i<c->i≠ar->i≠ap->h'.get i=h.get i:=λi h1 h2 h3=>by have:=hs i zy h2 h3;simp(disch:=try exact wQ)only[d9]at this;exact this
     cases e1:a3X R (N7 fd l q R.i)with|er p e=>rw[e1]at hF;simp(disch:=try exact dz)only[Rs.b,↓gP,gY];exact l9.done ⟨rfl,⟨zV,λi h1 h2 h3=>hs' i h1 h2 h3,hF.at'⟩⟩|ok R1=>rw[e1]at hF;obtain⟨R',H',hR⟩:=hF.at';obtain rfl:=hR R1 rfl;simp(disch:=try exact dz)only[Rs.b,↓gP,gY,Nat.reduceAdd];refine l9.bindC (c1r E m hk (H':At U h0 sv fo ar ap lv q _ _ _ P) hl _ _) λx s hq=>?_;obtain⟨rfl,hF2⟩:=hq;simp(disch:=try exact dz)only[↓gP,gY];exact l9.done ⟨rfl,hF2.of_to zV hs'⟩
def a7F (fd1 fd2:List UInt8→Nat×Nat) (l:List Nd) (q:Nat) (R:RV):Rs:=bcase (isI l R.i && isI l (R.i+1)) ((b3D R (N7 fd1 l q R.i)).then fun R1=>a3X R1 (N7 fd2 l q R1.i)) (a3X R (N7 fd2 l q R.i))
theorem t146 (hRi:R.i<4294967296)(E:Env U h0 sv F L)(m){kv1 kv2 fd1 fd2}(hk1:a8m F L kv1 fd1)(hk2:a8m F L kv2 fd2)(H:At U h0 sv fo ar ap lv q c h R P)(hl:NdL U h0 lv l)(r w):l9 (go (o9 D7 (m+6) 146 [.pointer (some ⟨ar,0,some 0⟩),kv1,kv2]) ⟨c,h,r,w⟩) (EndR U h0 sv fo ar ap lv q c h P (a7F fd1 fd2 l q R)):=by
 have hr:=H.hr;have hp:=H.hp;have a1:=H.r;have a2:=H.p;have a3:=H.ne;have a4:ap≠ar:=λe=>H.ne e.symm;have a5:ar≠c:=zy;have a6:ap≠c:=zy;have a7:ar≠c+1:=zy;have a8:ap≠c+1:=zy;rw[e0A];have hlen:=hl.len.1;have e0:=Q8 lv.a l.length lv.e;unfold a7F;cases hi2:l[R.i+1]? with
  |none=>
   have hlt:l.length<=R.i+1:=by simpa using hi2
   have d1:decide (R.i+1<l.length)=false:=zS;have eI:isI l (R.i+1)=false:=by unfold isI;rw[hi2]
   have hinc:Q0 .i64 (Int.ofNat R.i+Int.ofNat 1)=Int.ofNat (R.i+1):=J2 R.i hRi;rw[eI,uJ,X0];simp(disch:=try exact dz)only[c6W,hr,I6,hlen,e0,hinc,dlt,d1,↓gP,gY,Nat.reduceAdd];refine l9.bindC (a5z E m hk2 H hl _ _) λx s hq=>?_;obtain⟨rfl,hF⟩:=hq;simp(disch:=try exact dz)only[gY];exact l9.done ⟨rfl,hF⟩|some n2=>
   have hlt:R.i+1<l.length:=(wM.1 hi2).1;have d1:decide (R.i+1<l.length)=true:=zR;have hinc:=J2 R.i xK;obtain⟨n1,hi1⟩:∃n1,l[R.i]?=some n1:=⟨_,wO zy⟩;obtain⟨b,p,g,cs,cur,ro,nl1,hb,hg,hn1,hT1,e1,e2,_⟩:=hl.get hi1;obtain⟨u1,u2,u3,u4⟩:=H.u b hb;have hg':=u4.trans hg;rw[hlen]at e1;obtain⟨b',p',g',cs',cur',ro',nl2,hb',hgb,hn2,hT2,f1,f2,_⟩:=hl.get hi2;obtain⟨v1,v2,v3,v4⟩:=H.u b' hb';have hgb':=v4.trans hgb;rw[hlen]at f1;unfold isI;rw[hi1,hi2];simp only;cases q1:Y6 n1.k n1.t with
    |false=>simp(disch:=try exact dz)only[c6W,hr,I6,hlen,e0,hinc,dlt,d1,e1,e2,hg',a2b,q1,↓gP,gY,gT,Nat.reduceAdd];refine l9.bindC (a5z E m hk2 H hl _ _) λx s hq=>?_;obtain⟨rfl,hF⟩:=hq;simp(disch:=try exact dz)only[gY];exact l9.done ⟨rfl,hF⟩|true=>
     cases q2:Y6 n2.k n2.t with
      |false=>simp(disch:=try exact dz)only[c6W,hr,I6,hlen,e0,hinc,dlt,d1,e1,e2,hg',f1,f2,hgb',a2b,q1,q2,↓gP,gY,gT,Nat.reduceAdd];refine l9.bindC (a5z E m hk2 H hl _ _) λx s hq=>?_;obtain⟨rfl,hF⟩:=hq;simp(disch:=try exact dz)only[gY];exact l9.done ⟨rfl,hF⟩|true=>
       simp(disch:=try exact dz)only[c6W,hr,I6,hlen,e0,hinc,dlt,d1,e1,e2,hg',f1,f2,hgb',a2b,q1,q2,↓gP,gY,Nat.reduceAdd];refine l9.bindC (c1r E m hk1 H hl _ _) λx s hq=>?_;obtain⟨rfl,hF⟩:=hq;obtain⟨c',h',r',w'⟩:=s;have hc:=hF.le;have hs:=hF.same;simp only at hc hs;have hs':∀i,i<c->i≠ar->i≠ap->h'.get i=h.get i:=λi h1 h2 h3=>by exact hs i h1 h2 h3
       cases e1:b3D R (N7 fd1 l q R.i)with|er p e=>rw[e1]at hF;simp(disch:=try exact dz)only[Rs.b,↓gP,gY];exact l9.done ⟨rfl,⟨zV,λi h1 h2 h3=>hs' i h1 h2 h3,hF.at'⟩⟩|ok R1=>rw[e1]at hF;obtain⟨R',H',hR⟩:=hF.at';obtain rfl:=hR R1 rfl;simp(disch:=try exact dz)only[Rs.b,↓gP,gY,Nat.reduceAdd];refine l9.bindC (a5z E m hk2 (H':At U h0 sv fo ar ap lv q _ _ _ P) hl _ _) λx s hq=>?_;obtain⟨rfl,hF2⟩:=hq;simp(disch:=try exact dz)only[↓gP,gY];exact l9.done ⟨rfl,hF2.of_to zV hs'⟩
theorem d9L (E:Env U h0 sv F L)(m)(hop:J3 (.ofNat R.op)=true)(hj:F7 (.ofNat R.op)=2)(H:At U h0 sv fo ar ap lv q c h R P)(hl:NdL U h0 lv l)(r w):l9 (go (o9 D7 (m+6) 141 [.pointer (some ⟨ar,0,some 0⟩)]) ⟨c,h,r,w⟩) (EndR U h0 sv fo ar ap lv q c h P (a3X R (N7 (a0w L) l q R.i))):=by have hr:=H.hr;have hp:=H.hp;have a1:=H.r;have a2:=H.p;have a3:=H.ne;have a4:ap≠ar:=λe=>H.ne e.symm;have a5:ar≠c:=zy;have a6:ap≠c:=zy;have a7:ar≠c+1:=zy;have a8:ap≠c+1:=zy;rw[b1M];have e39:=a1Q (m+4) R.op hop;rw[hj]at e39;simp(disch:=try exact dz)only[b8w,hr,I6,e39,X6,↓gP,gY,gT,Nat.reduceEqDiff,Nat.reduceAdd];refine l9.bindC (a5z E m (Or.inl ⟨rfl,rfl⟩) H hl _ _) λx s hq=>?_;obtain⟨rfl,hF⟩:=hq;simp(disch:=try exact dz)only[gY];exact l9.done ⟨rfl,hF⟩
theorem e1N (E:Env U h0 sv F L)(m)(hop:J3 (.ofNat R.op)=true)(hj:F7 (.ofNat R.op)=4)(H:At U h0 sv fo ar ap lv q c h R P)(hl:NdL U h0 lv l)(r w):l9 (go (o9 D7 (m+6) 141 [.pointer (some ⟨ar,0,some 0⟩)]) ⟨c,h,r,w⟩) (EndR U h0 sv fo ar ap lv q c h P (a3X R (N7 (X4 (F 1)) l q R.i))):=by have hr:=H.hr;have hp:=H.hp;have a1:=H.r;have a2:=H.p;have a3:=H.ne;have a4:ap≠ar:=λe=>H.ne e.symm;have a5:ar≠c:=zy;have a6:ap≠c:=zy;have a7:ar≠c+1:=zy;have a8:ap≠c+1:=zy;rw[b1M];have e39:=a1Q (m+4) R.op hop;rw[hj]at e39;simp(disch:=try exact dz)only[b8w,hr,I6,e39,X6,↓gP,gY,gT,Nat.reduceEqDiff,Nat.reduceAdd];refine l9.bindC (a5z E m (Or.inr ⟨1,zu,rfl,rfl⟩) H hl _ _) λx s hq=>?_;obtain⟨rfl,hF⟩:=hq;simp(disch:=try exact dz)only[gY];exact l9.done ⟨rfl,hF⟩
theorem d9I (E:Env U h0 sv F L)(m)(hop:J3 (.ofNat R.op)=true)(hj:F7 (.ofNat R.op)=7)(H:At U h0 sv fo ar ap lv q c h R P)(hl:NdL U h0 lv l)(r w):l9 (go (o9 D7 (m+6) 141 [.pointer (some ⟨ar,0,some 0⟩)]) ⟨c,h,r,w⟩) (EndR U h0 sv fo ar ap lv q c h P (a3X R (N7 (X4 (F 7)) l q R.i))):=by have hr:=H.hr;have hp:=H.hp;have a1:=H.r;have a2:=H.p;have a3:=H.ne;have a4:ap≠ar:=λe=>H.ne e.symm;have a5:ar≠c:=zy;have a6:ap≠c:=zy;have a7:ar≠c+1:=zy;have a8:ap≠c+1:=zy;rw[b1M];have e39:=a1Q (m+4) R.op hop;rw[hj]at e39;simp(disch:=try exact dz)only[b8w,hr,I6,e39,X6,↓gP,gY,gT,Nat.reduceEqDiff,Nat.reduceAdd];refine l9.bindC (a5z E m (Or.inr ⟨7,zu,rfl,rfl⟩) H hl _ _) λx s hq=>?_;obtain⟨rfl,hF⟩:=hq;simp(disch:=try exact dz)only[gY];exact l9.done ⟨rfl,hF⟩
theorem e2p (E:Env U h0 sv F L)(m)(hop:J3 (.ofNat R.op)=true)(hj:F7 (.ofNat R.op)=8)(H:At U h0 sv fo ar ap lv q c h R P)(hl:NdL U h0 lv l)(r w):l9 (go (o9 D7 (m+6) 141 [.pointer (some ⟨ar,0,some 0⟩)]) ⟨c,h,r,w⟩) (EndR U h0 sv fo ar ap lv q c h P (a3X R (N7 (X4 (F 4)) l q R.i))):=by have hr:=H.hr;have hp:=H.hp;have a1:=H.r;have a2:=H.p;have a3:=H.ne;have a4:ap≠ar:=λe=>H.ne e.symm;have a5:ar≠c:=zy;have a6:ap≠c:=zy;have a7:ar≠c+1:=zy;have a8:ap≠c+1:=zy;rw[b1M];have e39:=a1Q (m+4) R.op hop;rw[hj]at e39;simp(disch:=try exact dz)only[b8w,hr,I6,e39,X6,↓gP,gY,gT,Nat.reduceEqDiff,Nat.reduceAdd];refine l9.bindC (a5z E m (Or.inr ⟨4,zu,rfl,rfl⟩) H hl _ _) λx s hq=>?_;obtain⟨rfl,hF⟩:=hq;simp(disch:=try exact dz)only[gY];exact l9.done ⟨rfl,hF⟩
theorem d8e (E:Env U h0 sv F L)(m)(hop:J3 (.ofNat R.op)=true)(hj:F7 (.ofNat R.op)=12)(H:At U h0 sv fo ar ap lv q c h R P)(hl:NdL U h0 lv l)(r w):l9 (go (o9 D7 (m+6) 141 [.pointer (some ⟨ar,0,some 0⟩)]) ⟨c,h,r,w⟩) (EndR U h0 sv fo ar ap lv q c h P (a3X R (N7 (X4 (F 5)) l q R.i))):=by have hr:=H.hr;have hp:=H.hp;have a1:=H.r;have a2:=H.p;have a3:=H.ne;have a4:ap≠ar:=λe=>H.ne e.symm;have a5:ar≠c:=zy;have a6:ap≠c:=zy;have a7:ar≠c+1:=zy;have a8:ap≠c+1:=zy;rw[b1M];have e39:=a1Q (m+4) R.op hop;rw[hj]at e39;simp(disch:=try exact dz)only[b8w,hr,I6,e39,X6,↓gP,gY,gT,Nat.reduceEqDiff,Nat.reduceAdd];refine l9.bindC (a5z E m (Or.inr ⟨5,zu,rfl,rfl⟩) H hl _ _) λx s hq=>?_;obtain⟨rfl,hF⟩:=hq;simp(disch:=try exact dz)only[gY];exact l9.done ⟨rfl,hF⟩
theorem d8n (E:Env U h0 sv F L)(m)(hop:J3 (.ofNat R.op)=true)(hj:F7 (.ofNat R.op)=16)(H:At U h0 sv fo ar ap lv q c h R P)(hl:NdL U h0 lv l)(r w):l9 (go (o9 D7 (m+6) 141 [.pointer (some ⟨ar,0,some 0⟩)]) ⟨c,h,r,w⟩) (EndR U h0 sv fo ar ap lv q c h P (a3X R (N7 (X4 (F 6)) l q R.i))):=by have hr:=H.hr;have hp:=H.hp;have a1:=H.r;have a2:=H.p;have a3:=H.ne;have a4:ap≠ar:=λe=>H.ne e.symm;have a5:ar≠c:=zy;have a6:ap≠c:=zy;have a7:ar≠c+1:=zy;have a8:ap≠c+1:=zy;rw[b1M];have e39:=a1Q (m+4) R.op hop;rw[hj]at e39;simp(disch:=try exact dz)only[b8w,hr,I6,e39,X6,↓gP,gY,gT,Nat.reduceEqDiff,Nat.reduceAdd];refine l9.bindC (a5z E m (Or.inr ⟨6,zu,rfl,rfl⟩) H hl _ _) λx s hq=>?_;obtain⟨rfl,hF⟩:=hq;simp(disch:=try exact dz)only[gY];exact l9.done ⟨rfl,hF⟩
end
end
section
attribute [local congr] y8 x9 C8 A9 C9 A7 E8 F9 F8
def a1D:List Nd->Option (Nat×List UInt8)|[]=>none|n::_=>some (n.k,n.t)
theorem NdL.hd {U h v l}(H:NdL U h v l):b3O U h v.a v.n v.e (a1D l):=by cases H with|nil=>exact Or.inl ⟨rfl,rfl⟩| @row b o g cur cs ro _ vs h1 h2 h3 h4 h5=>cases l with|nil=>exact Or.inl ⟨rfl,rfl⟩|cons n t=>obtain⟨_,h6⟩:=h4 0 n rfl;rw[rH,vC]at h6;exact Or.inr ⟨t.length,b,o,g,cs,cur,ro,n.k,_,n.t,_,rfl,rfl,rfl,h1,h2,h6,rfl⟩
def a8L (fd:List UInt8->Nat×Nat)(put:RV->Nat->RV)(l:List Nd)(q:Nat)(R:RV):Rs:=match l[R.i]? with|none=>.er q 4|some n=>bcase (a1b n.k (a1D n.l) [116,121,112,101]) (match n.l[1]? with|none=>.er q 4|some n1=>bcase (Y6 n1.k n1.t) (bcase (decide ((fd n1.t).2=0)) (match n.l[2]? with|some n2=>.er n2.p 4|none=>.ok (put {R with i:=R.i+1} (fd n1.t).1)) (.er n1.p (fd n1.t).2)) (.er n1.p 4)) (.er n.p 4)
section
variable {U:Nat->Prop}{h0:Trie VObj}{sv fo:Value}{F:Nat->List (Value×Value)}{L:List (List UInt8)}{ar ap:Nat}{lv:Sl}{q c:Nat}{h:Trie VObj}{R:RV}{P:PV}{l:List Nd}
theorem e2G (E:Env U h0 sv F L)(m)(hRi:R.i<4294967296)(H:At U h0 sv fo ar ap lv q c h R P)(hl:NdL U h0 lv l)(r w):l9 (go (o9 D7 (m+6) 144 [.pointer (some ⟨ar,0,some 0⟩),.pointer (some ⟨ar,5,some 0⟩)]) ⟨c,h,r,w⟩) (EndR U h0 sv fo ar ap lv q c h P (a8L (X4 (F 0)) (λR k=>{R with A:=k}) l q R)):=by
 have hr:=H.hr;have hp:=H.hp;have a1:=H.r;have a2:=H.p;have a3:=H.ne;have a4:ap≠ar:=λe=>H.ne e.symm;have a5:ar≠c:=zy;have a6:ap≠c:=zy;have a7:ar≠c+1:=zy;have a8:ap≠c+1:=zy;have hlen:=hl.len.1;have e0:=Q8 lv.a l.length lv.e;have hAg:AgU U h h0:=λi hi=>(H.u i hi).2.2.2;have hUc:∀i,U i->i<c:=λi hi=>(H.u i hi).1;have hn0:¬U c:=λhi=>uW _ (hUc c hi);have hn1:¬U (c+1):=λhi=>zQ;have hn2:¬U (c+2):=λhi=>zQ;rw[d0w];unfold a8L;have hinc:=J2 R.i hRi;cases hi:l[R.i]? with
  |none=>obtain⟨z,y,o1,o2,hm⟩:=a0W (m+4) H hl hi;have hlt:l.length<=R.i:=zZ;have d1:decide (R.i<l.length)=false:=zS;simp(disch:=try exact dz)only[b1f,hm,hr,hp,I6,H7,a1f,a3r,V4,G72,hlen,e0,dlt,d1,↓gP,gY,gT];refine l9.done ⟨rfl,zV,λi hi h1 h2=>?_,R,H.setP zV (λi hi hp=>?_) ?_,λR1 e=>zk⟩;simp(disch:=try exact wQ)only[d9];simp(disch:=try exact wQ)only[d9];simp(disch:=try exact wQ)only[o7,H7,Rs.P]|some n=>
   obtain⟨z,y,o1,o2,nlm,hnm,hTm,hm⟩:=a0X (m+4) H hl hi;have hlt:R.i<l.length:=(wM.1 hi).1;have d1:decide (R.i<l.length)=true:=zR;obtain⟨b,p,g,cs,cur,ro,nl,hb,hg,hN,hT,e1,e2,e3,e4,e5,e6⟩:=hl.get hi;obtain⟨u1,u2,u3,u4⟩:=H.u b hb;have hG:=u4.trans hg;rw[hlen]at e1;obtain⟨z2,hz2⟩:=b1o hnm.hd (m+4);have hz3:=λo1 o2 o3 o4 r w W=>hz2 (c+1+1) (V.upd (V.upd (V.upd (V.upd h c o1) c o2) (c+1) o3) (c+1) o4) r w n.k n.p n.t W (λi hi=>by have:=hUc i hi;omega) ((((hAg.upd hn0).upd hn0).upd hn1).upd hn1);have hlenn:=hN.len.1;have e0n:=Q8 nl.a n.l.length nl.e;simp only;cases q1:a1b n.k (a1D n.l) [116,121,112,101]with
    |false=>simp(disch:=try exact dz)only[b1f,hm,hz3,q1,hr,hp,I6,H7,a1f,a3r,V4,G72,hlen,e0,dlt,d1,e1,e4,e6,hG,↓gP,gY,gT];refine l9.done ⟨rfl,zV,λi hi h1 h2=>?_,R,H.setP zV (λi hi hp=>?_) ?_,λR1 e=>zk⟩;simp(disch:=try exact wQ)only[d9];simp(disch:=try exact wQ)only[d9];simp(disch:=try exact wQ)only[o7,H7,Rs.P]|true=>
     cases hi1:n.l[1]? with
      |none=>
       have hlt1:n.l.length<=1:=by simpa using hi1
       have d2:decide (n.l.length<2)=true:=zR;have d3:decide (1<n.l.length)=false:=zS;simp(disch:=try exact dz)only[b1f,hm,hz3,q1,hr,hp,I6,H7,a1f,a3r,V4,G72,hlen,hlenn,e0n,dlt,d2,d3,e1,e4,e6,hG,↓gP,gY,gT];refine l9.done ⟨rfl,zV,λi hi h1 h2=>?_,R,H.setP zV (λi hi hp=>?_) ?_,λR1 e=>zk⟩;simp(disch:=try exact wQ)only[d9];simp(disch:=try exact wQ)only[d9];simp(disch:=try exact wQ)only[o7,H7,Rs.P]|some n1=>
       have hlt1:1<n.l.length:=(wM.1 hi1).1;have d2:decide (n.l.length<2)=false:=zS;have d3:decide (1<n.l.length)=true:=zR;obtain⟨b1,p1,g1,cs1,cur1,ro1,nl1,hb1,hg1,hN1,hT1,e11,e21,e31,e41,e51,e61⟩:=hN.get hi1;obtain⟨u11,u21,u31,u41⟩:=H.u b1 hb1;have hG1:=u41.trans hg1;rw[hlenn]at e11;simp only;cases q2:Y6 n1.k n1.t with
        |false=>simp(disch:=try exact dz)only[b1f,hm,hz3,q1,hr,hp,I6,H7,a1f,a3r,V4,G72,hlen,hlenn,e0n,dlt,d2,d3,a2b,q2,e1,e4,e6,hG,e11,e21,e41,hG1,↓gP,gY,gT];refine l9.done ⟨rfl,zV,λi hi h1 h2=>?_,R,H.setP zV (λi hi hp=>?_) ?_,λR1 e=>zk⟩;simp(disch:=try exact wQ)only[d9];simp(disch:=try exact wQ)only[d9];simp(disch:=try exact wQ)only[o7,H7,Rs.P]|true=>
         simp(disch:=try exact dz)only[b1f,hm,hz3,q1,hr,I6,hlen,hlenn,e0n,dlt,d2,a2b,q2,e1,e6,hG,e11,e21,hG1,↓gP,gY,gT];refine l9.bindC (c2E E (m+2) (Or.inr ⟨0,zu,rfl,rfl⟩) (H.to ?_ λi hi=>?_) n1 nl1 hT1 _ _) λx s hq=>?_;omega;simp(disch:=try exact wQ)only[d9];obtain⟨c',h',r',w'⟩:=s;obtain⟨hc,hs,⟨q3,rfl,H'⟩|⟨q3,rfl,H'⟩⟩:=hq;simp only at hc hs;have hs0:∀i,i<c->i≠ar->i≠ap->h'.get i=h.get i:=λi k1 k2 k3=>zF;have hr':=H'.hr;have hp':=H'.hp;have c1:=H'.r;have c2:=H'.p;simp only at hr' hp' c1 c2;rw[wJ q3];cases hi2:n.l[2]? with
          |some n2=>have hlt2:2<n.l.length:=(wM.1 hi2).1;have d4:decide (2<n.l.length)=true:=zR;obtain⟨b2,p2,g2,cs2,cur2,ro2,nl2,hb2,hg2,hN2,hT2,e12,e22,e32,e42,e52,e62⟩:=hN.get hi2;obtain⟨u12,u22,u32,u42⟩:=H.u b2 hb2;have hG2:=u42.trans hg2;rw[hlenn]at e12;have hG2':=(hs0 b2 u12 u22 u32).trans hG2;have u12':b2<c':=zy;simp(disch:=try exact dz)only[hr',hp',I6,H7,a1f,a3r,V4,G72,e0n,dlt,d4,e12,e42,hG2',↓gP,gY,gT];refine l9.done ?_;refine⟨rfl,zV,λi k1 k2 k3=>?_,R,H'.setP (wP _) (λi k1 k2=>?_) ?_,λR1 e=>zk⟩;have:=hs0 i k1 k2 k3;simp(disch:=try exact wQ)only[d9];exact this;simp(disch:=try exact wQ)only[d9];simp(disch:=try exact wQ)only[o7,H7,Rs.P]|none=>
           have hlt2:n.l.length<=2:=by simpa using hi2
           have d4:decide (2<n.l.length)=false:=zS;simp(disch:=try exact dz)only[hr',I6,dlt,d4,hinc,↓gP,gY,gT];refine l9.done ?_;refine⟨rfl,zV,λi k1 k2 k3=>?_,_,H'.setR (wP _) (λi k1 k2=>?_) ?_,λR1 e=>zb⟩;have:=hs0 i k1 k2 k3;simp(disch:=try exact wQ)only[d9];exact this;simp(disch:=try exact wQ)only[d9];simp(disch:=try exact wQ)only[o7,I6]
         simp only at hc hs;have hs0:∀i,i<c->i≠ar->i≠ap->h'.get i=h.get i:=λi k1 k2 k3=>zF;rw[wL q3];simp(disch:=try exact dz)only[↓gP,gY,gT];exact l9.done ⟨rfl,zV,hs0,R,H',λR1 e=>zk⟩
theorem d7o (E:Env U h0 sv F L)(m)(hRi:R.i<4294967296)(H:At U h0 sv fo ar ap lv q c h R P)(hl:NdL U h0 lv l)(r w):l9 (go (o9 D7 (m+6) 144 [.pointer (some ⟨ar,0,some 0⟩),.pointer (some ⟨ar,10,some 0⟩)]) ⟨c,h,r,w⟩) (EndR U h0 sv fo ar ap lv q c h P (a8L (X4 (F 0)) (λR k=>{R with bi:=k}) l q R)):=by
 have hr:=H.hr;have hp:=H.hp;have a1:=H.r;have a2:=H.p;have a3:=H.ne;have a4:ap≠ar:=λe=>H.ne e.symm;have a5:ar≠c:=zy;have a6:ap≠c:=zy;have a7:ar≠c+1:=zy;have a8:ap≠c+1:=zy;have hlen:=hl.len.1;have e0:=Q8 lv.a l.length lv.e;have hAg:AgU U h h0:=λi hi=>(H.u i hi).2.2.2;have hUc:∀i,U i->i<c:=λi hi=>(H.u i hi).1;have hn0:¬U c:=λhi=>uW _ (hUc c hi);have hn1:¬U (c+1):=λhi=>zQ;have hn2:¬U (c+2):=λhi=>zQ;rw[d0w];unfold a8L;have hinc:=J2 R.i hRi;cases hi:l[R.i]? with
  |none=>obtain⟨z,y,o1,o2,hm⟩:=a0W (m+4) H hl hi;have hlt:l.length<=R.i:=zZ;have d1:decide (R.i<l.length)=false:=zS;simp(disch:=try exact dz)only[b1f,hm,hr,hp,I6,H7,a1f,a3r,V4,G72,hlen,e0,dlt,d1,↓gP,gY,gT];refine l9.done ⟨rfl,zV,λi hi h1 h2=>?_,R,H.setP zV (λi hi hp=>?_) ?_,λR1 e=>zk⟩;simp(disch:=try exact wQ)only[d9];simp(disch:=try exact wQ)only[d9];simp(disch:=try exact wQ)only[o7,H7,Rs.P]|some n=>
   obtain⟨z,y,o1,o2,nlm,hnm,hTm,hm⟩:=a0X (m+4) H hl hi;have hlt:R.i<l.length:=(wM.1 hi).1;have d1:decide (R.i<l.length)=true:=zR;obtain⟨b,p,g,cs,cur,ro,nl,hb,hg,hN,hT,e1,e2,e3,e4,e5,e6⟩:=hl.get hi;obtain⟨u1,u2,u3,u4⟩:=H.u b hb;have hG:=u4.trans hg;rw[hlen]at e1;obtain⟨z2,hz2⟩:=b1o hnm.hd (m+4);have hz3:=λo1 o2 o3 o4 r w W=>hz2 (c+1+1) (V.upd (V.upd (V.upd (V.upd h c o1) c o2) (c+1) o3) (c+1) o4) r w n.k n.p n.t W (λi hi=>by have:=hUc i hi;omega) ((((hAg.upd hn0).upd hn0).upd hn1).upd hn1);have hlenn:=hN.len.1;have e0n:=Q8 nl.a n.l.length nl.e;simp only;cases q1:a1b n.k (a1D n.l) [116,121,112,101]with
    |false=>simp(disch:=try exact dz)only[b1f,hm,hz3,q1,hr,hp,I6,H7,a1f,a3r,V4,G72,hlen,e0,dlt,d1,e1,e4,e6,hG,↓gP,gY,gT];refine l9.done ⟨rfl,zV,λi hi h1 h2=>?_,R,H.setP zV (λi hi hp=>?_) ?_,λR1 e=>zk⟩;simp(disch:=try exact wQ)only[d9];simp(disch:=try exact wQ)only[d9];simp(disch:=try exact wQ)only[o7,H7,Rs.P]|true=>
     cases hi1:n.l[1]? with
      |none=>
       have hlt1:n.l.length<=1:=by simpa using hi1
       have d2:decide (n.l.length<2)=true:=zR;have d3:decide (1<n.l.length)=false:=zS;simp(disch:=try exact dz)only[b1f,hm,hz3,q1,hr,hp,I6,H7,a1f,a3r,V4,G72,hlen,hlenn,e0n,dlt,d2,d3,e1,e4,e6,hG,↓gP,gY,gT];refine l9.done ⟨rfl,zV,λi hi h1 h2=>?_,R,H.setP zV (λi hi hp=>?_) ?_,λR1 e=>zk⟩;simp(disch:=try exact wQ)only[d9];simp(disch:=try exact wQ)only[d9];simp(disch:=try exact wQ)only[o7,H7,Rs.P]|some n1=>
       have hlt1:1<n.l.length:=(wM.1 hi1).1;have d2:decide (n.l.length<2)=false:=zS;have d3:decide (1<n.l.length)=true:=zR;obtain⟨b1,p1,g1,cs1,cur1,ro1,nl1,hb1,hg1,hN1,hT1,e11,e21,e31,e41,e51,e61⟩:=hN.get hi1;obtain⟨u11,u21,u31,u41⟩:=H.u b1 hb1;have hG1:=u41.trans hg1;rw[hlenn]at e11;simp only;cases q2:Y6 n1.k n1.t with
        |false=>simp(disch:=try exact dz)only[b1f,hm,hz3,q1,hr,hp,I6,H7,a1f,a3r,V4,G72,hlen,hlenn,e0n,dlt,d2,d3,a2b,q2,e1,e4,e6,hG,e11,e21,e41,hG1,↓gP,gY,gT];refine l9.done ⟨rfl,zV,λi hi h1 h2=>?_,R,H.setP zV (λi hi hp=>?_) ?_,λR1 e=>zk⟩;simp(disch:=try exact wQ)only[d9];simp(disch:=try exact wQ)only[d9];simp(disch:=try exact wQ)only[o7,H7,Rs.P]|true=>
         simp(disch:=try exact dz)only[b1f,hm,hz3,q1,hr,I6,hlen,hlenn,e0n,dlt,d2,a2b,q2,e1,e6,hG,e11,e21,hG1,↓gP,gY,gT];refine l9.bindC (c2E E (m+2) (Or.inr ⟨0,zu,rfl,rfl⟩) (H.to ?_ λi hi=>?_) n1 nl1 hT1 _ _) λx s hq=>?_;omega;simp(disch:=try exact wQ)only[d9];obtain⟨c',h',r',w'⟩:=s;obtain⟨hc,hs,⟨q3,rfl,H'⟩|⟨q3,rfl,H'⟩⟩:=hq;simp only at hc hs;have hs0:∀i,i<c->i≠ar->i≠ap->h'.get i=h.get i:=λi k1 k2 k3=>zF;have hr':=H'.hr;have hp':=H'.hp;have c1:=H'.r;have c2:=H'.p;simp only at hr' hp' c1 c2;rw[wJ q3];cases hi2:n.l[2]? with
          |some n2=>have hlt2:2<n.l.length:=(wM.1 hi2).1;have d4:decide (2<n.l.length)=true:=zR;obtain⟨b2,p2,g2,cs2,cur2,ro2,nl2,hb2,hg2,hN2,hT2,e12,e22,e32,e42,e52,e62⟩:=hN.get hi2;obtain⟨u12,u22,u32,u42⟩:=H.u b2 hb2;have hG2:=u42.trans hg2;rw[hlenn]at e12;have hG2':=(hs0 b2 u12 u22 u32).trans hG2;have u12':b2<c':=zy;simp(disch:=try exact dz)only[hr',hp',I6,H7,a1f,a3r,V4,G72,e0n,dlt,d4,e12,e42,hG2',↓gP,gY,gT];refine l9.done ?_;refine⟨rfl,zV,λi k1 k2 k3=>?_,R,H'.setP (wP _) (λi k1 k2=>?_) ?_,λR1 e=>zk⟩;have:=hs0 i k1 k2 k3;simp(disch:=try exact wQ)only[d9];exact this;simp(disch:=try exact wQ)only[d9];simp(disch:=try exact wQ)only[o7,H7,Rs.P]|none=>
           have hlt2:n.l.length<=2:=by simpa using hi2
           have d4:decide (2<n.l.length)=false:=zS;simp(disch:=try exact dz)only[hr',I6,dlt,d4,hinc,↓gP,gY,gT];refine l9.done ?_;refine⟨rfl,zV,λi k1 k2 k3=>?_,_,H'.setR (wP _) (λi k1 k2=>?_) ?_,λR1 e=>zb⟩;have:=hs0 i k1 k2 k3;simp(disch:=try exact wQ)only[d9];exact this;simp(disch:=try exact wQ)only[d9];simp(disch:=try exact wQ)only[o7,I6]
         simp only at hc hs;have hs0:∀i,i<c->i≠ar->i≠ap->h'.get i=h.get i:=λi k1 k2 k3=>zF;rw[wL q3];simp(disch:=try exact dz)only[↓gP,gY,gT];exact l9.done ⟨rfl,zV,hs0,R,H',λR1 e=>zk⟩
end
def a3m (n:Nd)(q:Nat):Ix:=match n.l[1]? with|none=>.er q 4|some n1=>bcase (decide (n1.k=2)) (match a8y n1.t with|none=>.er n1.p 24|some t=>match n.l[2]? with|some n2=>.er n2.p 4|none=>.ok t) (.er n1.p 4)
section
variable {U:Nat->Prop}{h0:Trie VObj}{sv fo:Value}{F:Nat->List (Value×Value)}{L:List (List UInt8)}{ar ap:Nat}{lv:Sl}{q c:Nat}{h:Trie VObj}{R:RV}{P:PV}{l:List Nd}
theorem e0G (m)(hRi:R.i<4294967296)(H:At U h0 sv fo ar ap lv q c h R P)(hl:NdL U h0 lv l){n}(hi:l[R.i]?=some n)(r w):l9 (go (o9 D7 (m+4) 139 [.pointer (some ⟨ar,0,some 0⟩)]) ⟨c,h,r,w⟩) λx s=>(∃t,a3m n q=.ok t/\x=.ret (.tuple ⟨[.int .i64 (.ofNat t),.bool true]⟩)/\Fin U h0 sv fo ar ap lv q c h P (.ok {R with i:=R.i+1}) s)\/(∃p e,a3m n q=.er p e/\x=.ret (.tuple ⟨[.int .i64 (.ofNat 0),.bool false]⟩)/\Fin U h0 sv fo ar ap lv q c h P (.er p e) s):=by
 have hr:=H.hr;have hp:=H.hp;have a1:=H.r;have a2:=H.p;have a3:=H.ne;have a4:ap≠ar:=λe=>H.ne e.symm;have a5:ar≠c:=zy;have a6:ap≠c:=zy;have a7:ar≠c+1:=zy;have a8:ap≠c+1:=zy;have hlen:=hl.len.1;have e0:=Q8 lv.a l.length lv.e;have hAg:AgU U h h0:=λi hi=>(H.u i hi).2.2.2;have hUc:∀i,U i->i<c:=λi hi=>(H.u i hi).1;have hn0:¬U c:=λhi=>uW _ (hUc c hi);have hn1:¬U (c+1):=λhi=>zQ;have hn2:¬U (c+2):=λhi=>zQ;rw[e2d];have hinc:=J2 R.i hRi;obtain⟨b,p,g,cs,cur,ro,nl,hb,hg,hN,hT,e1,e2,e3,e4,e5,e6⟩:=hl.get hi;obtain⟨u1,u2,u3,u4⟩:=H.u b hb;have hG:=u4.trans hg;rw[hlen]at e1;have hlenn:=hN.len.1;have e0n:=Q8 nl.a n.l.length nl.e;cases hi1:n.l[1]? with
  |none=>
   have hlt1:n.l.length<=1:=by simpa using hi1
   have d2:decide (n.l.length<2)=true:=zR;have d3:decide (1<n.l.length)=false:=zS;have eS:a3m n q=.er q 4:=by unfold a3m;rw[hi1]
   simp(disch:=try exact dz)only[c2v,hr,hp,I6,H7,a1f,a3r,V4,G72,hlen,hlenn,e0n,dlt,d2,d3,e1,e6,hG,↓gP,gY,gT];refine l9.done ?_;refine Or.inr ⟨_,_,eS,rfl,zV,λi hi h1 h2=>?_,R,H.setP zV (λi hi hp=>?_) ?_,λR1 e=>zk⟩;simp(disch:=try exact wQ)only[d9];simp(disch:=try exact wQ)only[d9];simp(disch:=try exact wQ)only[o7,H7,Rs.P]|some n1=>
   have hlt1:1<n.l.length:=(wM.1 hi1).1;have d2:decide (n.l.length<2)=false:=zS;have d3:decide (1<n.l.length)=true:=zR;obtain⟨b1,p1,g1,cs1,cur1,ro1,nl1,hb1,hg1,hN1,hT1,e11,e21,e31,e41,e51,e61⟩:=hN.get hi1;obtain⟨u11,u21,u31,u41⟩:=H.u b1 hb1;have hG1:=u41.trans hg1;rw[hlenn]at e11;cases q2:decide (n1.k=2)with
    |false=>
     have eS:a3m n q=.er n1.p 4:=by unfold a3m;rw[hi1];simp only[q2,X0]
     simp(disch:=try exact dz)only[c2v,hr,hp,I6,H7,a1f,a3r,V4,G72,hlen,hlenn,e0n,dlt,d2,d3,X6,q2,e1,e6,hG,e11,e31,e41,e51,hG1,↓gP,gY,gT];refine l9.done ?_;refine Or.inr ⟨_,_,eS,rfl,zV,λi hi h1 h2=>?_,R,H.setP zV (λi hi hp=>?_) ?_,λR1 e=>zk⟩;simp(disch:=try exact wQ)only[d9];simp(disch:=try exact wQ)only[d9];simp(disch:=try exact wQ)only[o7,H7,Rs.P]|true=>
     cases q3:a8y n1.t with
      |none=>
       have eS:a3m n q=.er n1.p 24:=by unfold a3m;rw[hi1];simp only[q2,q3,V8]
       have eV:a2R n1.t=.tuple ⟨[.int .i64 (.ofNat 0),.bool false]⟩:=by unfold a2R;rw[q3]
       simp(disch:=try exact dz)only[c2v,hr,hp,I6,H7,V4,G72,hlen,hlenn,e0n,dlt,d2,X6,q2,c1K,eV,e1,e6,hG,e11,e31,e41,e51,hG1,↓gP,gY,gT];refine l9.done ?_;refine Or.inr ⟨_,_,eS,rfl,zV,λi hi h1 h2=>?_,R,H.setP zV (λi hi hp=>?_) ?_,λR1 e=>zk⟩;simp(disch:=try exact wQ)only[d9];simp(disch:=try exact wQ)only[d9];simp(disch:=try exact wQ)only[o7,H7,Rs.P]|some t=>
       have eV:a2R n1.t=.tuple ⟨[.int .i64 (.ofNat t),.bool true]⟩:=by unfold a2R;rw[q3]
       cases hi2:n.l[2]? with
        |some n2=>
         have eS:a3m n q=.er n2.p 4:=by unfold a3m;rw[hi1];simp only[q2,q3,V8,hi2]
         have hlt2:2<n.l.length:=(wM.1 hi2).1;have d4:decide (2<n.l.length)=true:=zR;obtain⟨b2,p2,g2,cs2,cur2,ro2,nl2,hb2,hg2,hN2,hT2,e12,e22,e32,e42,e52,e62⟩:=hN.get hi2;obtain⟨u12,u22,u32,u42⟩:=H.u b2 hb2;have hG2:=u42.trans hg2;rw[hlenn]at e12;simp(disch:=try exact dz)only[c2v,hr,hp,I6,H7,a1f,a3r,V4,G72,hlen,hlenn,e0n,dlt,d2,d3,d4,X6,q2,c1K,eV,e1,e6,hG,e11,e31,e41,e51,hG1,e12,e42,hG2,↓gP,gY,gT];refine l9.done ?_;refine Or.inr ⟨_,_,eS,rfl,zV,λi hi h1 h2=>?_,R,H.setP zV (λi hi hp=>?_) ?_,λR1 e=>zk⟩;simp(disch:=try exact wQ)only[d9];simp(disch:=try exact wQ)only[d9];simp(disch:=try exact wQ)only[o7,H7,Rs.P]|none=>
         have eS:a3m n q=.ok t:=by unfold a3m;rw[hi1];simp only[q2,q3,V8,hi2]
         have hlt2:n.l.length<=2:=by simpa using hi2
         have d4:decide (2<n.l.length)=false:=zS;simp(disch:=try exact dz)only[c2v,hr,I6,hlen,hlenn,e0n,dlt,d2,d4,X6,q2,c1K,eV,hinc,e1,e6,hG,e11,e31,e41,e51,hG1,↓gP,gY,gT];refine l9.done ?_;refine Or.inl ⟨_,eS,rfl,zV,λi k1 k2 k3=>?_,_,H.setR zV (λi k1 k2=>?_) ?_,λR1 e=>zb⟩;simp(disch:=try exact wQ)only[d9];simp(disch:=try exact wQ)only[d9];simp(disch:=try exact wQ)only[o7,I6,hlen]
def a9A (l:List Nd)(q:Nat)(R:RV):Rs:=match l[R.i]? with|none=>.er q 4|some n=>bcase (decide (n.k=2)) (bcase (decide ((a1G n.t 4294967295).2=0)) (.ok {R with i:=R.i+1,N:=(a1G n.t 4294967295).1}) (.er n.p (a1G n.t 4294967295).2)) (.er n.p 4)
theorem d7w (m)(hRi:R.i<4294967296)(H:At U h0 sv fo ar ap lv q c h R P)(hl:NdL U h0 lv l)(r w):l9 (go (o9 D7 (m+4) 148 [.pointer (some ⟨ar,0,some 0⟩),.int .i64 (.ofNat 32)]) ⟨c,h,r,w⟩) (EndR U h0 sv fo ar ap lv q c h P (a9A l q R)):=by have hr:=H.hr;have hp:=H.hp;have a1:=H.r;have a2:=H.p;have a3:=H.ne;have a4:ap≠ar:=λe=>H.ne e.symm;have a5:ar≠c:=zy;have a6:ap≠c:=zy;have a7:ar≠c+1:=zy;have a8:ap≠c+1:=zy;have hlen:=hl.len.1;have e0:=Q8 lv.a l.length lv.e;have hAg:AgU U h h0:=λi hi=>(H.u i hi).2.2.2;have hUc:∀i,U i->i<c:=λi hi=>(H.u i hi).1;have hn0:¬U c:=λhi=>uW _ (hUc c hi);have hn1:¬U (c+1):=λhi=>zQ;have hn2:¬U (c+2):=λhi=>zQ;rw[d0M];have hinc:=J2 R.i hRi;unfold a9A;cases hi:l[R.i]? with|none=>obtain⟨z,y,o1,o2,hm⟩:=a0W (m+2) H hl hi;have hlt:l.length<=R.i:=zZ;have d1:decide (R.i<l.length)=false:=zS;simp(disch:=try exact dz)only[b3x,hm,hr,hp,I6,H7,a1f,a3r,V4,G72,hlen,e0,dlt,d1,↓gP,gY,gT];refine l9.done ⟨rfl,zV,λi hi h1 h2=>?_,R,H.setP zV (λi hi hp=>?_) ?_,λR1 e=>zk⟩;simp(disch:=try exact wQ)only[d9];simp(disch:=try exact wQ)only[d9];simp(disch:=try exact wQ)only[o7,H7,Rs.P]|some n=>obtain⟨z,y,o1,o2,nlm,hnm,hTm,hm⟩:=a0X (m+2) H hl hi;have hlt:R.i<l.length:=(wM.1 hi).1;have d1:decide (R.i<l.length)=true:=zR;obtain⟨b,p,g,cs,cur,ro,nl,hb,hg,hN,hT,e1,e2,e3,e4,e5,e6⟩:=hl.get hi;obtain⟨u1,u2,u3,u4⟩:=H.u b hb;have hG:=u4.trans hg;rw[hlen]at e1;simp only;cases q1:decide (n.k=2)with|false=>simp(disch:=try exact dz)only[b3x,hm,X6,q1,hr,hp,I6,H7,a1f,a3r,V4,G72,hlen,e0,dlt,d1,e1,e4,hG,↓gP,gY,gT];refine l9.done ⟨rfl,zV,λi hi h1 h2=>?_,R,H.setP zV (λi hi hp=>?_) ?_,λR1 e=>zk⟩;simp(disch:=try exact wQ)only[d9];simp(disch:=try exact wQ)only[d9];simp(disch:=try exact wQ)only[o7,H7,Rs.P]|true=>have e186:=d0F (m+2) n.t hT;cases q2:decide ((a1G n.t 4294967295).2=0)with|false=>simp(disch:=try exact dz)only[b3x,hm,X6,q1,q2,e186,hr,hp,I6,H7,V4,G72,↓gP,gY,gT,Nat.reduceAdd];refine l9.done ⟨rfl,zV,λi hi h1 h2=>?_,R,H.setP zV (λi hi hp=>?_) ?_,λR1 e=>zk⟩;simp(disch:=try exact wQ)only[d9];simp(disch:=try exact wQ)only[d9];simp(disch:=try exact wQ)only[o7,H7,Rs.P]|true=>simp(disch:=try exact dz)only[b3x,hm,X6,q1,q2,e186,hr,I6,hinc,↓gP,gY,gT,Nat.reduceAdd];refine l9.done ?_;refine⟨rfl,zV,λi k1 k2 k3=>?_,_,H.setR zV (λi k1 k2=>?_) ?_,λR1 e=>zb⟩;simp(disch:=try exact wQ)only[d9];simp(disch:=try exact wQ)only[d9];simp(disch:=try exact wQ)only[o7,I6,hlen]
def a9v (l:List Nd)(q:Nat)(R:RV):Rs:=match l[R.i]? with|none=>.er q 4|some n=>bcase (decide (n.k=2)) (bcase (decide ((a1G n.t 18446744073709551615).2=0)) (.ok {R with i:=R.i+1,N:=(a1G n.t 18446744073709551615).1}) (.er n.p (a1G n.t 18446744073709551615).2)) (.er n.p 4)
theorem d6F (m)(hRi:R.i<4294967296)(H:At U h0 sv fo ar ap lv q c h R P)(hl:NdL U h0 lv l)(r w):l9 (go (o9 D7 (m+4) 148 [.pointer (some ⟨ar,0,some 0⟩),.int .i64 (.ofNat 64)]) ⟨c,h,r,w⟩) (EndR U h0 sv fo ar ap lv q c h P (a9v l q R)):=by have hr:=H.hr;have hp:=H.hp;have a1:=H.r;have a2:=H.p;have a3:=H.ne;have a4:ap≠ar:=λe=>H.ne e.symm;have a5:ar≠c:=zy;have a6:ap≠c:=zy;have a7:ar≠c+1:=zy;have a8:ap≠c+1:=zy;have hlen:=hl.len.1;have e0:=Q8 lv.a l.length lv.e;have hAg:AgU U h h0:=λi hi=>(H.u i hi).2.2.2;have hUc:∀i,U i->i<c:=λi hi=>(H.u i hi).1;have hn0:¬U c:=λhi=>uW _ (hUc c hi);have hn1:¬U (c+1):=λhi=>zQ;have hn2:¬U (c+2):=λhi=>zQ;rw[d0M];have hinc:=J2 R.i hRi;unfold a9v;cases hi:l[R.i]? with|none=>obtain⟨z,y,o1,o2,hm⟩:=a0W (m+2) H hl hi;have hlt:l.length<=R.i:=zZ;have d1:decide (R.i<l.length)=false:=zS;simp(disch:=try exact dz)only[b3x,hm,hr,hp,I6,H7,a1f,a3r,V4,G72,hlen,e0,dlt,d1,↓gP,gY,gT];refine l9.done ⟨rfl,zV,λi hi h1 h2=>?_,R,H.setP zV (λi hi hp=>?_) ?_,λR1 e=>zk⟩;simp(disch:=try exact wQ)only[d9];simp(disch:=try exact wQ)only[d9];simp(disch:=try exact wQ)only[o7,H7,Rs.P]|some n=>obtain⟨z,y,o1,o2,nlm,hnm,hTm,hm⟩:=a0X (m+2) H hl hi;have hlt:R.i<l.length:=(wM.1 hi).1;have d1:decide (R.i<l.length)=true:=zR;obtain⟨b,p,g,cs,cur,ro,nl,hb,hg,hN,hT,e1,e2,e3,e4,e5,e6⟩:=hl.get hi;obtain⟨u1,u2,u3,u4⟩:=H.u b hb;have hG:=u4.trans hg;rw[hlen]at e1;simp only;cases q1:decide (n.k=2)with|false=>simp(disch:=try exact dz)only[b3x,hm,X6,q1,hr,hp,I6,H7,a1f,a3r,V4,G72,hlen,e0,dlt,d1,e1,e4,hG,↓gP,gY,gT];refine l9.done ⟨rfl,zV,λi hi h1 h2=>?_,R,H.setP zV (λi hi hp=>?_) ?_,λR1 e=>zk⟩;simp(disch:=try exact wQ)only[d9];simp(disch:=try exact wQ)only[d9];simp(disch:=try exact wQ)only[o7,H7,Rs.P]|true=>have e186:=b9c (m+2) n.t hT;cases q2:decide ((a1G n.t 18446744073709551615).2=0)with|false=>simp(disch:=try exact dz)only[b3x,hm,X6,q1,q2,e186,hr,hp,I6,H7,V4,G72,↓gP,gY,gT,Nat.reduceAdd];refine l9.done ⟨rfl,zV,λi hi h1 h2=>?_,R,H.setP zV (λi hi hp=>?_) ?_,λR1 e=>zk⟩;simp(disch:=try exact wQ)only[d9];simp(disch:=try exact wQ)only[d9];simp(disch:=try exact wQ)only[o7,H7,Rs.P]|true=>simp(disch:=try exact dz)only[b3x,hm,X6,q1,q2,e186,hr,I6,hinc,↓gP,gY,gT,Nat.reduceAdd];refine l9.done ?_;refine⟨rfl,zV,λi k1 k2 k3=>?_,_,H.setR zV (λi k1 k2=>?_) ?_,λR1 e=>zb⟩;simp(disch:=try exact wQ)only[d9];simp(disch:=try exact wQ)only[d9];simp(disch:=try exact wQ)only[o7,I6,hlen]
def b0O (l:List Nd)(q:Nat)(R:RV):Rs:=match l[R.i]? with|none=>.er q 4|some n=>bcase (decide (n.k=2)) (bcase (beqBytes n.t [102,117,110,99]) (.ok {R with i:=R.i+1,A:=3}) (bcase (beqBytes n.t [101,120,116,101,114,110]) (.ok {R with i:=R.i+1,A:=4}) (.er n.p 12))) (.er n.p 4)
theorem e8G (m)(hRi:R.i<4294967296)(H:At U h0 sv fo ar ap lv q c h R P)(hl:NdL U h0 lv l)(r w):l9 (go (o9 D7 (m+4) 149 [.pointer (some ⟨ar,0,some 0⟩)]) ⟨c,h,r,w⟩) (EndR U h0 sv fo ar ap lv q c h P (b0O l q R)):=by have hr:=H.hr;have hp:=H.hp;have a1:=H.r;have a2:=H.p;have a3:=H.ne;have a4:ap≠ar:=λe=>H.ne e.symm;have a5:ar≠c:=zy;have a6:ap≠c:=zy;have a7:ar≠c+1:=zy;have a8:ap≠c+1:=zy;have hlen:=hl.len.1;have e0:=Q8 lv.a l.length lv.e;have hAg:AgU U h h0:=λi hi=>(H.u i hi).2.2.2;have hUc:∀i,U i->i<c:=λi hi=>(H.u i hi).1;have hn0:¬U c:=λhi=>uW _ (hUc c hi);have hn1:¬U (c+1):=λhi=>zQ;have hn2:¬U (c+2):=λhi=>zQ;rw[d9A];have hinc:=J2 R.i hRi;unfold b0O;cases hi:l[R.i]? with|none=>obtain⟨z,y,o1,o2,hm⟩:=a0W (m+2) H hl hi;have hlt:l.length<=R.i:=zZ;have d1:decide (R.i<l.length)=false:=zS;simp(disch:=try exact dz)only[c1C,hm,hr,hp,I6,H7,a1f,a3r,V4,G72,hlen,e0,dlt,d1,↓gP,gY,gT,Nat.reduceAdd];refine l9.done ⟨rfl,zV,λi hi h1 h2=>?_,R,H.setP zV (λi hi hp=>?_) ?_,λR1 e=>zk⟩;simp(disch:=try exact wQ)only[d9];simp(disch:=try exact wQ)only[d9];simp(disch:=try exact wQ)only[o7,H7,Rs.P]|some n=>obtain⟨z,y,o1,o2,nlm,hnm,hTm,hm⟩:=a0X (m+2) H hl hi;have hlt:R.i<l.length:=(wM.1 hi).1;have d1:decide (R.i<l.length)=true:=zR;obtain⟨b,p,g,cs,cur,ro,nl,hb,hg,hN,hT,e1,e2,e3,e4,e5,e6⟩:=hl.get hi;obtain⟨u1,u2,u3,u4⟩:=H.u b hb;have hG:=u4.trans hg;rw[hlen]at e1;simp only;cases q1:decide (n.k=2)with|false=>simp(disch:=try exact dz)only[c1C,hm,X6,q1,hr,hp,I6,H7,a1f,a3r,V4,G72,hlen,e0,dlt,d1,e1,e4,hG,↓gP,gY,gT,Nat.reduceAdd];refine l9.done ⟨rfl,zV,λi hi h1 h2=>?_,R,H.setP zV (λi hi hp=>?_) ?_,λR1 e=>zk⟩;simp(disch:=try exact wQ)only[d9];simp(disch:=try exact wQ)only[d9];simp(disch:=try exact wQ)only[o7,H7,Rs.P]|true=>cases q2:beqBytes n.t [102,117,110,99]with|true=>simp(disch:=try exact dz)only[c1C,hm,X6,q1,q2,hr,I6,hinc,↓gP,gY,gT,Nat.reduceAdd];refine l9.done ?_;refine⟨rfl,zV,λi k1 k2 k3=>?_,_,H.setR zV (λi k1 k2=>?_) ?_,λR1 e=>zb⟩;simp(disch:=try exact wQ)only[d9];simp(disch:=try exact wQ)only[d9];simp(disch:=try exact wQ)only[o7,I6,hlen]|false=>cases q3:beqBytes n.t [101,120,116,101,114,110]with|true=>simp(disch:=try exact dz)only[c1C,hm,X6,q1,q2,q3,hr,I6,hinc,↓gP,gY,gT,Nat.reduceAdd];refine l9.done ?_;refine⟨rfl,zV,λi k1 k2 k3=>?_,_,H.setR zV (λi k1 k2=>?_) ?_,λR1 e=>zb⟩;simp(disch:=try exact wQ)only[d9];simp(disch:=try exact wQ)only[d9];simp(disch:=try exact wQ)only[o7,I6,hlen]|false=>simp(disch:=try exact dz)only[c1C,hm,X6,q1,q2,q3,hr,hp,I6,H7,V4,G72,↓gP,gY,gT,Nat.reduceAdd];refine l9.done ⟨rfl,zV,λi hi h1 h2=>?_,R,H.setP zV (λi hi hp=>?_) ?_,λR1 e=>zk⟩;simp(disch:=try exact wQ)only[d9];simp(disch:=try exact wQ)only[d9];simp(disch:=try exact wQ)only[o7,H7,Rs.P]
end
theorem Fin.out {U h0 sv fo ar ap lv q c c1 c'}{h h1 h':Trie VObj}{P rs r' w'}(H:Fin U h0 sv fo ar ap lv q c1 h1 P rs ⟨c',h',r',w'⟩)(hc:c<=c1)(hs:∀i,i<c->i≠ar->i≠ap->h1.get i=h.get i):c<=c'/\∀i,i<c->i≠ar->i≠ap->h'.get i=h.get i:=⟨vR hc H.le,λi k1 k2 k3=>(H.same i (wD k1 hc) k2 k3).trans (hs i k1 k2 k3)⟩
section
variable {U:Nat->Prop}{h0:Trie VObj}{sv fo:Value}{F:Nat->List (Value×Value)}{L:List (List UInt8)}{ar ap:Nat}{lv:Sl}{q c:Nat}{h:Trie VObj}{R:RV}{P:PV}{l:List Nd}
def a6K (F:Nat->List (Value×Value))(l:List Nd)(q:Nat)(R:RV):Rs:=match l[R.i]? with|none=>.ok R|some n=>bcase (a1b n.k (a1D n.l) [114,101,115,117,108,116]) (match a3m n q with|.ok t=>.ok {R with i:=R.i+1,k:=1,v:=t,bi:=0}|.er p e=>.er p e) (bcase (a1b n.k (a1D n.l) [116,121,112,101]) (a8L (X4 (F 0)) (λR k=>{R with bi:=k}) l q {R with k:=2}) (.ok R))
def a6Z (l:List Nd)(R:RV):RV:=match l[R.i]? with|none=>R|some n=>bcase (decide (n.k=2)&&a0n n.t) {R with nm:=n.t,i:=R.i+1} R
theorem f1e (E:Env U h0 sv F L)(m)(hRi:R.i+1<4294967296)(H:At U h0 sv fo ar ap lv q c h R P)(hl:NdL U h0 lv l)(r w):l9 (go (o9 D7 (m+7) 140 [.pointer (some ⟨ar,0,some 0⟩)]) ⟨c,h,r,w⟩) (EndR U h0 sv fo ar ap lv q c h P (a6K F l q (a6Z l R))):=by
 have hr:=H.hr;have hp:=H.hp;have a1:=H.r;have a2:=H.p;have a3:=H.ne;have a4:ap≠ar:=λe=>H.ne e.symm;have a5:ar≠c:=zy;have a6:ap≠c:=zy;have a7:ar≠c+1:=zy;have a8:ap≠c+1:=zy;have hlen:=hl.len.1;have e0:=Q8 lv.a l.length lv.e;have hAg:AgU U h h0:=λi hi=>(H.u i hi).2.2.2;have hUc:∀i,U i->i<c:=λi hi=>(H.u i hi).1;have hn0:¬U c:=λhi=>uW _ (hUc c hi);have hn1:¬U (c+1):=λhi=>zQ;have hn2:¬U (c+2):=λhi=>zQ;rw[e0Y];have hinc:=J2 R.i zy;apply d2a (Q:=λK=>∀(R1:RV) c1 h1 r1 w1,R1.i<4294967296->At U h0 sv fo ar ap lv q c1 h1 R1 P->c<=c1->(∀i,i<c->i≠ar->i≠ap->h1.get i=h.get i)->l9 (a1S (go (o9 D7 (m+6) 138 [.pointer (some ⟨ar,0,some 0⟩)]) ⟨c1,h1,r1,w1⟩) K noP) (EndR U h0 sv fo ar ap lv q c h P (a6K F l q R1)));intro key;unfold a6Z;cases hi:l[R.i]? with|none=>obtain⟨z,y,o1,o2,hm⟩:=a0W (m+5) H hl hi;simp(disch:=try exact dz)only[c8p,hm,↓gP,gY];refine key R _ _ _ _ zy (H.to ?_ λi hi=>?_) ?_ λi k1 k2 k3=>?_;omega;simp(disch:=try exact wQ)only[d9];omega;simp(disch:=try exact wQ)only[d9]|some n=>obtain⟨z,y,o1,o2,nlm,hnm,hTm,hm⟩:=a0X (m+5) H hl hi;simp only;cases q1:decide (n.k=2)with|false=>simp(disch:=try exact dz)only[c8p,hm,X6,q1,↓gP,gY,gT];refine key R _ _ _ _ zy (H.to ?_ λi hi=>?_) ?_ λi k1 k2 k3=>?_;omega;simp(disch:=try exact wQ)only[d9];omega;simp(disch:=try exact wQ)only[d9]|true=>have e107:=d0h (m+5) n.t hTm;cases q2:a0n n.t with|false=>simp(disch:=try exact dz)only[c8p,hm,X6,q1,q2,e107,↓gP,gY,gT];refine key R _ _ _ _ zy (H.to ?_ λi hi=>?_) ?_ λi k1 k2 k3=>?_;omega;simp(disch:=try exact wQ)only[d9];omega;simp(disch:=try exact wQ)only[d9]|true=>simp(disch:=try exact dz)only[c8p,hm,X6,q1,q2,e107,hr,I6,hinc,↓gP,gY];refine key {R with nm:=n.t,i:=R.i+1} _ _ _ _ zV (H.setR ?_ (λi hi hp=>?_) ?_) ?_ λi k1 k2 k3=>?_;omega;simp(disch:=try exact wQ)only[d9];simp(disch:=try exact wQ)only[o7,I6,hlen];omega;simp(disch:=try exact wQ)only[d9]
 intro R c h r w hRi H hc0 hs0;refine l9.mono (Q:=EndR U h0 sv fo ar ap lv q c h P (a6K F l q R)) ?_ λx s hq=>⟨hq.x,hq.f.of_to hc0 hs0⟩;have hr:=H.hr;have hp:=H.hp;have a1:=H.r;have a2:=H.p;have a3:=H.ne;have a4:ap≠ar:=λe=>H.ne e.symm;have a5:ar≠c:=zy;have a6:ap≠c:=zy;have a7:ar≠c+1:=zy;have a8:ap≠c+1:=zy;have hlen:=hl.len.1;have e0:=Q8 lv.a l.length lv.e;have hAg:AgU U h h0:=λi hi=>(H.u i hi).2.2.2;have hUc:∀i,U i->i<c:=λi hi=>(H.u i hi).1;have hn0:¬U c:=λhi=>uW _ (hUc c hi);have hn1:¬U (c+1):=λhi=>zQ;have hn2:¬U (c+2):=λhi=>zQ;unfold a6K;cases hi:l[R.i]? with|none=>obtain⟨z,y,o1,o2,hm⟩:=a0W (m+5) H hl hi;simp(disch:=try exact dz)only[hm,↓gP,gY,Nat.reduceAdd];refine l9.done ⟨rfl,zV,λi hi h1 h2=>?_,R,H.to zV (λi hi=>?_),λR1 e=>zb⟩;simp(disch:=try exact wQ)only[d9];simp(disch:=try exact wQ)only[d9]|some n=>obtain⟨z,y,o1,o2,nlm,hnm,hTm,hm⟩:=a0X (m+5) H hl hi;obtain⟨z2,hz2⟩:=b1o hnm.hd (m+5);have hz3:=λo1 o2 o3 o4 r w W=>hz2 (c+1+1) (V.upd (V.upd (V.upd (V.upd h c o1) c o2) (c+1) o3) (c+1) o4) r w n.k n.p n.t W (λi hi=>by have:=hUc i hi;omega) ((((hAg.upd hn0).upd hn0).upd hn1).upd hn1);simp only;cases q1:a1b n.k (a1D n.l) [114,101,115,117,108,116]with|true=>simp(disch:=try exact dz)only[hm,hz3,q1,↓gP,gY,Nat.reduceAdd];refine l9.bindC (e0G (m+2) hRi (H.to ?_ λi hi=>?_) hl hi _ _) λx s hq=>?_;omega;simp(disch:=try exact wQ)only[d9];obtain⟨c',h',r',w'⟩:=s;rcases hq with⟨t,eV,rfl,hF⟩|⟨p,e,eV,rfl,hF⟩;obtain⟨hc,hs0⟩:=hF.out (c:=c) (h:=h) zy (λi k1 k2 k3=>yT);obtain⟨R',H',hR⟩:=hF.at';obtain rfl:=hR _ rfl;have H2:At U h0 sv fo ar ap lv q c' h' _ P:=H';have hr':=H2.hr;have c1:=H2.r;rw[eV];simp(disch:=try exact dz)only[hr',I6,↓gP,gY,Nat.reduceAdd];refine l9.done ?_;refine⟨rfl,zV,λi k1 k2 k3=>?_,_,H2.setR (wP _) (λi k1 k2=>?_) ?_,λR1 e=>zb⟩;have:=hs0 i k1 k2 k3;simp(disch:=try exact wQ)only[d9];exact this;simp(disch:=try exact wQ)only[d9];simp(disch:=try exact wQ)only[o7,I6,hlen];obtain⟨hc,hs0⟩:=hF.out (c:=c) (h:=h) zy (λi k1 k2 k3=>yT);obtain⟨R',H',hR⟩:=hF.at';have hr':=H'.hr;have c1:=H'.r;rw[eV];simp(disch:=try exact dz)only[hr',I6,↓gP,gY,Nat.reduceAdd];refine l9.done ?_;refine⟨rfl,zV,λi k1 k2 k3=>?_,{R' with k:=1,v:=0,bi:=0},H'.setR (wP _) (λi k1 k2=>?_) ?_,λR1 e=>zk⟩;have:=hs0 i k1 k2 k3;simp(disch:=try exact wQ)only[d9];exact this;simp(disch:=try exact wQ)only[d9];simp(disch:=try exact wQ)only[o7,I6,hlen]|false=>cases q2:a1b n.k (a1D n.l) [116,121,112,101]with|false=>simp(disch:=try exact dz)only[hm,hz3,q1,q2,↓gP,gY,Nat.reduceAdd];refine l9.done ⟨rfl,zV,λi hi h1 h2=>?_,R,H.to zV (λi hi=>?_),λR1 e=>zb⟩;simp(disch:=try exact wQ)only[d9];simp(disch:=try exact wQ)only[d9]|true=>simp(disch:=try exact dz)only[hm,hz3,q1,q2,hr,I6,↓gP,gY,Nat.reduceAdd];refine l9.bindC (d7o (R:={R with k:=2}) E m hRi (H.setR ?_ (λi hi hp=>?_) ?_) hl _ _) λx s hq=>?_;omega;simp(disch:=try exact wQ)only[d9];simp(disch:=try exact wQ)only[o7,I6,hlen];obtain⟨rfl,hF⟩:=hq;simp(disch:=try exact dz)only[gY];refine l9.done ⟨rfl,hF.of_to zy λi k1 k2 k3=>?_⟩;simp(disch:=try exact wQ)only[d9]
end
theorem d7J (T):(a4O T).1<=4294967295:=by unfold a4O;cases(a1A T).2.2 with|false=>rw[X0];decide|true=>rw[V8];cases(a1A T).2.1 with|true=>rw[uV,V8];decide|false=>rw[vE];cases h:decide (4294967295<(a1A T).1)with|true=>rw[V8];decide|false=>rw[X0];rw[uz]at h;show(a1A T).1<=_;omega
theorem d7U (T gr)(hg:gr<18446744073709551616):(a1G T gr).1<18446744073709551616:=by have hl:=b4O (a2B T);unfold a1G;cases(a1A (a2B T)).2.2 with|false=>rw[X0];decide|true=>rw[V8];cases((a1A (a2B T)).2.1||bcase (a9I T) (decide (gr/2+1<(a1A (a2B T)).1)) (decide (gr<(a1A (a2B T)).1)))with|true=>rw[V8];decide|false=>rw[X0];cases a9I T with|true=>rw[V8];exact uF sZ hg|false=>rw[X0];exact hl
theorem c1g {T W}(h:a0u T W=true):W.length<=T.length:=by unfold a0u at h;rw[wI]at h;exact vS h.1
theorem b8J (T:List UInt8)(n)(h:T.length<1800000):(G7 T n).length<1800000:=by rw[a0z,uw];omega
def a3B (l:List Nd)(R:RV):Rs:=match l[R.i]? with|none=>.ok R|some n=>bcase (decide (n.k=2)) (bcase (a0u n.t [111,102,102,115,101,116,61]) (bcase (decide ((a4O (G7 n.t 7)).2=0)) (.ok {R with i:=R.i+1,N:=(a4O (G7 n.t 7)).1}) (.er n.p (a4O (G7 n.t 7)).2)) (.ok R)) (.ok R)
def a8h (l:List Nd)(R:RV):Rs:=match l[R.i]? with|none=>.ok R|some n=>bcase (decide (n.k=2)) (bcase (a0u n.t [97,108,105,103,110,61]) (bcase (decide ((a1G (G7 n.t 6) 18446744073709551615).2=0)) (match a6X (a1G (G7 n.t 6) 18446744073709551615).1 with|some i=>.ok {R with i:=R.i+1,A:=i}|none=>.er n.p 4) (.er n.p (a1G (G7 n.t 6) 18446744073709551615).2)) (.ok R)) (.ok R)
section
variable {U:Nat->Prop}{h0:Trie VObj}{sv fo:Value}{F:Nat->List (Value×Value)}{L:List (List UInt8)}{ar ap:Nat}{lv:Sl}{q c:Nat}{h:Trie VObj}{R:RV}{P:PV}{l:List Nd}
theorem d1k {fd l q R R'}(h:a6q fd l q R=.ok R'):R'.i<=R.i+1:=by
 unfold a6q at h;cases qi:isI l R.i with
  |true=>rw[qi,V8]at h;cases q2:N7 fd l q R.i with|ok k=>rw[q2]at h;cases h;exact wP _|er p e=>rw[q2]at h;cases h
  |false=>rw[qi,X0]at h;cases h;exact vo _
def b8q (F:Nat→List (Value×Value)) (al:Nat) (l:List Nd) (q:Nat) (R:RV):Rs:=(a6q (X4 (F 3)) l q { R with A:=al }).then fun R1=>(a3B l R1).then fun R2=>a8h l R2
theorem e9q (E:Env U h0 sv F L) (m) (hRi:R.i+2<4294967296) {al} (hal:Z9 a0H (.ofNat R.op)=some al) (H:At U h0 sv fo ar ap lv q c h R P) (hl:NdL U h0 lv l) (r w) :
 l9 (go (o9 D7 (m+8) 147 [.pointer (some ⟨ar, 0,some 0⟩)]) ⟨c,h,r,w⟩) (EndR U h0 sv fo ar ap lv q c h P (b8q F al l q R)):=by
 have hr:=H.hr
 have hp:=H.hp
 have a1:=H.r
 have a2:=H.p
 have a3:=H.ne
 have a4:ap≠ar:=fun e=>H.ne e.symm
 have a5:ar≠c:=zy
 have a6:ap≠c:=zy
 have a7:ar≠c+1:=zy
 have a8:ap≠c+1:=zy
 have hlen:=hl.len.1
 have e0:=Q8 lv.a l.length lv.e
 have hAg:AgU U h h0:=fun i hi=>(H.u i hi).2.2.2
 have hUc:∀ i,U i→i<c:=fun i hi=>(H.u i hi).1
 have hn0:¬ U c:=fun hi=>uW _ (hUc c hi)
 have hn1:¬ U (c+1):=fun hi=>yG
 have hn2:¬ U (c+2):=fun hi=>yG
 rw [e2q]
 have e94:=e5m (m+6) R.op al hal
 simp (disch:=try exact dz) only [b7P,hr,I6,e94, ↓gP,gY,Nat.reduceAdd]
 refine l9.bindC (c2i (R:={ R with A:=al }) E (m+1) (Or.inr ⟨3,zu,rfl,rfl⟩) (H.setR ?_ (fun i hi hp=>?_) ?_) hl _ _) fun x s hq=>?_
 · omega
 · simp (disch:=try exact wQ) only [d9]
 · simp (disch:=try exact wQ) only [o7,I6,hlen]
 obtain ⟨rfl,hF⟩:=hq
 obtain ⟨c',h',r',w'⟩:=s
 unfold b8q
 generalize hm:a6q (X4 (F 3)) l q { R with A:=al }=rs at hF ⊢
 obtain ⟨hc,hs0⟩:=hF.out (c:=c) (h:=h) zy (fun i k1 k2 k3=>by simp (disch:=try exact wQ) only [d9])
 cases rs with
 | er p e=>
   simp (disch:=try exact dz) only [Rs.b, ↓gP,gY,gT]
   exact l9.done ⟨rfl,⟨zO,hs0,hF.at'⟩⟩
 | ok R1=>
   obtain ⟨R',H',hR⟩:=hF.at'
   obtain rfl:=hR _ rfl
   have H2:At U h0 sv fo ar ap lv q c' h' R' P:=H'
   have hb:R'.i+1<4294967296:=by
    have hle:=d1k hm
    dsimp only at hle
    omega
   simp (disch:=try exact dz) only [Rs.b, ↓gP,gY,gT]
   refine l9.mono (Q:=EndR U h0 sv fo ar ap lv q c' h' P ((a3B l R').then fun R1=>a8h l R1)) ?_ fun x s hq=>⟨hq.x,hq.f.of_to hc hs0⟩
   have hr:=H2.hr
   have hp:=H2.hp
   have a1:=H2.r
   have a2:=H2.p
   have a3:=H2.ne
   have a4:ap≠ar:=fun e=>H2.ne e.symm
   have a5:ar≠c':=zy
   have a6:ap≠c':=zy
   have a7:ar≠c'+1:=zy
   have a8:ap≠c'+1:=zy
   have hlen:=hl.len.1
   have e0:=Q8 lv.a l.length lv.e
   have hAg:AgU U h' h0:=fun i hi=>(H2.u i hi).2.2.2
   have hUc:∀ i,U i→i<c':=fun i hi=>(H2.u i hi).1
   have hn0:¬ U c':=fun hi=>uW _ (hUc c' hi)
   have hn1:¬ U (c'+1):=fun hi=>yG
   have hn2:¬ U (c'+2):=fun hi=>yG
   have hinc:=J2 R'.i zy
   apply d2a (Q:=fun K=>∀ (R1:RV) c1 h1 r1 w1,R1.i<4294967296→At U h0 sv fo ar ap lv q c1 h1 R1 P→c'≤c1→(∀ i,i<c'→i≠ar→i≠ap→h1.get i=h'.get i)→l9 (a1S (go (o9 D7 (m+7) 138 [.pointer (some ⟨ar, 0,some 0⟩)]) ⟨c1,h1,r1,w1⟩) K noP) (EndR U h0 sv fo ar ap lv q c' h' P (a8h l R1)))
   · intro key
     unfold a3B Rs.then
     cases hi:l[R'.i]? with
     | none=>
       obtain ⟨z,y,o1,o2,hm⟩:=a0W (m+6) H2 hl hi
       simp (disch:=try exact dz) only [hm, ↓gP,gY]
       refine key R' _ _ _ _ zy (H2.to ?_ fun i hi=>?_) ?_ fun i k1 k2 k3=>?_
       · omega
       · simp (disch:=try exact wQ) only [d9]
       · omega
       · simp (disch:=try exact wQ) only [d9]
     | some n=>
       obtain ⟨z,y,o1,o2,nlm,hnm,hTm,hm⟩:=a0X (m+6) H2 hl hi
       simp only
       cases q1:decide (n.k=2) with
       | false=>
         simp (disch:=try exact dz) only [hm,X6,q1, ↓gP,gY]
         refine key R' _ _ _ _ zy (H2.to ?_ fun i hi=>?_) ?_ fun i k1 k2 k3=>?_
         · omega
         · simp (disch:=try exact wQ) only [d9]
         · omega
         · simp (disch:=try exact wQ) only [d9]
       | true=>
       cases q2:a0u n.t [111, 102, 102, 115, 101, 116, 61] with
       | false=>
         simp (disch:=try exact dz) only [hm,X6,q1,b2k,q2, ↓gP,gY]
         refine key R' _ _ _ _ zy (H2.to ?_ fun i hi=>?_) ?_ fun i k1 k2 k3=>?_
         · omega
         · simp (disch:=try exact wQ) only [d9]
         · omega
         · simp (disch:=try exact wQ) only [d9]
       | true=>
       have hsl:=a0P n.t .i64 7 (c1g q2)
       have hT7:=b8J n.t 7 hTm
       have e81:=e5N (m+6) (G7 n.t 7) hT7
       cases q3:decide ((a4O (G7 n.t 7)).2=0) with
       | false=>
         simp (disch:=try exact dz) only [b7P,hm,X6,q1,b2k,q2,hsl,e81,q3,hr,hp,I6,H7,V4,G72, ↓gP,gY,gT,Nat.reduceAdd]
         refine l9.done ?_
         refine ⟨rfl,zO,fun i hi h1 h2=>?_,R',H2.setP zO (fun i hi hp=>?_) ?_,fun R1 e=>zk⟩
         · simp (disch:=try exact wQ) only [d9]
         · simp (disch:=try exact wQ) only [d9]
         · simp (disch:=try exact wQ) only [o7,H7,Rs.P]
       | true=>
         have hcv:Q0 .u64 (Int.ofNat (a4O (G7 n.t 7)).1)=Int.ofNat (a4O (G7 n.t 7)).1:=d4w _ (by have:=d7J (G7 n.t 7); omega)
         simp (disch:=try exact dz) only [b7P,hm,X6,q1,b2k,q2,hsl,e81,q3,hcv,hr,I6,hinc, ↓gP,gY,gT,Nat.reduceAdd]
         refine key { R' with i:=R'.i+1,N:=(a4O (G7 n.t 7)).1 } _ _ _ _ zO (H2.setR ?_ (fun i hi hp=>?_) ?_) ?_ fun i k1 k2 k3=>?_
         · omega
         · simp (disch:=try exact wQ) only [d9]
         · simp (disch:=try exact wQ) only [o7,I6,hlen]
         · omega
         · simp (disch:=try exact wQ) only [d9]
   · intro R c h r w hRi H hc0 hs0
     refine l9.mono (Q:=EndR U h0 sv fo ar ap lv q c h P (a8h l R)) ?_ fun x s hq=>⟨hq.x,hq.f.of_to hc0 hs0⟩
     have hr:=H.hr
     have hp:=H.hp
     have a1:=H.r
     have a2:=H.p
     have a3:=H.ne
     have a4:ap≠ar:=fun e=>H.ne e.symm
     have a5:ar≠c:=zy
     have a6:ap≠c:=zy
     have a7:ar≠c+1:=zy
     have a8:ap≠c+1:=zy
     have hlen:=hl.len.1
     have e0:=Q8 lv.a l.length lv.e
     have hAg:AgU U h h0:=fun i hi=>(H.u i hi).2.2.2
     have hUc:∀ i,U i→i<c:=fun i hi=>(H.u i hi).1
     have hn0:¬ U c:=fun hi=>uW _ (hUc c hi)
     have hn1:¬ U (c+1):=fun hi=>yG
     have hn2:¬ U (c+2):=fun hi=>yG
     have hinc:=J2 R.i hRi
     unfold a8h
     cases hi:l[R.i]? with
     | none=>
       obtain ⟨z,y,o1,o2,hm⟩:=a0W (m+6) H hl hi
       simp (disch:=try exact dz) only [hm, ↓gP,gY]
       refine l9.done ?_
       refine ⟨rfl,zO,fun i hi h1 h2=>?_,R,H.to zO (fun i hi=>?_),fun R1 e=>by cases e; rfl⟩
       · simp (disch:=try exact wQ) only [d9]
       · simp (disch:=try exact wQ) only [d9]
     | some n=>
       obtain ⟨z,y,o1,o2,nlm,hnm,hTm,hm⟩:=a0X (m+6) H hl hi
       simp only
       cases q1:decide (n.k=2) with
       | false=>
         simp (disch:=try exact dz) only [hm,X6,q1, ↓gP,gY]
         refine l9.done ?_
         refine ⟨rfl,zO,fun i hi h1 h2=>?_,R,H.to zO (fun i hi=>?_),fun R1 e=>by cases e; rfl⟩
         · simp (disch:=try exact wQ) only [d9]
         · simp (disch:=try exact wQ) only [d9]
       | true=>
       cases q2:a0u n.t [97, 108, 105, 103, 110, 61] with
       | false=>
         simp (disch:=try exact dz) only [hm,X6,q1,b2k,q2, ↓gP,gY]
         refine l9.done ?_
         refine ⟨rfl,zO,fun i hi h1 h2=>?_,R,H.to zO (fun i hi=>?_),fun R1 e=>by cases e; rfl⟩
         · simp (disch:=try exact wQ) only [d9]
         · simp (disch:=try exact wQ) only [d9]
       | true=>
       have hsl:=a0P n.t .i64 6 (c1g q2)
       have hT6:=b8J n.t 6 hTm
       have e186:=b9c (m+6) (G7 n.t 6) hT6
       have hv:=d7U (G7 n.t 6) 18446744073709551615 zu
       cases q3:decide ((a1G (G7 n.t 6) 18446744073709551615).2=0) with
       | false=>
         simp (disch:=try exact dz) only [b7P,hm,X6,q1,b2k,q2,hsl,e186,q3,hr,hp,I6,H7,V4,G72, ↓gP,gY,gT]
         refine l9.done ?_
         refine ⟨rfl,zO,fun i hi h1 h2=>?_,R,H.setP zO (fun i hi hp=>?_) ?_,fun R1 e=>zk⟩
         · simp (disch:=try exact wQ) only [d9]
         · simp (disch:=try exact wQ) only [d9]
         · simp (disch:=try exact wQ) only [o7,H7,Rs.P]
       | true=>
       have e187:=d9Q (m+6) _ hv
       have hpop:=d2X _ hv
       cases q4:a6X (a1G (G7 n.t 6) 18446744073709551615).1 with
       | none=>
         rw [q4] at hpop
         have hpop':decide (pop (a1G (G7 n.t 6) 18446744073709551615).1=1)=false:=hpop
         simp (disch:=try exact dz) only [b7P,hm,X6,q1,b2k,q2,hsl,e186,q3,e187,hpop',hr,hp,I6,H7,V4,G72, ↓gP,gY,gT]
         refine l9.done ?_
         refine ⟨rfl,zO,fun i hi h1 h2=>?_,R,H.setP zO (fun i hi hp=>?_) ?_,fun R1 e=>zk⟩
         · simp (disch:=try exact wQ) only [d9]
         · simp (disch:=try exact wQ) only [d9]
         · simp (disch:=try exact wQ) only [o7,H7,Rs.P]
       | some j=>
         rw [q4] at hpop
         have hpop':decide (pop (a1G (G7 n.t 6) 18446744073709551615).1=1)=true:=hpop
         have e188:=e0p (m+6) _ j q4
         simp (disch:=try exact dz) only [b7P,hm,X6,q1,b2k,q2,hsl,e186,q3,e187,hpop',e188,hr,I6,hinc, ↓gP,gY,gT,Nat.reduceAdd]
         refine l9.done ?_
         refine ⟨rfl,zO,fun i k1 k2 k3=>?_,_,H.setR zO (fun i k1 k2=>?_) ?_,fun R1 e=>by cases e; rfl⟩
         · simp (disch:=try exact wQ) only [d9]
         · simp (disch:=try exact wQ) only [d9]
         · simp (disch:=try exact wQ) only [o7,I6,hlen]
end
end
end Go.Proofs.YtmomonnlmbljoaaGreatDoor
