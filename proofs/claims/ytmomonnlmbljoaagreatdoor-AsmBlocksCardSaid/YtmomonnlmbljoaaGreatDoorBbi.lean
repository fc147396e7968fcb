import Derived.Test.YtmomonnlmbljoaaGreatDoorBbh
set_option maxRecDepth 1000000
set_option maxHeartbeats 4000000
set_option linter.unusedVariables false
set_option linter.unusedSimpArgs false
section
namespace Go.Proofs.YtmomonnlmbljoaaGreatDoor
open Go.V Go.RowKit Go.Shelf Go.Proofs
variable {mL:Int}
attribute [local congr] y7 x9 A8 A7 D5 z8 E5 G8 G7
def a0V:List Nd->Option (Nat×List UInt8)|[]=>none|n::_=>some (n.k,n.t)
theorem NdL.hd {U h v l}(H:NdL U h v l):b3z U h v.a v.n v.e (a0V l):=by cases H with|nil=>exact Or.inl ⟨rfl,rfl⟩| @row b o g cur cs ro _ vs h1 h2 h3 h4 h5=>cases l with|nil=>exact Or.inl ⟨rfl,rfl⟩|cons n t=>obtain⟨_,h6⟩:=h4 0 n rfl;rw[tT,vB]at h6;exact Or.inr ⟨t.length,b,o,g,cs,cur,ro,n.k,_,n.t,_,rfl,rfl,rfl,h1,h2,h6,rfl⟩
noncomputable def a8E (fd:List UInt8->Nat×Nat)(put:RV->Nat->RV)(l:List Nd)(q:Nat)(R:RV):Rs:=match l[R.i]? with|none=>.er q 4|some n=>bcase (a0A n.k (a0V n.l) [116,121,112,101]) (match n.l[1]? with|none=>.er q 4|some n1=>bcase (Y3 n1.k n1.t) (bcase (decide ((fd n1.t).2=0)) (match n.l[2]? with|some n2=>.er n2.p 4|none=>.ok (put {R with i:=R.i+1} (fd n1.t).1)) (.er n1.p (fd n1.t).2)) (.er n1.p 4)) (.er n.p 4)
section
variable {U:Nat->Prop}{h0:Trie VObj}{sv fo:Value}{F:Nat->List (Value×Value)}{L:List (List UInt8)}{ar ap:Nat}{lv:Sl}{q c:Nat}{h:Trie VObj}{R:RV}{P:PV}{l:List Nd}
theorem e1H (E:Env U h0 sv F L)(m)(hRi:R.i<4294967296)(H:At U h0 sv fo ar ap lv q c h R P)(hl:NdL U h0 lv l)(r w):l9 (go (o8 D8 (m+6) 144 [.pointer (some ⟨ar,0,some 0⟩),.pointer (some ⟨ar,5,some 0⟩)]) ⟨c,h,r,w⟩) (EndR U h0 sv fo ar ap lv q c h P (a8E (X6 (F 0)) (λR k=>{R with A:=k}) l q R)):=by
 have hr:=H.hr;have hp:=H.hp;have a1:=H.r;have a2:=H.p;have a3:=H.ne;have a4:ap≠ar:=λe=>H.ne e.symm;have a5:ar≠c:=zy;have a6:ap≠c:=zy;have a7:ar≠c+1:=zy;have a8:ap≠c+1:=zy;have hlen:=hl.len.1;have e0:=S9 lv.a l.length lv.e;have hAg:AgU U h h0:=λi hi=>(H.u i hi).2.2.2;have hUc:∀i,U i->i<c:=λi hi=>(H.u i hi).1;have hn0:¬U c:=λhi=>uZ _ (hUc c hi);have hn1:¬U (c+1):=λhi=>zQ;have hn2:¬U (c+2):=λhi=>zQ;rw[d0i];unfold a8E;have hinc:=J6 R.i hRi;cases hi:l[R.i]? with
  |none=>obtain⟨z,y,o1,o2,hm⟩:=a0Z (m+4) H hl hi;have hlt:l.length<=R.i:=za;have d1:decide (R.i<l.length)=false:=zS;simp(disch:=try exact dz)only[b1e,hm,hr,hp,I5,F8,a1g,a3g,V3,G72,hlen,e0,dlt,d1,↓gP,gY,gT];refine l9.done ⟨rfl,zV,λi hi h1 h2=>?_,R,H.setP zV (λi hi hp=>?_) ?_,λR1 e=>zk⟩;simp(disch:=first|assumption|omega)only[d9];simp(disch:=first|assumption|omega)only[d9];simp(disch:=first|assumption|omega)only[o7,F8,Rs.P]|some n=>
   obtain⟨z,y,o1,o2,nlm,hnm,hTm,hm⟩:=a1a (m+4) H hl hi;have hlt:R.i<l.length:=(wM.1 hi).1;have d1:decide (R.i<l.length)=true:=zR;obtain⟨b,p,g,cs,cur,ro,nl,hb,hg,hN,hT,e1,e2,e3,e4,e5,e6⟩:=hl.get hi;obtain⟨u1,u2,u3,u4⟩:=H.u b hb;have hG:=u4.trans hg;rw[hlen]at e1;obtain⟨z2,hz2⟩:=b1z hnm.hd (m+4);have hz3:=λo1 o2 o3 o4 r w W=>hz2 (c+1+1) (V.upd (V.upd (V.upd (V.upd h c o1) c o2) (c+1) o3) (c+1) o4) r w n.k n.p n.t W (λi hi=>by have:=hUc i hi;omega) ((((hAg.upd hn0).upd hn0).upd hn1).upd hn1);have hlenn:=hN.len.1;have e0n:=S9 nl.a n.l.length nl.e;simp only;cases q1:a0A n.k (a0V n.l) [116,121,112,101]with
    |false=>simp(disch:=try exact dz)only[b1e,hm,hz3,q1,hr,hp,I5,F8,a1g,a3g,V3,G72,hlen,e0,dlt,d1,e1,e4,e6,hG,↓gP,gY,gT];refine l9.done ⟨rfl,zV,λi hi h1 h2=>?_,R,H.setP zV (λi hi hp=>?_) ?_,λR1 e=>zk⟩;simp(disch:=first|assumption|omega)only[d9];simp(disch:=first|assumption|omega)only[d9];simp(disch:=first|assumption|omega)only[o7,F8,Rs.P]|true=>
     cases hi1:n.l[1]? with
      |none=>
       have hlt1:n.l.length<=1:=by simpa using hi1
       have d2:decide (n.l.length<2)=true:=zR;have d3:decide (1<n.l.length)=false:=zS;simp(disch:=try exact dz)only[b1e,hm,hz3,q1,hr,hp,I5,F8,a1g,a3g,V3,G72,hlen,hlenn,e0n,dlt,d2,d3,e1,e4,e6,hG,↓gP,gY,gT];refine l9.done ⟨rfl,zV,λi hi h1 h2=>?_,R,H.setP zV (λi hi hp=>?_) ?_,λR1 e=>zk⟩;simp(disch:=first|assumption|omega)only[d9];simp(disch:=first|assumption|omega)only[d9];simp(disch:=first|assumption|omega)only[o7,F8,Rs.P]|some n1=>
       have hlt1:1<n.l.length:=(wM.1 hi1).1;have d2:decide (n.l.length<2)=false:=zS;have d3:decide (1<n.l.length)=true:=zR;obtain⟨b1,p1,g1,cs1,cur1,ro1,nl1,hb1,hg1,hN1,hT1,e11,e21,e31,e41,e51,e61⟩:=hN.get hi1;obtain⟨u11,u21,u31,u41⟩:=H.u b1 hb1;have hG1:=u41.trans hg1;rw[hlenn]at e11;simp only;cases q2:Y3 n1.k n1.t with
        |false=>simp(disch:=try exact dz)only[b1e,hm,hz3,q1,hr,hp,I5,F8,a1g,a3g,V3,G72,hlen,hlenn,e0n,dlt,d2,d3,a1S,q2,e1,e4,e6,hG,e11,e21,e41,hG1,↓gP,gY,gT];refine l9.done ⟨rfl,zV,λi hi h1 h2=>?_,R,H.setP zV (λi hi hp=>?_) ?_,λR1 e=>zk⟩;simp(disch:=first|assumption|omega)only[d9];simp(disch:=first|assumption|omega)only[d9];simp(disch:=first|assumption|omega)only[o7,F8,Rs.P]|true=>
         simp(disch:=try exact dz)only[b1e,hm,hz3,q1,hr,I5,hlen,hlenn,e0n,dlt,d2,a1S,q2,e1,e6,hG,e11,e21,hG1,↓gP,gY,gT];refine l9.bindC (c1A E (m+2) (Or.inr ⟨0,zu,rfl,rfl⟩) (H.to ?_ λi hi=>?_) n1 nl1 hT1 _ _) λx s hq=>?_;omega;simp(disch:=first|assumption|omega)only[d9];obtain⟨c',h',r',w'⟩:=s;obtain⟨hc,hs,⟨q3,rfl,H'⟩|⟨q3,rfl,H'⟩⟩:=hq;simp only at hc hs;have hs0:∀i,i<c->i≠ar->i≠ap->h'.get i=h.get i:=λi k1 k2 k3=>zC;have hr':=H'.hr;have hp':=H'.hp;have c1:=H'.r;have c2:=H'.p;simp only at hr' hp' c1 c2;rw[wL q3];cases hi2:n.l[2]? with
          |some n2=>have hlt2:2<n.l.length:=(wM.1 hi2).1;have d4:decide (2<n.l.length)=true:=zR;obtain⟨b2,p2,g2,cs2,cur2,ro2,nl2,hb2,hg2,hN2,hT2,e12,e22,e32,e42,e52,e62⟩:=hN.get hi2;obtain⟨u12,u22,u32,u42⟩:=H.u b2 hb2;have hG2:=u42.trans hg2;rw[hlenn]at e12;have hG2':=(hs0 b2 u12 u22 u32).trans hG2;have u12':b2<c':=zy;simp(disch:=try exact dz)only[hr',hp',I5,F8,a1g,a3g,V3,G72,e0n,dlt,d4,e12,e42,hG2',↓gP,gY,gT];refine l9.done ?_;refine⟨rfl,zV,λi k1 k2 k3=>?_,R,H'.setP (wQ _) (λi k1 k2=>?_) ?_,λR1 e=>zk⟩;have:=hs0 i k1 k2 k3;simp(disch:=first|assumption|omega)only[d9];exact this;simp(disch:=first|assumption|omega)only[d9];simp(disch:=first|assumption|omega)only[o7,F8,Rs.P]|none=>
           have hlt2:n.l.length<=2:=by simpa using hi2
           have d4:decide (2<n.l.length)=false:=zS;simp(disch:=try exact dz)only[hr',I5,dlt,d4,hinc,↓gP,gY,gT];refine l9.done ?_;refine⟨rfl,zV,λi k1 k2 k3=>?_,_,H'.setR (wQ _) (λi k1 k2=>?_) ?_,λR1 e=>zb⟩;have:=hs0 i k1 k2 k3;simp(disch:=first|assumption|omega)only[d9];exact this;simp(disch:=first|assumption|omega)only[d9];simp(disch:=first|assumption|omega)only[o7,I5]
         simp only at hc hs;have hs0:∀i,i<c->i≠ar->i≠ap->h'.get i=h.get i:=λi k1 k2 k3=>zC;rw[wP q3];simp(disch:=try exact dz)only[↓gP,gY,gT];exact l9.done ⟨rfl,zV,hs0,R,H',λR1 e=>zk⟩
theorem d7m (E:Env U h0 sv F L)(m)(hRi:R.i<4294967296)(H:At U h0 sv fo ar ap lv q c h R P)(hl:NdL U h0 lv l)(r w):l9 (go (o8 D8 (m+6) 144 [.pointer (some ⟨ar,0,some 0⟩),.pointer (some ⟨ar,10,some 0⟩)]) ⟨c,h,r,w⟩) (EndR U h0 sv fo ar ap lv q c h P (a8E (X6 (F 0)) (λR k=>{R with bi:=k}) l q R)):=by
 have hr:=H.hr;have hp:=H.hp;have a1:=H.r;have a2:=H.p;have a3:=H.ne;have a4:ap≠ar:=λe=>H.ne e.symm;have a5:ar≠c:=zy;have a6:ap≠c:=zy;have a7:ar≠c+1:=zy;have a8:ap≠c+1:=zy;have hlen:=hl.len.1;have e0:=S9 lv.a l.length lv.e;have hAg:AgU U h h0:=λi hi=>(H.u i hi).2.2.2;have hUc:∀i,U i->i<c:=λi hi=>(H.u i hi).1;have hn0:¬U c:=λhi=>uZ _ (hUc c hi);have hn1:¬U (c+1):=λhi=>zQ;have hn2:¬U (c+2):=λhi=>zQ;rw[d0i];unfold a8E;have hinc:=J6 R.i hRi;cases hi:l[R.i]? with
  |none=>obtain⟨z,y,o1,o2,hm⟩:=a0Z (m+4) H hl hi;have hlt:l.length<=R.i:=za;have d1:decide (R.i<l.length)=false:=zS;simp(disch:=try exact dz)only[b1e,hm,hr,hp,I5,F8,a1g,a3g,V3,G72,hlen,e0,dlt,d1,↓gP,gY,gT];refine l9.done ⟨rfl,zV,λi hi h1 h2=>?_,R,H.setP zV (λi hi hp=>?_) ?_,λR1 e=>zk⟩;simp(disch:=first|assumption|omega)only[d9];simp(disch:=first|assumption|omega)only[d9];simp(disch:=first|assumption|omega)only[o7,F8,Rs.P]|some n=>
   obtain⟨z,y,o1,o2,nlm,hnm,hTm,hm⟩:=a1a (m+4) H hl hi;have hlt:R.i<l.length:=(wM.1 hi).1;have d1:decide (R.i<l.length)=true:=zR;obtain⟨b,p,g,cs,cur,ro,nl,hb,hg,hN,hT,e1,e2,e3,e4,e5,e6⟩:=hl.get hi;obtain⟨u1,u2,u3,u4⟩:=H.u b hb;have hG:=u4.trans hg;rw[hlen]at e1;obtain⟨z2,hz2⟩:=b1z hnm.hd (m+4);have hz3:=λo1 o2 o3 o4 r w W=>hz2 (c+1+1) (V.upd (V.upd (V.upd (V.upd h c o1) c o2) (c+1) o3) (c+1) o4) r w n.k n.p n.t W (λi hi=>by have:=hUc i hi;omega) ((((hAg.upd hn0).upd hn0).upd hn1).upd hn1);have hlenn:=hN.len.1;have e0n:=S9 nl.a n.l.length nl.e;simp only;cases q1:a0A n.k (a0V n.l) [116,121,112,101]with
    |false=>simp(disch:=try exact dz)only[b1e,hm,hz3,q1,hr,hp,I5,F8,a1g,a3g,V3,G72,hlen,e0,dlt,d1,e1,e4,e6,hG,↓gP,gY,gT];refine l9.done ⟨rfl,zV,λi hi h1 h2=>?_,R,H.setP zV (λi hi hp=>?_) ?_,λR1 e=>zk⟩;simp(disch:=first|assumption|omega)only[d9];simp(disch:=first|assumption|omega)only[d9];simp(disch:=first|assumption|omega)only[o7,F8,Rs.P]|true=>
     cases hi1:n.l[1]? with
      |none=>
       have hlt1:n.l.length<=1:=by simpa using hi1
       have d2:decide (n.l.length<2)=true:=zR;have d3:decide (1<n.l.length)=false:=zS;simp(disch:=try exact dz)only[b1e,hm,hz3,q1,hr,hp,I5,F8,a1g,a3g,V3,G72,hlen,hlenn,e0n,dlt,d2,d3,e1,e4,e6,hG,↓gP,gY,gT];refine l9.done ⟨rfl,zV,λi hi h1 h2=>?_,R,H.setP zV (λi hi hp=>?_) ?_,λR1 e=>zk⟩;simp(disch:=first|assumption|omega)only[d9];simp(disch:=first|assumption|omega)only[d9];simp(disch:=first|assumption|omega)only[o7,F8,Rs.P]|some n1=>
       have hlt1:1<n.l.length:=(wM.1 hi1).1;have d2:decide (n.l.length<2)=false:=zS;have d3:decide (1<n.l.length)=true:=zR;obtain⟨b1,p1,g1,cs1,cur1,ro1,nl1,hb1,hg1,hN1,hT1,e11,e21,e31,e41,e51,e61⟩:=hN.get hi1;obtain⟨u11,u21,u31,u41⟩:=H.u b1 hb1;have hG1:=u41.trans hg1;rw[hlenn]at e11;simp only;cases q2:Y3 n1.k n1.t with
        |false=>simp(disch:=try exact dz)only[b1e,hm,hz3,q1,hr,hp,I5,F8,a1g,a3g,V3,G72,hlen,hlenn,e0n,dlt,d2,d3,a1S,q2,e1,e4,e6,hG,e11,e21,e41,hG1,↓gP,gY,gT];refine l9.done ⟨rfl,zV,λi hi h1 h2=>?_,R,H.setP zV (λi hi hp=>?_) ?_,λR1 e=>zk⟩;simp(disch:=first|assumption|omega)only[d9];simp(disch:=first|assumption|omega)only[d9];simp(disch:=first|assumption|omega)only[o7,F8,Rs.P]|true=>
         simp(disch:=try exact dz)only[b1e,hm,hz3,q1,hr,I5,hlen,hlenn,e0n,dlt,d2,a1S,q2,e1,e6,hG,e11,e21,hG1,↓gP,gY,gT];refine l9.bindC (c1A E (m+2) (Or.inr ⟨0,zu,rfl,rfl⟩) (H.to ?_ λi hi=>?_) n1 nl1 hT1 _ _) λx s hq=>?_;omega;simp(disch:=first|assumption|omega)only[d9];obtain⟨c',h',r',w'⟩:=s;obtain⟨hc,hs,⟨q3,rfl,H'⟩|⟨q3,rfl,H'⟩⟩:=hq;simp only at hc hs;have hs0:∀i,i<c->i≠ar->i≠ap->h'.get i=h.get i:=λi k1 k2 k3=>zC;have hr':=H'.hr;have hp':=H'.hp;have c1:=H'.r;have c2:=H'.p;simp only at hr' hp' c1 c2;rw[wL q3];cases hi2:n.l[2]? with
          |some n2=>have hlt2:2<n.l.length:=(wM.1 hi2).1;have d4:decide (2<n.l.length)=true:=zR;obtain⟨b2,p2,g2,cs2,cur2,ro2,nl2,hb2,hg2,hN2,hT2,e12,e22,e32,e42,e52,e62⟩:=hN.get hi2;obtain⟨u12,u22,u32,u42⟩:=H.u b2 hb2;have hG2:=u42.trans hg2;rw[hlenn]at e12;have hG2':=(hs0 b2 u12 u22 u32).trans hG2;have u12':b2<c':=zy;simp(disch:=try exact dz)only[hr',hp',I5,F8,a1g,a3g,V3,G72,e0n,dlt,d4,e12,e42,hG2',↓gP,gY,gT];refine l9.done ?_;refine⟨rfl,zV,λi k1 k2 k3=>?_,R,H'.setP (wQ _) (λi k1 k2=>?_) ?_,λR1 e=>zk⟩;have:=hs0 i k1 k2 k3;simp(disch:=first|assumption|omega)only[d9];exact this;simp(disch:=first|assumption|omega)only[d9];simp(disch:=first|assumption|omega)only[o7,F8,Rs.P]|none=>
           have hlt2:n.l.length<=2:=by simpa using hi2
           have d4:decide (2<n.l.length)=false:=zS;simp(disch:=try exact dz)only[hr',I5,dlt,d4,hinc,↓gP,gY,gT];refine l9.done ?_;refine⟨rfl,zV,λi k1 k2 k3=>?_,_,H'.setR (wQ _) (λi k1 k2=>?_) ?_,λR1 e=>zb⟩;have:=hs0 i k1 k2 k3;simp(disch:=first|assumption|omega)only[d9];exact this;simp(disch:=first|assumption|omega)only[d9];simp(disch:=first|assumption|omega)only[o7,I5]
         simp only at hc hs;have hs0:∀i,i<c->i≠ar->i≠ap->h'.get i=h.get i:=λi k1 k2 k3=>zC;rw[wP q3];simp(disch:=try exact dz)only[↓gP,gY,gT];exact l9.done ⟨rfl,zV,hs0,R,H',λR1 e=>zk⟩
end
end Go.Proofs.YtmomonnlmbljoaaGreatDoor
end
section
namespace Go.Proofs.YtmomonnlmbljoaaGreatDoor
open Go.V Go.RowKit Go.Shelf Go.Proofs
variable {mL:Int}
attribute [local congr] y7 x9 A8 A7 D5 z8 E5 G8 G7
noncomputable def a2X (n:Nd)(q:Nat):Ix:=match n.l[1]? with|none=>.er q 4|some n1=>bcase (decide (n1.k=2)) (match a3D n1.t with|none=>.er n1.p 24|some t=>match n.l[2]? with|some n2=>.er n2.p 4|none=>.ok t) (.er n1.p 4)
section
variable {U:Nat->Prop}{h0:Trie VObj}{sv fo:Value}{F:Nat->List (Value×Value)}{L:List (List UInt8)}{ar ap:Nat}{lv:Sl}{q c:Nat}{h:Trie VObj}{R:RV}{P:PV}{l:List Nd}
theorem d9Q (m)(hRi:R.i<4294967296)(H:At U h0 sv fo ar ap lv q c h R P)(hl:NdL U h0 lv l){n}(hi:l[R.i]?=some n)(r w):l9 (go (o8 D8 (m+4) 139 [.pointer (some ⟨ar,0,some 0⟩)]) ⟨c,h,r,w⟩) λx s=>(∃t,a2X n q=.ok t/\x=.ret (.tuple ⟨[.int .i64 (.ofNat t),.bool true]⟩)/\Fin U h0 sv fo ar ap lv q c h P (.ok {R with i:=R.i+1}) s)\/(∃p e,a2X n q=.er p e/\x=.ret (.tuple ⟨[.int .i64 (.ofNat 0),.bool false]⟩)/\Fin U h0 sv fo ar ap lv q c h P (.er p e) s):=by
 have hr:=H.hr;have hp:=H.hp;have a1:=H.r;have a2:=H.p;have a3:=H.ne;have a4:ap≠ar:=λe=>H.ne e.symm;have a5:ar≠c:=zy;have a6:ap≠c:=zy;have a7:ar≠c+1:=zy;have a8:ap≠c+1:=zy;have hlen:=hl.len.1;have e0:=S9 lv.a l.length lv.e;have hAg:AgU U h h0:=λi hi=>(H.u i hi).2.2.2;have hUc:∀i,U i->i<c:=λi hi=>(H.u i hi).1;have hn0:¬U c:=λhi=>uZ _ (hUc c hi);have hn1:¬U (c+1):=λhi=>zQ;have hn2:¬U (c+2):=λhi=>zQ;rw[e2e];have hinc:=J6 R.i hRi;obtain⟨b,p,g,cs,cur,ro,nl,hb,hg,hN,hT,e1,e2,e3,e4,e5,e6⟩:=hl.get hi;obtain⟨u1,u2,u3,u4⟩:=H.u b hb;have hG:=u4.trans hg;rw[hlen]at e1;have hlenn:=hN.len.1;have e0n:=S9 nl.a n.l.length nl.e;cases hi1:n.l[1]? with
  |none=>
   have hlt1:n.l.length<=1:=by simpa using hi1
   have d2:decide (n.l.length<2)=true:=zR;have d3:decide (1<n.l.length)=false:=zS;have eS:a2X n q=.er q 4:=by unfold a2X;rw[hi1]
   simp(disch:=try exact dz)only[c2q,hr,hp,I5,F8,a1g,a3g,V3,G72,hlen,hlenn,e0n,dlt,d2,d3,e1,e6,hG,↓gP,gY,gT];refine l9.done ?_;refine Or.inr ⟨_,_,eS,rfl,zV,λi hi h1 h2=>?_,R,H.setP zV (λi hi hp=>?_) ?_,λR1 e=>zk⟩;simp(disch:=first|assumption|omega)only[d9];simp(disch:=first|assumption|omega)only[d9];simp(disch:=first|assumption|omega)only[o7,F8,Rs.P]|some n1=>
   have hlt1:1<n.l.length:=(wM.1 hi1).1;have d2:decide (n.l.length<2)=false:=zS;have d3:decide (1<n.l.length)=true:=zR;obtain⟨b1,p1,g1,cs1,cur1,ro1,nl1,hb1,hg1,hN1,hT1,e11,e21,e31,e41,e51,e61⟩:=hN.get hi1;obtain⟨u11,u21,u31,u41⟩:=H.u b1 hb1;have hG1:=u41.trans hg1;rw[hlenn]at e11;cases q2:decide (n1.k=2)with
    |false=>
     have eS:a2X n q=.er n1.p 4:=by unfold a2X;rw[hi1];simp only[q2,V7]
     simp(disch:=try exact dz)only[c2q,hr,hp,I5,F8,a1g,a3g,V3,G72,hlen,hlenn,e0n,dlt,d2,d3,Y1,q2,e1,e6,hG,e11,e31,e41,e51,hG1,↓gP,gY,gT];refine l9.done ?_;refine Or.inr ⟨_,_,eS,rfl,zV,λi hi h1 h2=>?_,R,H.setP zV (λi hi hp=>?_) ?_,λR1 e=>zk⟩;simp(disch:=first|assumption|omega)only[d9];simp(disch:=first|assumption|omega)only[d9];simp(disch:=first|assumption|omega)only[o7,F8,Rs.P]|true=>
     cases q3:a3D n1.t with
      |none=>
       have eS:a2X n q=.er n1.p 24:=by unfold a2X;rw[hi1];simp only[q2,q3,U9]
       have eV:a2K n1.t=.tuple ⟨[.int .i64 (.ofNat 0),.bool false]⟩:=by unfold a2K;rw[q3]
       simp(disch:=try exact dz)only[c2q,hr,hp,I5,F8,V3,G72,hlen,hlenn,e0n,dlt,d2,Y1,q2,c2c,eV,e1,e6,hG,e11,e31,e41,e51,hG1,↓gP,gY,gT];refine l9.done ?_;refine Or.inr ⟨_,_,eS,rfl,zV,λi hi h1 h2=>?_,R,H.setP zV (λi hi hp=>?_) ?_,λR1 e=>zk⟩;simp(disch:=first|assumption|omega)only[d9];simp(disch:=first|assumption|omega)only[d9];simp(disch:=first|assumption|omega)only[o7,F8,Rs.P]|some t=>
       have eV:a2K n1.t=.tuple ⟨[.int .i64 (.ofNat t),.bool true]⟩:=by unfold a2K;rw[q3]
       cases hi2:n.l[2]? with
        |some n2=>
         have eS:a2X n q=.er n2.p 4:=by unfold a2X;rw[hi1];simp only[q2,q3,U9,hi2]
         have hlt2:2<n.l.length:=(wM.1 hi2).1;have d4:decide (2<n.l.length)=true:=zR;obtain⟨b2,p2,g2,cs2,cur2,ro2,nl2,hb2,hg2,hN2,hT2,e12,e22,e32,e42,e52,e62⟩:=hN.get hi2;obtain⟨u12,u22,u32,u42⟩:=H.u b2 hb2;have hG2:=u42.trans hg2;rw[hlenn]at e12;simp(disch:=try exact dz)only[c2q,hr,hp,I5,F8,a1g,a3g,V3,G72,hlen,hlenn,e0n,dlt,d2,d3,d4,Y1,q2,c2c,eV,e1,e6,hG,e11,e31,e41,e51,hG1,e12,e42,hG2,↓gP,gY,gT];refine l9.done ?_;refine Or.inr ⟨_,_,eS,rfl,zV,λi hi h1 h2=>?_,R,H.setP zV (λi hi hp=>?_) ?_,λR1 e=>zk⟩;simp(disch:=first|assumption|omega)only[d9];simp(disch:=first|assumption|omega)only[d9];simp(disch:=first|assumption|omega)only[o7,F8,Rs.P]|none=>
         have eS:a2X n q=.ok t:=by unfold a2X;rw[hi1];simp only[q2,q3,U9,hi2]
         have hlt2:n.l.length<=2:=by simpa using hi2
         have d4:decide (2<n.l.length)=false:=zS;simp(disch:=try exact dz)only[c2q,hr,I5,hlen,hlenn,e0n,dlt,d2,d4,Y1,q2,c2c,eV,hinc,e1,e6,hG,e11,e31,e41,e51,hG1,↓gP,gY,gT];refine l9.done ?_;refine Or.inl ⟨_,eS,rfl,zV,λi k1 k2 k3=>?_,_,H.setR zV (λi k1 k2=>?_) ?_,λR1 e=>zb⟩;simp(disch:=first|assumption|omega)only[d9];simp(disch:=first|assumption|omega)only[d9];simp(disch:=first|assumption|omega)only[o7,I5,hlen]
noncomputable def a9e (l:List Nd)(q:Nat)(R:RV):Rs:=match l[R.i]? with|none=>.er q 4|some n=>bcase (decide (n.k=2)) (bcase (decide ((a1t n.t 4294967295).2=0)) (.ok {R with i:=R.i+1,N:=(a1t n.t 4294967295).1}) (.er n.p (a1t n.t 4294967295).2)) (.er n.p 4)
theorem d5r (m)(hRi:R.i<4294967296)(H:At U h0 sv fo ar ap lv q c h R P)(hl:NdL U h0 lv l)(r w):l9 (go (o8 D8 (m+4) 148 [.pointer (some ⟨ar,0,some 0⟩),.int .i64 (.ofNat 32)]) ⟨c,h,r,w⟩) (EndR U h0 sv fo ar ap lv q c h P (a9e l q R)):=by have hr:=H.hr;have hp:=H.hp;have a1:=H.r;have a2:=H.p;have a3:=H.ne;have a4:ap≠ar:=λe=>H.ne e.symm;have a5:ar≠c:=zy;have a6:ap≠c:=zy;have a7:ar≠c+1:=zy;have a8:ap≠c+1:=zy;have hlen:=hl.len.1;have e0:=S9 lv.a l.length lv.e;have hAg:AgU U h h0:=λi hi=>(H.u i hi).2.2.2;have hUc:∀i,U i->i<c:=λi hi=>(H.u i hi).1;have hn0:¬U c:=λhi=>uZ _ (hUc c hi);have hn1:¬U (c+1):=λhi=>zQ;have hn2:¬U (c+2):=λhi=>zQ;rw[c9a];have hinc:=J6 R.i hRi;unfold a9e;cases hi:l[R.i]? with|none=>obtain⟨z,y,o1,o2,hm⟩:=a0Z (m+2) H hl hi;have hlt:l.length<=R.i:=za;have d1:decide (R.i<l.length)=false:=zS;simp(disch:=try exact dz)only[b3h,hm,hr,hp,I5,F8,a1g,a3g,V3,G72,hlen,e0,dlt,d1,↓gP,gY,gT];refine l9.done ⟨rfl,zV,λi hi h1 h2=>?_,R,H.setP zV (λi hi hp=>?_) ?_,λR1 e=>zk⟩;simp(disch:=first|assumption|omega)only[d9];simp(disch:=first|assumption|omega)only[d9];simp(disch:=first|assumption|omega)only[o7,F8,Rs.P]|some n=>obtain⟨z,y,o1,o2,nlm,hnm,hTm,hm⟩:=a1a (m+2) H hl hi;have hlt:R.i<l.length:=(wM.1 hi).1;have d1:decide (R.i<l.length)=true:=zR;obtain⟨b,p,g,cs,cur,ro,nl,hb,hg,hN,hT,e1,e2,e3,e4,e5,e6⟩:=hl.get hi;obtain⟨u1,u2,u3,u4⟩:=H.u b hb;have hG:=u4.trans hg;rw[hlen]at e1;simp only;cases q1:decide (n.k=2)with|false=>simp(disch:=try exact dz)only[b3h,hm,Y1,q1,hr,hp,I5,F8,a1g,a3g,V3,G72,hlen,e0,dlt,d1,e1,e4,hG,↓gP,gY,gT];refine l9.done ⟨rfl,zV,λi hi h1 h2=>?_,R,H.setP zV (λi hi hp=>?_) ?_,λR1 e=>zk⟩;simp(disch:=first|assumption|omega)only[d9];simp(disch:=first|assumption|omega)only[d9];simp(disch:=first|assumption|omega)only[o7,F8,Rs.P]|true=>have e186:=c9x (m+2) n.t hT;cases q2:decide ((a1t n.t 4294967295).2=0)with|false=>simp(disch:=try exact dz)only[b3h,hm,Y1,q1,q2,e186,hr,hp,I5,F8,V3,G72,↓gP,gY,gT,Nat.reduceAdd];refine l9.done ⟨rfl,zV,λi hi h1 h2=>?_,R,H.setP zV (λi hi hp=>?_) ?_,λR1 e=>zk⟩;simp(disch:=first|assumption|omega)only[d9];simp(disch:=first|assumption|omega)only[d9];simp(disch:=first|assumption|omega)only[o7,F8,Rs.P]|true=>simp(disch:=try exact dz)only[b3h,hm,Y1,q1,q2,e186,hr,I5,hinc,↓gP,gY,gT,Nat.reduceAdd];refine l9.done ?_;refine⟨rfl,zV,λi k1 k2 k3=>?_,_,H.setR zV (λi k1 k2=>?_) ?_,λR1 e=>zb⟩;simp(disch:=first|assumption|omega)only[d9];simp(disch:=first|assumption|omega)only[d9];simp(disch:=first|assumption|omega)only[o7,I5,hlen]
noncomputable def a9f (l:List Nd)(q:Nat)(R:RV):Rs:=match l[R.i]? with|none=>.er q 4|some n=>bcase (decide (n.k=2)) (bcase (decide ((a1t n.t 18446744073709551615).2=0)) (.ok {R with i:=R.i+1,N:=(a1t n.t 18446744073709551615).1}) (.er n.p (a1t n.t 18446744073709551615).2)) (.er n.p 4)
theorem d7j (m)(hRi:R.i<4294967296)(H:At U h0 sv fo ar ap lv q c h R P)(hl:NdL U h0 lv l)(r w):l9 (go (o8 D8 (m+4) 148 [.pointer (some ⟨ar,0,some 0⟩),.int .i64 (.ofNat 64)]) ⟨c,h,r,w⟩) (EndR U h0 sv fo ar ap lv q c h P (a9f l q R)):=by have hr:=H.hr;have hp:=H.hp;have a1:=H.r;have a2:=H.p;have a3:=H.ne;have a4:ap≠ar:=λe=>H.ne e.symm;have a5:ar≠c:=zy;have a6:ap≠c:=zy;have a7:ar≠c+1:=zy;have a8:ap≠c+1:=zy;have hlen:=hl.len.1;have e0:=S9 lv.a l.length lv.e;have hAg:AgU U h h0:=λi hi=>(H.u i hi).2.2.2;have hUc:∀i,U i->i<c:=λi hi=>(H.u i hi).1;have hn0:¬U c:=λhi=>uZ _ (hUc c hi);have hn1:¬U (c+1):=λhi=>zQ;have hn2:¬U (c+2):=λhi=>zQ;rw[c9a];have hinc:=J6 R.i hRi;unfold a9f;cases hi:l[R.i]? with|none=>obtain⟨z,y,o1,o2,hm⟩:=a0Z (m+2) H hl hi;have hlt:l.length<=R.i:=za;have d1:decide (R.i<l.length)=false:=zS;simp(disch:=try exact dz)only[b3h,hm,hr,hp,I5,F8,a1g,a3g,V3,G72,hlen,e0,dlt,d1,↓gP,gY,gT];refine l9.done ⟨rfl,zV,λi hi h1 h2=>?_,R,H.setP zV (λi hi hp=>?_) ?_,λR1 e=>zk⟩;simp(disch:=first|assumption|omega)only[d9];simp(disch:=first|assumption|omega)only[d9];simp(disch:=first|assumption|omega)only[o7,F8,Rs.P]|some n=>obtain⟨z,y,o1,o2,nlm,hnm,hTm,hm⟩:=a1a (m+2) H hl hi;have hlt:R.i<l.length:=(wM.1 hi).1;have d1:decide (R.i<l.length)=true:=zR;obtain⟨b,p,g,cs,cur,ro,nl,hb,hg,hN,hT,e1,e2,e3,e4,e5,e6⟩:=hl.get hi;obtain⟨u1,u2,u3,u4⟩:=H.u b hb;have hG:=u4.trans hg;rw[hlen]at e1;simp only;cases q1:decide (n.k=2)with|false=>simp(disch:=try exact dz)only[b3h,hm,Y1,q1,hr,hp,I5,F8,a1g,a3g,V3,G72,hlen,e0,dlt,d1,e1,e4,hG,↓gP,gY,gT];refine l9.done ⟨rfl,zV,λi hi h1 h2=>?_,R,H.setP zV (λi hi hp=>?_) ?_,λR1 e=>zk⟩;simp(disch:=first|assumption|omega)only[d9];simp(disch:=first|assumption|omega)only[d9];simp(disch:=first|assumption|omega)only[o7,F8,Rs.P]|true=>have e186:=b8k (m+2) n.t hT;cases q2:decide ((a1t n.t 18446744073709551615).2=0)with|false=>simp(disch:=try exact dz)only[b3h,hm,Y1,q1,q2,e186,hr,hp,I5,F8,V3,G72,↓gP,gY,gT,Nat.reduceAdd];refine l9.done ⟨rfl,zV,λi hi h1 h2=>?_,R,H.setP zV (λi hi hp=>?_) ?_,λR1 e=>zk⟩;simp(disch:=first|assumption|omega)only[d9];simp(disch:=first|assumption|omega)only[d9];simp(disch:=first|assumption|omega)only[o7,F8,Rs.P]|true=>simp(disch:=try exact dz)only[b3h,hm,Y1,q1,q2,e186,hr,I5,hinc,↓gP,gY,gT,Nat.reduceAdd];refine l9.done ?_;refine⟨rfl,zV,λi k1 k2 k3=>?_,_,H.setR zV (λi k1 k2=>?_) ?_,λR1 e=>zb⟩;simp(disch:=first|assumption|omega)only[d9];simp(disch:=first|assumption|omega)only[d9];simp(disch:=first|assumption|omega)only[o7,I5,hlen]
noncomputable def b0L (l:List Nd)(q:Nat)(R:RV):Rs:=match l[R.i]? with|none=>.er q 4|some n=>bcase (decide (n.k=2)) (bcase (beqBytes n.t [102,117,110,99]) (.ok {R with i:=R.i+1,A:=3}) (bcase (beqBytes n.t [101,120,116,101,114,110]) (.ok {R with i:=R.i+1,A:=4}) (.er n.p 12))) (.er n.p 4)
theorem e7T (m)(hRi:R.i<4294967296)(H:At U h0 sv fo ar ap lv q c h R P)(hl:NdL U h0 lv l)(r w):l9 (go (o8 D8 (m+4) 149 [.pointer (some ⟨ar,0,some 0⟩)]) ⟨c,h,r,w⟩) (EndR U h0 sv fo ar ap lv q c h P (b0L l q R)):=by have hr:=H.hr;have hp:=H.hp;have a1:=H.r;have a2:=H.p;have a3:=H.ne;have a4:ap≠ar:=λe=>H.ne e.symm;have a5:ar≠c:=zy;have a6:ap≠c:=zy;have a7:ar≠c+1:=zy;have a8:ap≠c+1:=zy;have hlen:=hl.len.1;have e0:=S9 lv.a l.length lv.e;have hAg:AgU U h h0:=λi hi=>(H.u i hi).2.2.2;have hUc:∀i,U i->i<c:=λi hi=>(H.u i hi).1;have hn0:¬U c:=λhi=>uZ _ (hUc c hi);have hn1:¬U (c+1):=λhi=>zQ;have hn2:¬U (c+2):=λhi=>zQ;rw[e2s];have hinc:=J6 R.i hRi;unfold b0L;cases hi:l[R.i]? with|none=>obtain⟨z,y,o1,o2,hm⟩:=a0Z (m+2) H hl hi;have hlt:l.length<=R.i:=za;have d1:decide (R.i<l.length)=false:=zS;simp(disch:=try exact dz)only[c1r,hm,hr,hp,I5,F8,a1g,a3g,V3,G72,hlen,e0,dlt,d1,↓gP,gY,gT,Nat.reduceAdd];refine l9.done ⟨rfl,zV,λi hi h1 h2=>?_,R,H.setP zV (λi hi hp=>?_) ?_,λR1 e=>zk⟩;simp(disch:=first|assumption|omega)only[d9];simp(disch:=first|assumption|omega)only[d9];simp(disch:=first|assumption|omega)only[o7,F8,Rs.P]|some n=>obtain⟨z,y,o1,o2,nlm,hnm,hTm,hm⟩:=a1a (m+2) H hl hi;have hlt:R.i<l.length:=(wM.1 hi).1;have d1:decide (R.i<l.length)=true:=zR;obtain⟨b,p,g,cs,cur,ro,nl,hb,hg,hN,hT,e1,e2,e3,e4,e5,e6⟩:=hl.get hi;obtain⟨u1,u2,u3,u4⟩:=H.u b hb;have hG:=u4.trans hg;rw[hlen]at e1;simp only;cases q1:decide (n.k=2)with|false=>simp(disch:=try exact dz)only[c1r,hm,Y1,q1,hr,hp,I5,F8,a1g,a3g,V3,G72,hlen,e0,dlt,d1,e1,e4,hG,↓gP,gY,gT,Nat.reduceAdd];refine l9.done ⟨rfl,zV,λi hi h1 h2=>?_,R,H.setP zV (λi hi hp=>?_) ?_,λR1 e=>zk⟩;simp(disch:=first|assumption|omega)only[d9];simp(disch:=first|assumption|omega)only[d9];simp(disch:=first|assumption|omega)only[o7,F8,Rs.P]|true=>cases q2:beqBytes n.t [102,117,110,99]with|true=>simp(disch:=try exact dz)only[c1r,hm,Y1,q1,q2,hr,I5,hinc,↓gP,gY,gT,Nat.reduceAdd];refine l9.done ?_;refine⟨rfl,zV,λi k1 k2 k3=>?_,_,H.setR zV (λi k1 k2=>?_) ?_,λR1 e=>zb⟩;simp(disch:=first|assumption|omega)only[d9];simp(disch:=first|assumption|omega)only[d9];simp(disch:=first|assumption|omega)only[o7,I5,hlen]|false=>cases q3:beqBytes n.t [101,120,116,101,114,110]with|true=>simp(disch:=try exact dz)only[c1r,hm,Y1,q1,q2,q3,hr,I5,hinc,↓gP,gY,gT,Nat.reduceAdd];refine l9.done ?_;refine⟨rfl,zV,λi k1 k2 k3=>?_,_,H.setR zV (λi k1 k2=>?_) ?_,λR1 e=>zb⟩;simp(disch:=first|assumption|omega)only[d9];simp(disch:=first|assumption|omega)only[d9];simp(disch:=first|assumption|omega)only[o7,I5,hlen]|false=>simp(disch:=try exact dz)only[c1r,hm,Y1,q1,q2,q3,hr,hp,I5,F8,V3,G72,↓gP,gY,gT,Nat.reduceAdd];refine l9.done ⟨rfl,zV,λi hi h1 h2=>?_,R,H.setP zV (λi hi hp=>?_) ?_,λR1 e=>zk⟩;simp(disch:=first|assumption|omega)only[d9];simp(disch:=first|assumption|omega)only[d9];simp(disch:=first|assumption|omega)only[o7,F8,Rs.P]
end
end Go.Proofs.YtmomonnlmbljoaaGreatDoor
end
section
namespace Go.Proofs.YtmomonnlmbljoaaGreatDoor
open Go.V Go.RowKit Go.Shelf Go.Proofs
variable {mL:Int}
attribute [local congr] y7 x9 A8 A7 D5 z8 E5 G8 G7
theorem Fin.out {U h0 sv fo ar ap lv q c c1 c'}{h h1 h':Trie VObj}{P rs r' w'}(H:Fin U h0 sv fo ar ap lv q c1 h1 P rs ⟨c',h',r',w'⟩)(hc:c<=c1)(hs:∀i,i<c->i≠ar->i≠ap->h1.get i=h.get i):c<=c'/\∀i,i<c->i≠ar->i≠ap->h'.get i=h.get i:=⟨vQ hc H.le,λi k1 k2 k3=>(H.same i (wD k1 hc) k2 k3).trans (hs i k1 k2 k3)⟩
section
variable {U:Nat->Prop}{h0:Trie VObj}{sv fo:Value}{F:Nat->List (Value×Value)}{L:List (List UInt8)}{ar ap:Nat}{lv:Sl}{q c:Nat}{h:Trie VObj}{R:RV}{P:PV}{l:List Nd}
noncomputable def a6C (F:Nat->List (Value×Value))(l:List Nd)(q:Nat)(R:RV):Rs:=match l[R.i]? with|none=>.ok R|some n=>bcase (a0A n.k (a0V n.l) [114,101,115,117,108,116]) (match a2X n q with|.ok t=>.ok {R with i:=R.i+1,k:=1,v:=t,bi:=0}|.er p e=>.er p e) (bcase (a0A n.k (a0V n.l) [116,121,112,101]) (a8E (X6 (F 0)) (λR k=>{R with bi:=k}) l q {R with k:=2}) (.ok R))
noncomputable def a6N (l:List Nd)(R:RV):RV:=match l[R.i]? with|none=>R|some n=>bcase (decide (n.k=2)&&a0O n.t) {R with nm:=n.t,i:=R.i+1} R
theorem e9F (E:Env U h0 sv F L)(m)(hRi:R.i+1<4294967296)(H:At U h0 sv fo ar ap lv q c h R P)(hl:NdL U h0 lv l)(r w):l9 (go (o8 D8 (m+7) 140 [.pointer (some ⟨ar,0,some 0⟩)]) ⟨c,h,r,w⟩) (EndR U h0 sv fo ar ap lv q c h P (a6C F l q (a6N l R))):=by
 have hr:=H.hr;have hp:=H.hp;have a1:=H.r;have a2:=H.p;have a3:=H.ne;have a4:ap≠ar:=λe=>H.ne e.symm;have a5:ar≠c:=zy;have a6:ap≠c:=zy;have a7:ar≠c+1:=zy;have a8:ap≠c+1:=zy;have hlen:=hl.len.1;have e0:=S9 lv.a l.length lv.e;have hAg:AgU U h h0:=λi hi=>(H.u i hi).2.2.2;have hUc:∀i,U i->i<c:=λi hi=>(H.u i hi).1;have hn0:¬U c:=λhi=>uZ _ (hUc c hi);have hn1:¬U (c+1):=λhi=>zQ;have hn2:¬U (c+2):=λhi=>zQ;rw[d8s];have hinc:=J6 R.i zy;apply d1D (Q:=λK=>∀(R1:RV) c1 h1 r1 w1,R1.i<4294967296->At U h0 sv fo ar ap lv q c1 h1 R1 P->c<=c1->(∀i,i<c->i≠ar->i≠ap->h1.get i=h.get i)->l9 (a1L (go (o8 D8 (m+6) 138 [.pointer (some ⟨ar,0,some 0⟩)]) ⟨c1,h1,r1,w1⟩) K noP) (EndR U h0 sv fo ar ap lv q c h P (a6C F l q R1)));intro key;unfold a6N;cases hi:l[R.i]? with|none=>obtain⟨z,y,o1,o2,hm⟩:=a0Z (m+5) H hl hi;simp(disch:=try exact dz)only[c6E,hm,↓gP,gY];refine key R _ _ _ _ zy (H.to ?_ λi hi=>?_) ?_ λi k1 k2 k3=>?_;omega;simp(disch:=first|assumption|omega)only[d9];omega;simp(disch:=first|assumption|omega)only[d9]|some n=>obtain⟨z,y,o1,o2,nlm,hnm,hTm,hm⟩:=a1a (m+5) H hl hi;simp only;cases q1:decide (n.k=2)with|false=>simp(disch:=try exact dz)only[c6E,hm,Y1,q1,↓gP,gY,gT];refine key R _ _ _ _ zy (H.to ?_ λi hi=>?_) ?_ λi k1 k2 k3=>?_;omega;simp(disch:=first|assumption|omega)only[d9];omega;simp(disch:=first|assumption|omega)only[d9]|true=>have e107:=d8A (m+5) n.t hTm;cases q2:a0O n.t with|false=>simp(disch:=try exact dz)only[c6E,hm,Y1,q1,q2,e107,↓gP,gY,gT];refine key R _ _ _ _ zy (H.to ?_ λi hi=>?_) ?_ λi k1 k2 k3=>?_;omega;simp(disch:=first|assumption|omega)only[d9];omega;simp(disch:=first|assumption|omega)only[d9]|true=>simp(disch:=try exact dz)only[c6E,hm,Y1,q1,q2,e107,hr,I5,hinc,↓gP,gY];refine key {R with nm:=n.t,i:=R.i+1} _ _ _ _ zV (H.setR ?_ (λi hi hp=>?_) ?_) ?_ λi k1 k2 k3=>?_;omega;simp(disch:=first|assumption|omega)only[d9];simp(disch:=first|assumption|omega)only[o7,I5,hlen];omega;simp(disch:=first|assumption|omega)only[d9]
 intro R c h r w hRi H hc0 hs0;refine l9.mono (Q:=EndR U h0 sv fo ar ap lv q c h P (a6C F l q R)) ?_ λx s hq=>⟨hq.x,hq.f.of_to hc0 hs0⟩;have hr:=H.hr;have hp:=H.hp;have a1:=H.r;have a2:=H.p;have a3:=H.ne;have a4:ap≠ar:=λe=>H.ne e.symm;have a5:ar≠c:=zy;have a6:ap≠c:=zy;have a7:ar≠c+1:=zy;have a8:ap≠c+1:=zy;have hlen:=hl.len.1;have e0:=S9 lv.a l.length lv.e;have hAg:AgU U h h0:=λi hi=>(H.u i hi).2.2.2;have hUc:∀i,U i->i<c:=λi hi=>(H.u i hi).1;have hn0:¬U c:=λhi=>uZ _ (hUc c hi);have hn1:¬U (c+1):=λhi=>zQ;have hn2:¬U (c+2):=λhi=>zQ;unfold a6C;cases hi:l[R.i]? with|none=>obtain⟨z,y,o1,o2,hm⟩:=a0Z (m+5) H hl hi;simp(disch:=try exact dz)only[hm,↓gP,gY,Nat.reduceAdd];refine l9.done ⟨rfl,zV,λi hi h1 h2=>?_,R,H.to zV (λi hi=>?_),λR1 e=>zb⟩;simp(disch:=first|assumption|omega)only[d9];simp(disch:=first|assumption|omega)only[d9]|some n=>obtain⟨z,y,o1,o2,nlm,hnm,hTm,hm⟩:=a1a (m+5) H hl hi;obtain⟨z2,hz2⟩:=b1z hnm.hd (m+5);have hz3:=λo1 o2 o3 o4 r w W=>hz2 (c+1+1) (V.upd (V.upd (V.upd (V.upd h c o1) c o2) (c+1) o3) (c+1) o4) r w n.k n.p n.t W (λi hi=>by have:=hUc i hi;omega) ((((hAg.upd hn0).upd hn0).upd hn1).upd hn1);simp only;cases q1:a0A n.k (a0V n.l) [114,101,115,117,108,116]with|true=>simp(disch:=try exact dz)only[hm,hz3,q1,↓gP,gY,Nat.reduceAdd];refine l9.bindC (d9Q (m+2) hRi (H.to ?_ λi hi=>?_) hl hi _ _) λx s hq=>?_;omega;simp(disch:=first|assumption|omega)only[d9];obtain⟨c',h',r',w'⟩:=s;rcases hq with⟨t,eV,rfl,hF⟩|⟨p,e,eV,rfl,hF⟩;obtain⟨hc,hs0⟩:=hF.out (c:=c) (h:=h) zy (λi k1 k2 k3=>yA);obtain⟨R',H',hR⟩:=hF.at';obtain rfl:=hR _ rfl;have H2:At U h0 sv fo ar ap lv q c' h' _ P:=H';have hr':=H2.hr;have c1:=H2.r;rw[eV];simp(disch:=try exact dz)only[hr',I5,↓gP,gY,Nat.reduceAdd];refine l9.done ?_;refine⟨rfl,zV,λi k1 k2 k3=>?_,_,H2.setR (wQ _) (λi k1 k2=>?_) ?_,λR1 e=>zb⟩;have:=hs0 i k1 k2 k3;simp(disch:=first|assumption|omega)only[d9];exact this;simp(disch:=first|assumption|omega)only[d9];simp(disch:=first|assumption|omega)only[o7,I5,hlen];obtain⟨hc,hs0⟩:=hF.out (c:=c) (h:=h) zy (λi k1 k2 k3=>yA);obtain⟨R',H',hR⟩:=hF.at';have hr':=H'.hr;have c1:=H'.r;rw[eV];simp(disch:=try exact dz)only[hr',I5,↓gP,gY,Nat.reduceAdd];refine l9.done ?_;refine⟨rfl,zV,λi k1 k2 k3=>?_,{R' with k:=1,v:=0,bi:=0},H'.setR (wQ _) (λi k1 k2=>?_) ?_,λR1 e=>zk⟩;have:=hs0 i k1 k2 k3;simp(disch:=first|assumption|omega)only[d9];exact this;simp(disch:=first|assumption|omega)only[d9];simp(disch:=first|assumption|omega)only[o7,I5,hlen]|false=>cases q2:a0A n.k (a0V n.l) [116,121,112,101]with|false=>simp(disch:=try exact dz)only[hm,hz3,q1,q2,↓gP,gY,Nat.reduceAdd];refine l9.done ⟨rfl,zV,λi hi h1 h2=>?_,R,H.to zV (λi hi=>?_),λR1 e=>zb⟩;simp(disch:=first|assumption|omega)only[d9];simp(disch:=first|assumption|omega)only[d9]|true=>simp(disch:=try exact dz)only[hm,hz3,q1,q2,hr,I5,↓gP,gY,Nat.reduceAdd];refine l9.bindC (d7m (R:={R with k:=2}) E m hRi (H.setR ?_ (λi hi hp=>?_) ?_) hl _ _) λx s hq=>?_;omega;simp(disch:=first|assumption|omega)only[d9];simp(disch:=first|assumption|omega)only[o7,I5,hlen];obtain⟨rfl,hF⟩:=hq;simp(disch:=try exact dz)only[gY];refine l9.done ⟨rfl,hF.of_to zy λi k1 k2 k3=>?_⟩;simp(disch:=first|assumption|omega)only[d9]
end
end Go.Proofs.YtmomonnlmbljoaaGreatDoor
end
section
namespace Go.Proofs.YtmomonnlmbljoaaGreatDoor
open Go.V Go.RowKit Go.Shelf Go.Proofs
variable {mL:Int}
attribute [local congr] y7 x9 A8 A7 D5 z8 E5 G8 G7
theorem d6j (T):(a4z T).1<=4294967295:=by unfold a4z;cases(a1w T).2.2 with|false=>rw[V7];decide|true=>rw[U9];cases(a1w T).2.1 with|true=>rw[uY,U9];decide|false=>rw[vJ];cases h:decide (4294967295<(a1w T).1)with|true=>rw[U9];decide|false=>rw[V7];rw[vX]at h;show(a1w T).1<=_;omega
theorem d5z (T gr)(hg:gr<18446744073709551616):(a1t T gr).1<18446744073709551616:=by have hl:=b4k (a2n T);unfold a1t;cases(a1w (a2n T)).2.2 with|false=>rw[V7];decide|true=>rw[U9];cases((a1w (a2n T)).2.1||bcase (a9A T) (decide (gr/2+1<(a1w (a2n T)).1)) (decide (gr<(a1w (a2n T)).1)))with|true=>rw[U9];decide|false=>rw[V7];cases a9A T with|true=>rw[U9];exact uR sU hg|false=>rw[V7];exact hl
theorem c1k {T W}(h:a0y T W=true):W.length<=T.length:=by unfold a0y at h;rw[wK]at h;exact vS h.1
theorem b8N (T:List UInt8)(n)(h:T.length<900000):(H9 T n).length<900000:=by rw[a0D,uq];omega
noncomputable def a3t (l:List Nd)(R:RV):Rs:=match l[R.i]? with|none=>.ok R|some n=>bcase (decide (n.k=2)) (bcase (a0y n.t [111,102,102,115,101,116,61]) (bcase (decide ((a4z (H9 n.t 7)).2=0)) (.ok {R with i:=R.i+1,N:=(a4z (H9 n.t 7)).1}) (.er n.p (a4z (H9 n.t 7)).2)) (.ok R)) (.ok R)
noncomputable def a8j (l:List Nd)(R:RV):Rs:=match l[R.i]? with|none=>.ok R|some n=>bcase (decide (n.k=2)) (bcase (a0y n.t [97,108,105,103,110,61]) (bcase (decide ((a1t (H9 n.t 6) 18446744073709551615).2=0)) (match a6k (a1t (H9 n.t 6) 18446744073709551615).1 with|some i=>.ok {R with i:=R.i+1,A:=i}|none=>.er n.p 4) (.er n.p (a1t (H9 n.t 6) 18446744073709551615).2)) (.ok R)) (.ok R)
section
variable {U:Nat->Prop}{h0:Trie VObj}{sv fo:Value}{F:Nat->List (Value×Value)}{L:List (List UInt8)}{ar ap:Nat}{lv:Sl}{q c:Nat}{h:Trie VObj}{R:RV}{P:PV}{l:List Nd}
theorem d0D {fd l q R R'}(h:a6s fd l q R=.ok R'):R'.i<=R.i+1:=by
 unfold a6s at h;cases qi:isI l R.i with
  |true=>rw[qi,U9]at h;cases q2:N9 fd l q R.i with|ok k=>rw[q2]at h;cases h;exact wQ _|er p e=>rw[q2]at h;cases h
  |false=>rw[qi,V7]at h;cases h;exact vv _
noncomputable def b7C (F:Nat→List (Value×Value)) (al:Nat) (l:List Nd) (q:Nat) (R:RV):Rs:=(a6s (X6 (F 3)) l q { R with A:=al }).then fun R1=>(a3t l R1).then fun R2=>a8j l R2
theorem e7Y (E:Env U h0 sv F L) (m) (hRi:R.i+2<4294967296) {al} (hal:Z8 a0K (.ofNat R.op)=some al) (H:At U h0 sv fo ar ap lv q c h R P) (hl:NdL U h0 lv l) (r w) :
 l9 (go (o8 D8 (m+8) 147 [.pointer (some ⟨ar, 0,some 0⟩)]) ⟨c,h,r,w⟩) (EndR U h0 sv fo ar ap lv q c h P (b7C F al l q R)):=by
 have hr:=H.hr
 have hp:=H.hp
 have a1:=H.r
 have a2:=H.p
 have a3:=H.ne
 have a4:ap≠ar:=fun e=>H.ne e.symm
 have a5:ar≠c:=zy
 have a6:ap≠c:=zy
 have a7:ar≠c+1:=zy
 have a8:ap≠c+1:=zy
 have hlen:=hl.len.1
 have e0:=S9 lv.a l.length lv.e
 have hAg:AgU U h h0:=fun i hi=>(H.u i hi).2.2.2
 have hUc:∀ i,U i→i<c:=fun i hi=>(H.u i hi).1
 have hn0:¬ U c:=fun hi=>uZ _ (hUc c hi)
 have hn1:¬ U (c+1):=fun hi=>yG
 have hn2:¬ U (c+2):=fun hi=>yG
 rw [e1k]
 have e94:=e6p (m+6) R.op al hal
 simp (disch:=try exact dz) only [b7m,hr,I5,e94, ↓gP,gY,Nat.reduceAdd]
 refine l9.bindC (c3a (R:={ R with A:=al }) E (m+1) (Or.inr ⟨3,zu,rfl,rfl⟩) (H.setR ?_ (fun i hi hp=>?_) ?_) hl _ _) fun x s hq=>?_
 · omega
 · simp (disch:=first | assumption | omega) only [d9]
 · simp (disch:=first | assumption | omega) only [o7,I5,hlen]
 obtain ⟨rfl,hF⟩:=hq
 obtain ⟨c',h',r',w'⟩:=s
 unfold b7C
 generalize hm:a6s (X6 (F 3)) l q { R with A:=al }=rs at hF ⊢
 obtain ⟨hc,hs0⟩:=hF.out (c:=c) (h:=h) zy (fun i k1 k2 k3=>by simp (disch:=first | assumption | omega) only [d9])
 cases rs with
 | er p e=>
   simp (disch:=try exact dz) only [Rs.b, ↓gP,gY,gT]
   exact l9.done ⟨rfl,⟨zO,hs0,hF.at'⟩⟩
 | ok R1=>
   obtain ⟨R',H',hR⟩:=hF.at'
   obtain rfl:=hR _ rfl
   have H2:At U h0 sv fo ar ap lv q c' h' R' P:=H'
   have hb:R'.i+1<4294967296:=by
    have hle:=d0D hm
    dsimp only at hle
    omega
   simp (disch:=try exact dz) only [Rs.b, ↓gP,gY,gT]
   refine l9.mono (Q:=EndR U h0 sv fo ar ap lv q c' h' P ((a3t l R').then fun R1=>a8j l R1)) ?_ fun x s hq=>⟨hq.x,hq.f.of_to hc hs0⟩
   have hr:=H2.hr
   have hp:=H2.hp
   have a1:=H2.r
   have a2:=H2.p
   have a3:=H2.ne
   have a4:ap≠ar:=fun e=>H2.ne e.symm
   have a5:ar≠c':=zy
   have a6:ap≠c':=zy
   have a7:ar≠c'+1:=zy
   have a8:ap≠c'+1:=zy
   have hlen:=hl.len.1
   have e0:=S9 lv.a l.length lv.e
   have hAg:AgU U h' h0:=fun i hi=>(H2.u i hi).2.2.2
   have hUc:∀ i,U i→i<c':=fun i hi=>(H2.u i hi).1
   have hn0:¬ U c':=fun hi=>uZ _ (hUc c' hi)
   have hn1:¬ U (c'+1):=fun hi=>yG
   have hn2:¬ U (c'+2):=fun hi=>yG
   have hinc:=J6 R'.i zy
   apply d1D (Q:=fun K=>∀ (R1:RV) c1 h1 r1 w1,R1.i<4294967296→At U h0 sv fo ar ap lv q c1 h1 R1 P→c'≤c1→(∀ i,i<c'→i≠ar→i≠ap→h1.get i=h'.get i)→l9 (a1L (go (o8 D8 (m+7) 138 [.pointer (some ⟨ar, 0,some 0⟩)]) ⟨c1,h1,r1,w1⟩) K noP) (EndR U h0 sv fo ar ap lv q c' h' P (a8j l R1)))
   · intro key
     unfold a3t Rs.then
     cases hi:l[R'.i]? with
     | none=>
       obtain ⟨z,y,o1,o2,hm⟩:=a0Z (m+6) H2 hl hi
       simp (disch:=try exact dz) only [hm, ↓gP,gY]
       refine key R' _ _ _ _ zy (H2.to ?_ fun i hi=>?_) ?_ fun i k1 k2 k3=>?_
       · omega
       · simp (disch:=first | assumption | omega) only [d9]
       · omega
       · simp (disch:=first | assumption | omega) only [d9]
     | some n=>
       obtain ⟨z,y,o1,o2,nlm,hnm,hTm,hm⟩:=a1a (m+6) H2 hl hi
       simp only
       cases q1:decide (n.k=2) with
       | false=>
         simp (disch:=try exact dz) only [hm,Y1,q1, ↓gP,gY]
         refine key R' _ _ _ _ zy (H2.to ?_ fun i hi=>?_) ?_ fun i k1 k2 k3=>?_
         · omega
         · simp (disch:=first | assumption | omega) only [d9]
         · omega
         · simp (disch:=first | assumption | omega) only [d9]
       | true=>
       cases q2:a0y n.t [111, 102, 102, 115, 101, 116, 61] with
       | false=>
         simp (disch:=try exact dz) only [hm,Y1,q1,b2r,q2, ↓gP,gY]
         refine key R' _ _ _ _ zy (H2.to ?_ fun i hi=>?_) ?_ fun i k1 k2 k3=>?_
         · omega
         · simp (disch:=first | assumption | omega) only [d9]
         · omega
         · simp (disch:=first | assumption | omega) only [d9]
       | true=>
       have hsl:=a0r n.t .i64 7 (c1k q2)
       have hT7:=b8N n.t 7 hTm
       have e81:=e5x (m+6) (H9 n.t 7) hT7
       cases q3:decide ((a4z (H9 n.t 7)).2=0) with
       | false=>
         simp (disch:=try exact dz) only [b7m,hm,Y1,q1,b2r,q2,hsl,e81,q3,hr,hp,I5,F8,V3,G72, ↓gP,gY,gT,Nat.reduceAdd]
         refine l9.done ?_
         refine ⟨rfl,zO,fun i hi h1 h2=>?_,R',H2.setP zO (fun i hi hp=>?_) ?_,fun R1 e=>zk⟩
         · simp (disch:=first | assumption | omega) only [d9]
         · simp (disch:=first | assumption | omega) only [d9]
         · simp (disch:=first | assumption | omega) only [o7,F8,Rs.P]
       | true=>
         have hcv:Q0 .u64 (Int.ofNat (a4z (H9 n.t 7)).1)=Int.ofNat (a4z (H9 n.t 7)).1:=d4q _ (by have:=d6j (H9 n.t 7); omega)
         simp (disch:=try exact dz) only [b7m,hm,Y1,q1,b2r,q2,hsl,e81,q3,hcv,hr,I5,hinc, ↓gP,gY,gT,Nat.reduceAdd]
         refine key { R' with i:=R'.i+1,N:=(a4z (H9 n.t 7)).1 } _ _ _ _ zO (H2.setR ?_ (fun i hi hp=>?_) ?_) ?_ fun i k1 k2 k3=>?_
         · omega
         · simp (disch:=first | assumption | omega) only [d9]
         · simp (disch:=first | assumption | omega) only [o7,I5,hlen]
         · omega
         · simp (disch:=first | assumption | omega) only [d9]
   · intro R c h r w hRi H hc0 hs0
     refine l9.mono (Q:=EndR U h0 sv fo ar ap lv q c h P (a8j l R)) ?_ fun x s hq=>⟨hq.x,hq.f.of_to hc0 hs0⟩
     have hr:=H.hr
     have hp:=H.hp
     have a1:=H.r
     have a2:=H.p
     have a3:=H.ne
     have a4:ap≠ar:=fun e=>H.ne e.symm
     have a5:ar≠c:=zy
     have a6:ap≠c:=zy
     have a7:ar≠c+1:=zy
     have a8:ap≠c+1:=zy
     have hlen:=hl.len.1
     have e0:=S9 lv.a l.length lv.e
     have hAg:AgU U h h0:=fun i hi=>(H.u i hi).2.2.2
     have hUc:∀ i,U i→i<c:=fun i hi=>(H.u i hi).1
     have hn0:¬ U c:=fun hi=>uZ _ (hUc c hi)
     have hn1:¬ U (c+1):=fun hi=>yG
     have hn2:¬ U (c+2):=fun hi=>yG
     have hinc:=J6 R.i hRi
     unfold a8j
     cases hi:l[R.i]? with
     | none=>
       obtain ⟨z,y,o1,o2,hm⟩:=a0Z (m+6) H hl hi
       simp (disch:=try exact dz) only [hm, ↓gP,gY]
       refine l9.done ?_
       refine ⟨rfl,zO,fun i hi h1 h2=>?_,R,H.to zO (fun i hi=>?_),fun R1 e=>by cases e; rfl⟩
       · simp (disch:=first | assumption | omega) only [d9]
       · simp (disch:=first | assumption | omega) only [d9]
     | some n=>
       obtain ⟨z,y,o1,o2,nlm,hnm,hTm,hm⟩:=a1a (m+6) H hl hi
       simp only
       cases q1:decide (n.k=2) with
       | false=>
         simp (disch:=try exact dz) only [hm,Y1,q1, ↓gP,gY]
         refine l9.done ?_
         refine ⟨rfl,zO,fun i hi h1 h2=>?_,R,H.to zO (fun i hi=>?_),fun R1 e=>by cases e; rfl⟩
         · simp (disch:=first | assumption | omega) only [d9]
         · simp (disch:=first | assumption | omega) only [d9]
       | true=>
       cases q2:a0y n.t [97, 108, 105, 103, 110, 61] with
       | false=>
         simp (disch:=try exact dz) only [hm,Y1,q1,b2r,q2, ↓gP,gY]
         refine l9.done ?_
         refine ⟨rfl,zO,fun i hi h1 h2=>?_,R,H.to zO (fun i hi=>?_),fun R1 e=>by cases e; rfl⟩
         · simp (disch:=first | assumption | omega) only [d9]
         · simp (disch:=first | assumption | omega) only [d9]
       | true=>
       have hsl:=a0r n.t .i64 6 (c1k q2)
       have hT6:=b8N n.t 6 hTm
       have e186:=b8k (m+6) (H9 n.t 6) hT6
       have hv:=d5z (H9 n.t 6) 18446744073709551615 zu
       cases q3:decide ((a1t (H9 n.t 6) 18446744073709551615).2=0) with
       | false=>
         simp (disch:=try exact dz) only [b7m,hm,Y1,q1,b2r,q2,hsl,e186,q3,hr,hp,I5,F8,V3,G72, ↓gP,gY,gT]
         refine l9.done ?_
         refine ⟨rfl,zO,fun i hi h1 h2=>?_,R,H.setP zO (fun i hi hp=>?_) ?_,fun R1 e=>zk⟩
         · simp (disch:=first | assumption | omega) only [d9]
         · simp (disch:=first | assumption | omega) only [d9]
         · simp (disch:=first | assumption | omega) only [o7,F8,Rs.P]
       | true=>
       have e187:=e1L (m+6) _ hv
       have hpop:=d1C _ hv
       cases q4:a6k (a1t (H9 n.t 6) 18446744073709551615).1 with
       | none=>
         rw [q4] at hpop
         have hpop':decide (pop (a1t (H9 n.t 6) 18446744073709551615).1=1)=false:=hpop
         simp (disch:=try exact dz) only [b7m,hm,Y1,q1,b2r,q2,hsl,e186,q3,e187,hpop',hr,hp,I5,F8,V3,G72, ↓gP,gY,gT]
         refine l9.done ?_
         refine ⟨rfl,zO,fun i hi h1 h2=>?_,R,H.setP zO (fun i hi hp=>?_) ?_,fun R1 e=>zk⟩
         · simp (disch:=first | assumption | omega) only [d9]
         · simp (disch:=first | assumption | omega) only [d9]
         · simp (disch:=first | assumption | omega) only [o7,F8,Rs.P]
       | some j=>
         rw [q4] at hpop
         have hpop':decide (pop (a1t (H9 n.t 6) 18446744073709551615).1=1)=true:=hpop
         have e188:=d8B (m+6) _ j q4
         simp (disch:=try exact dz) only [b7m,hm,Y1,q1,b2r,q2,hsl,e186,q3,e187,hpop',e188,hr,I5,hinc, ↓gP,gY,gT,Nat.reduceAdd]
         refine l9.done ?_
         refine ⟨rfl,zO,fun i k1 k2 k3=>?_,_,H.setR zO (fun i k1 k2=>?_) ?_,fun R1 e=>by cases e; rfl⟩
         · simp (disch:=first | assumption | omega) only [d9]
         · simp (disch:=first | assumption | omega) only [d9]
         · simp (disch:=first | assumption | omega) only [o7,I5,hlen]
end
end Go.Proofs.YtmomonnlmbljoaaGreatDoor
end
