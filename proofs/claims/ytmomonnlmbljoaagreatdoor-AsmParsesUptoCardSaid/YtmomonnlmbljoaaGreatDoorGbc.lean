import Derived.Test.YtmomonnlmbljoaaGreatDoorGbb
set_option maxRecDepth 1000000
set_option maxHeartbeats 4000000
set_option linter.unusedVariables false
set_option linter.unusedSimpArgs false
noncomputable section
namespace Go.Proofs.YtmomonnlmbljoaaGreatDoor
open Go.V Go.RowKit Go.Shelf Go.Proofs
variable {mL:Int}
section
attribute [local congr] q9 x8 A8 z8 D5 x9 D6 D8 D7
def a3e (n:Nd)(q:Nat):Ix:=match n.l[1]? with|none=>.er q 4|some n1=>bcase (decide (n1.k=2)) (match a6v n1.t with|none=>.er n1.p 24|some t=>match n.l[2]? with|some n2=>.er n2.p 4|none=>.ok t) (.er n1.p 4)
section
variable {U:Nat->Prop}{h0:Trie VObj}{sv fo:Value}{F:Nat->List (Value×Value)}{L:List (List UInt8)}{ar ap:Nat}{lv:Sl}{q c:Nat}{h:Trie VObj}{R:RV}{P:PV}{l:List Nd}
theorem e1D (m)(hRi:R.i<4294967296)(H:At U h0 sv fo ar ap lv q c h R P)(hl:NdL U h0 lv l){n}(hi:l[R.i]?=some n)(r w):l9 (go (o8 A9 (m+4) 139 [.pointer (some ⟨ar,0,some 0⟩)]) ⟨c,h,r,w⟩) λx s=>(∃t,a3e n q=.ok t/\x=.ret (.tuple ⟨[.int .i64 (.ofNat t),.bool true]⟩)/\Fin U h0 sv fo ar ap lv q c h P (.ok {R with i:=R.i+1}) s)\/(∃p e,a3e n q=.er p e/\x=.ret (.tuple ⟨[.int .i64 (.ofNat 0),.bool false]⟩)/\Fin U h0 sv fo ar ap lv q c h P (.er p e) s):=by
 have hr:=H.hr;have hp:=H.hp;have a1:=H.r;have a2:=H.p;have a3:=H.ne;have a4:ap≠ar:=λe=>H.ne e.symm;have a5:ar≠c:=zy;have a6:ap≠c:=zy;have a7:ar≠c+1:=zy;have a8:ap≠c+1:=zy;have hlen:=hl.len.1;have e0:=U7 lv.a l.length lv.e;have hAg:AgU U h h0:=λi hi=>(H.u i hi).2.2.2;have hUc:∀i,U i->i<c:=λi hi=>(H.u i hi).1;have hn0:¬U c:=λhi=>vJ _ (hUc c hi);have hn1:¬U (c+1):=λhi=>zP;have hn2:¬U (c+2):=λhi=>zP;rw[d8f];have hinc:=G9 R.i hRi;obtain⟨b,p,g,cs,cur,ro,nl,hb,hg,hN,hT,e1,e2,e3,e4,e5,e6⟩:=hl.get hi;obtain⟨u1,u2,u3,u4⟩:=H.u b hb;have hG:=u4.trans hg;rw[hlen]at e1;have hlenn:=hN.len.1;have e0n:=U7 nl.a n.l.length nl.e;cases hi1:n.l[1]? with
  |none=>
   have hlt1:n.l.length<=1:=zu;have d2:decide (n.l.length<2)=true:=zQ;have d3:decide (1<n.l.length)=false:=zT;have eS:a3e n q=.er q 4:=by grind[a3e]
   simp(disch:=try exact dz)only[c2R,hr,hp,J9,H7,a1a,a3b,X5,G72,hlen,hlenn,e0n,X6,d2,d3,e1,e6,hG,↓gP,gY,gT];refine l9.done ?_;refine Or.inr ⟨_,_,eS,rfl,zm,λi hi h1 h2=>?_,R,H.setP zm (λi hi hp=>?_) ?_,λR1 e=>zi⟩;grind[d9];grind[d9];grind[o7,H7,Rs.P]|some n1=>
   have hlt1:1<n.l.length:=(xC.1 hi1).1;have d2:decide (n.l.length<2)=false:=zT;have d3:decide (1<n.l.length)=true:=zQ;obtain⟨b1,p1,g1,cs1,cur1,ro1,nl1,hb1,hg1,hN1,hT1,e11,e21,e31,e41,e51,e61⟩:=hN.get hi1;obtain⟨u11,u21,u31,u41⟩:=H.u b1 hb1;have hG1:=u41.trans hg1;rw[hlenn]at e11;cases q2:decide (n1.k=2)with
    |false=>
     have eS:a3e n q=.er n1.p 4:=by grind[a3e,F7]
     simp(disch:=try exact dz)only[c2R,hr,hp,J9,H7,a1a,a3b,X5,G72,hlen,hlenn,e0n,X6,d2,d3,J5,q2,e1,e6,hG,e11,e31,e41,e51,hG1,↓gP,gY,gT];refine l9.done ?_;refine Or.inr ⟨_,_,eS,rfl,zm,λi hi h1 h2=>?_,R,H.setP zm (λi hi hp=>?_) ?_,λR1 e=>zi⟩;grind[d9];grind[d9];grind[o7,H7,Rs.P]|true=>
     cases q3:a6v n1.t with
      |none=>
       have eS:a3e n q=.er n1.p 24:=by grind[a3e,C9]
       have eV:a0E n1.t=.tuple ⟨[.int .i64 (.ofNat 0),.bool false]⟩:=by grind[a0E]
       simp(disch:=try exact dz)only[c2R,hr,hp,J9,H7,X5,G72,hlen,hlenn,e0n,X6,d2,J5,q2,c1R,eV,e1,e6,hG,e11,e31,e41,e51,hG1,↓gP,gY,gT];refine l9.done ?_;refine Or.inr ⟨_,_,eS,rfl,zm,λi hi h1 h2=>?_,R,H.setP zm (λi hi hp=>?_) ?_,λR1 e=>zi⟩;grind[d9];grind[d9];grind[o7,H7,Rs.P]|some t=>
       have eV:a0E n1.t=.tuple ⟨[.int .i64 (.ofNat t),.bool true]⟩:=by grind[a0E]
       cases hi2:n.l[2]? with
        |some n2=>
         have eS:a3e n q=.er n2.p 4:=by grind[a3e,C9]
         have hlt2:2<n.l.length:=(xC.1 hi2).1;have d4:decide (2<n.l.length)=true:=zQ;obtain⟨b2,p2,g2,cs2,cur2,ro2,nl2,hb2,hg2,hN2,hT2,e12,e22,e32,e42,e52,e62⟩:=hN.get hi2;obtain⟨u12,u22,u32,u42⟩:=H.u b2 hb2;have hG2:=u42.trans hg2;rw[hlenn]at e12;simp(disch:=try exact dz)only[c2R,hr,hp,J9,H7,a1a,a3b,X5,G72,hlen,hlenn,e0n,X6,d2,d3,d4,J5,q2,c1R,eV,e1,e6,hG,e11,e31,e41,e51,hG1,e12,e42,hG2,↓gP,gY,gT];refine l9.done ?_;refine Or.inr ⟨_,_,eS,rfl,zm,λi hi h1 h2=>?_,R,H.setP zm (λi hi hp=>?_) ?_,λR1 e=>zi⟩;grind[d9];grind[d9];grind[o7,H7,Rs.P]|none=>
         have eS:a3e n q=.ok t:=by grind[a3e,C9]
         have hlt2:n.l.length<=2:=zu;have d4:decide (2<n.l.length)=false:=zT;simp(disch:=try exact dz)only[c2R,hr,J9,hlen,hlenn,e0n,X6,d2,d4,J5,q2,c1R,eV,hinc,e1,e6,hG,e11,e31,e41,e51,hG1,↓gP,gY,gT];refine l9.done ?_;refine Or.inl ⟨_,eS,rfl,zm,λi k1 k2 k3=>?_,_,H.setR zm (λi k1 k2=>?_) ?_,λR1 e=>zY⟩;grind[d9];grind[d9];grind[o7,J9]
def a9f (l:List Nd)(q:Nat)(R:RV):Rs:=match l[R.i]? with|none=>.er q 4|some n=>bcase (decide (n.k=2)) (bcase (decide ((a0h n.t 4294967295).2=0)) (.ok {R with i:=R.i+1,N:=(a0h n.t 4294967295).1}) (.er n.p (a0h n.t 4294967295).2)) (.er n.p 4)
theorem d6D (m)(hRi:R.i<4294967296)(H:At U h0 sv fo ar ap lv q c h R P)(hl:NdL U h0 lv l)(r w):l9 (go (o8 A9 (m+4) 148 [.pointer (some ⟨ar,0,some 0⟩),.int .i64 (.ofNat 32)]) ⟨c,h,r,w⟩) (EndR U h0 sv fo ar ap lv q c h P (a9f l q R)):=by have hr:=H.hr;have hp:=H.hp;have a1:=H.r;have a2:=H.p;have a3:=H.ne;have a4:ap≠ar:=λe=>H.ne e.symm;have a5:ar≠c:=zy;have a6:ap≠c:=zy;have a7:ar≠c+1:=zy;have a8:ap≠c+1:=zy;have hlen:=hl.len.1;have e0:=U7 lv.a l.length lv.e;have hAg:AgU U h h0:=λi hi=>(H.u i hi).2.2.2;have hUc:∀i,U i->i<c:=λi hi=>(H.u i hi).1;have hn0:¬U c:=λhi=>vJ _ (hUc c hi);have hn1:¬U (c+1):=λhi=>zP;have hn2:¬U (c+2):=λhi=>zP;rw[c9Q];have hinc:=G9 R.i hRi;unfold a9f;cases hi:l[R.i]? with|none=>obtain⟨z,y,o1,o2,hm⟩:=a0R (m+2) H hl hi;have hlt:l.length<=R.i:=zu;have d1:decide (R.i<l.length)=false:=zT;simp(disch:=try exact dz)only[b3q,hm,hr,hp,J9,H7,a1a,a3b,X5,G72,hlen,e0,X6,d1,↓gP,gY,gT];refine l9.done ⟨rfl,zu,λi hi h1 h2=>?_,R,H.setP zu (λi hi hp=>?_) ?_,λR1 e=>zi⟩;grind[d9];grind[d9];grind[o7,H7,Rs.P]|some n=>obtain⟨z,y,o1,o2,nlm,hnm,hTm,hm⟩:=a0Q (m+2) H hl hi;have hlt:R.i<l.length:=(xC.1 hi).1;have d1:decide (R.i<l.length)=true:=zQ;obtain⟨b,p,g,cs,cur,ro,nl,hb,hg,hN,hT,e1,e2,e3,e4,e5,e6⟩:=hl.get hi;obtain⟨u1,u2,u3,u4⟩:=H.u b hb;have hG:=u4.trans hg;rw[hlen]at e1;simp only;cases q1:decide (n.k=2)with|false=>simp(disch:=try exact dz)only[b3q,hm,J5,q1,hr,hp,J9,H7,a1a,a3b,X5,G72,hlen,e0,X6,d1,e1,e4,hG,↓gP,gY,gT];refine l9.done ⟨rfl,zu,λi hi h1 h2=>?_,R,H.setP zu (λi hi hp=>?_) ?_,λR1 e=>zi⟩;grind[d9];grind[d9];grind[o7,H7,Rs.P]|true=>have e186:=c8F (m+2) n.t hT;cases q2:decide ((a0h n.t 4294967295).2=0)with|false=>simp(disch:=try exact dz)only[b3q,hm,J5,q1,q2,e186,hr,hp,J9,H7,X5,G72,↓gP,gY,gT,Nat.reduceAdd];refine l9.done ⟨rfl,zu,λi hi h1 h2=>?_,R,H.setP zu (λi hi hp=>?_) ?_,λR1 e=>zi⟩;grind[d9];grind[d9];grind[o7,H7,Rs.P]|true=>simp(disch:=try exact dz)only[b3q,hm,J5,q1,q2,e186,hr,J9,hinc,↓gP,gY,gT,Nat.reduceAdd];refine l9.done ?_;refine⟨rfl,zu,λi k1 k2 k3=>?_,_,H.setR zu (λi k1 k2=>?_) ?_,λR1 e=>zY⟩;grind[d9];grind[d9];grind[o7,J9]
def a9c (l:List Nd)(q:Nat)(R:RV):Rs:=match l[R.i]? with|none=>.er q 4|some n=>bcase (decide (n.k=2)) (bcase (decide ((a0h n.t 18446744073709551615).2=0)) (.ok {R with i:=R.i+1,N:=(a0h n.t 18446744073709551615).1}) (.er n.p (a0h n.t 18446744073709551615).2)) (.er n.p 4)
theorem d6H (m)(hRi:R.i<4294967296)(H:At U h0 sv fo ar ap lv q c h R P)(hl:NdL U h0 lv l)(r w):l9 (go (o8 A9 (m+4) 148 [.pointer (some ⟨ar,0,some 0⟩),.int .i64 (.ofNat 64)]) ⟨c,h,r,w⟩) (EndR U h0 sv fo ar ap lv q c h P (a9c l q R)):=by have hr:=H.hr;have hp:=H.hp;have a1:=H.r;have a2:=H.p;have a3:=H.ne;have a4:ap≠ar:=λe=>H.ne e.symm;have a5:ar≠c:=zy;have a6:ap≠c:=zy;have a7:ar≠c+1:=zy;have a8:ap≠c+1:=zy;have hlen:=hl.len.1;have e0:=U7 lv.a l.length lv.e;have hAg:AgU U h h0:=λi hi=>(H.u i hi).2.2.2;have hUc:∀i,U i->i<c:=λi hi=>(H.u i hi).1;have hn0:¬U c:=λhi=>vJ _ (hUc c hi);have hn1:¬U (c+1):=λhi=>zP;have hn2:¬U (c+2):=λhi=>zP;rw[c9Q];have hinc:=G9 R.i hRi;unfold a9c;cases hi:l[R.i]? with|none=>obtain⟨z,y,o1,o2,hm⟩:=a0R (m+2) H hl hi;have hlt:l.length<=R.i:=zu;have d1:decide (R.i<l.length)=false:=zT;simp(disch:=try exact dz)only[b3q,hm,hr,hp,J9,H7,a1a,a3b,X5,G72,hlen,e0,X6,d1,↓gP,gY,gT];refine l9.done ⟨rfl,zu,λi hi h1 h2=>?_,R,H.setP zu (λi hi hp=>?_) ?_,λR1 e=>zi⟩;grind[d9];grind[d9];grind[o7,H7,Rs.P]|some n=>obtain⟨z,y,o1,o2,nlm,hnm,hTm,hm⟩:=a0Q (m+2) H hl hi;have hlt:R.i<l.length:=(xC.1 hi).1;have d1:decide (R.i<l.length)=true:=zQ;obtain⟨b,p,g,cs,cur,ro,nl,hb,hg,hN,hT,e1,e2,e3,e4,e5,e6⟩:=hl.get hi;obtain⟨u1,u2,u3,u4⟩:=H.u b hb;have hG:=u4.trans hg;rw[hlen]at e1;simp only;cases q1:decide (n.k=2)with|false=>simp(disch:=try exact dz)only[b3q,hm,J5,q1,hr,hp,J9,H7,a1a,a3b,X5,G72,hlen,e0,X6,d1,e1,e4,hG,↓gP,gY,gT];refine l9.done ⟨rfl,zu,λi hi h1 h2=>?_,R,H.setP zu (λi hi hp=>?_) ?_,λR1 e=>zi⟩;grind[d9];grind[d9];grind[o7,H7,Rs.P]|true=>have e186:=b8x (m+2) n.t hT;cases q2:decide ((a0h n.t 18446744073709551615).2=0)with|false=>simp(disch:=try exact dz)only[b3q,hm,J5,q1,q2,e186,hr,hp,J9,H7,X5,G72,↓gP,gY,gT,Nat.reduceAdd];refine l9.done ⟨rfl,zu,λi hi h1 h2=>?_,R,H.setP zu (λi hi hp=>?_) ?_,λR1 e=>zi⟩;grind[d9];grind[d9];grind[o7,H7,Rs.P]|true=>simp(disch:=try exact dz)only[b3q,hm,J5,q1,q2,e186,hr,J9,hinc,↓gP,gY,gT,Nat.reduceAdd];refine l9.done ?_;refine⟨rfl,zu,λi k1 k2 k3=>?_,_,H.setR zu (λi k1 k2=>?_) ?_,λR1 e=>zY⟩;grind[d9];grind[d9];grind[o7,J9]
def b0z (l:List Nd)(q:Nat)(R:RV):Rs:=match l[R.i]? with|none=>.er q 4|some n=>bcase (decide (n.k=2)) (bcase (beqBytes n.t [102,117,110,99]) (.ok {R with i:=R.i+1,A:=3}) (bcase (beqBytes n.t [101,120,116,101,114,110]) (.ok {R with i:=R.i+1,A:=4}) (.er n.p 12))) (.er n.p 4)
theorem e7y (m)(hRi:R.i<4294967296)(H:At U h0 sv fo ar ap lv q c h R P)(hl:NdL U h0 lv l)(r w):l9 (go (o8 A9 (m+4) 149 [.pointer (some ⟨ar,0,some 0⟩)]) ⟨c,h,r,w⟩) (EndR U h0 sv fo ar ap lv q c h P (b0z l q R)):=by have hr:=H.hr;have hp:=H.hp;have a1:=H.r;have a2:=H.p;have a3:=H.ne;have a4:ap≠ar:=λe=>H.ne e.symm;have a5:ar≠c:=zy;have a6:ap≠c:=zy;have a7:ar≠c+1:=zy;have a8:ap≠c+1:=zy;have hlen:=hl.len.1;have e0:=U7 lv.a l.length lv.e;have hAg:AgU U h h0:=λi hi=>(H.u i hi).2.2.2;have hUc:∀i,U i->i<c:=λi hi=>(H.u i hi).1;have hn0:¬U c:=λhi=>vJ _ (hUc c hi);have hn1:¬U (c+1):=λhi=>zP;have hn2:¬U (c+2):=λhi=>zP;rw[e0b];have hinc:=G9 R.i hRi;unfold b0z;cases hi:l[R.i]? with|none=>obtain⟨z,y,o1,o2,hm⟩:=a0R (m+2) H hl hi;have hlt:l.length<=R.i:=zu;have d1:decide (R.i<l.length)=false:=zT;simp(disch:=try exact dz)only[c2q,hm,hr,hp,J9,H7,a1a,a3b,X5,G72,hlen,e0,X6,d1,↓gP,gY,gT,Nat.reduceAdd];refine l9.done ⟨rfl,zu,λi hi h1 h2=>?_,R,H.setP zu (λi hi hp=>?_) ?_,λR1 e=>zi⟩;grind[d9];grind[d9];grind[o7,H7,Rs.P]|some n=>obtain⟨z,y,o1,o2,nlm,hnm,hTm,hm⟩:=a0Q (m+2) H hl hi;have hlt:R.i<l.length:=(xC.1 hi).1;have d1:decide (R.i<l.length)=true:=zQ;obtain⟨b,p,g,cs,cur,ro,nl,hb,hg,hN,hT,e1,e2,e3,e4,e5,e6⟩:=hl.get hi;obtain⟨u1,u2,u3,u4⟩:=H.u b hb;have hG:=u4.trans hg;rw[hlen]at e1;simp only;cases q1:decide (n.k=2)with|false=>simp(disch:=try exact dz)only[c2q,hm,J5,q1,hr,hp,J9,H7,a1a,a3b,X5,G72,hlen,e0,X6,d1,e1,e4,hG,↓gP,gY,gT,Nat.reduceAdd];refine l9.done ⟨rfl,zu,λi hi h1 h2=>?_,R,H.setP zu (λi hi hp=>?_) ?_,λR1 e=>zi⟩;grind[d9];grind[d9];grind[o7,H7,Rs.P]|true=>cases q2:beqBytes n.t [102,117,110,99]with|true=>simp(disch:=try exact dz)only[c2q,hm,J5,q1,q2,hr,J9,hinc,↓gP,gY,gT,Nat.reduceAdd];refine l9.done ?_;refine⟨rfl,zu,λi k1 k2 k3=>?_,_,H.setR zu (λi k1 k2=>?_) ?_,λR1 e=>zY⟩;grind[d9];grind[d9];grind[o7,J9]|false=>cases q3:beqBytes n.t [101,120,116,101,114,110]with|true=>simp(disch:=try exact dz)only[c2q,hm,J5,q1,q2,q3,hr,J9,hinc,↓gP,gY,gT,Nat.reduceAdd];refine l9.done ?_;refine⟨rfl,zu,λi k1 k2 k3=>?_,_,H.setR zu (λi k1 k2=>?_) ?_,λR1 e=>zY⟩;grind[d9];grind[d9];grind[o7,J9]|false=>simp(disch:=try exact dz)only[c2q,hm,J5,q1,q2,q3,hr,hp,J9,H7,X5,G72,↓gP,gY,gT,Nat.reduceAdd];refine l9.done ⟨rfl,zu,λi hi h1 h2=>?_,R,H.setP zu (λi hi hp=>?_) ?_,λR1 e=>zi⟩;grind[d9];grind[d9];grind[o7,H7,Rs.P]
end
theorem Fin.out {U h0 sv fo ar ap lv q c c1 c'}{h h1 h':Trie VObj}{P rs r' w'}(H:Fin U h0 sv fo ar ap lv q c1 h1 P rs ⟨c',h',r',w'⟩)(hc:c<=c1)(hs:∀i,i<c->i≠ar->i≠ap->h1.get i=h.get i):c<=c'/\∀i,i<c->i≠ar->i≠ap->h'.get i=h.get i:=⟨wL hc H.le,λi k1 k2 k3=>(H.same i (wY k1 hc) k2 k3).trans (hs i k1 k2 k3)⟩
section
variable {U:Nat->Prop}{h0:Trie VObj}{sv fo:Value}{F:Nat->List (Value×Value)}{L:List (List UInt8)}{ar ap:Nat}{lv:Sl}{q c:Nat}{h:Trie VObj}{R:RV}{P:PV}{l:List Nd}
def a6X (F:Nat->List (Value×Value))(l:List Nd)(q:Nat)(R:RV):Rs:=match l[R.i]? with|none=>.ok R|some n=>bcase (Z4 n.k (a0f n.l) [114,101,115,117,108,116]) (match a3e n q with|.ok t=>.ok {R with i:=R.i+1,k:=1,v:=t,bi:=0}|.er p e=>.er p e) (bcase (Z4 n.k (a0f n.l) [116,121,112,101]) (a7h (a0k (F 0)) (λR k=>{R with bi:=k}) l q {R with k:=2}) (.ok R))
def a3c (l:List Nd)(R:RV):RV:=match l[R.i]? with|none=>R|some n=>bcase (decide (n.k=2)&&a1l n.t) {R with nm:=n.t,i:=R.i+1} R
theorem f0u (E:Env U h0 sv F L)(m)(hRi:R.i+1<4294967296)(H:At U h0 sv fo ar ap lv q c h R P)(hl:NdL U h0 lv l)(r w):l9 (go (o8 A9 (m+7) 140 [.pointer (some ⟨ar,0,some 0⟩)]) ⟨c,h,r,w⟩) (EndR U h0 sv fo ar ap lv q c h P (a6X F l q (a3c l R))):=by
 have hr:=H.hr;have hp:=H.hp;have a1:=H.r;have a2:=H.p;have a3:=H.ne;have a4:ap≠ar:=λe=>H.ne e.symm;have a5:ar≠c:=zy;have a6:ap≠c:=zy;have a7:ar≠c+1:=zy;have a8:ap≠c+1:=zy;have hlen:=hl.len.1;have e0:=U7 lv.a l.length lv.e;have hAg:AgU U h h0:=λi hi=>(H.u i hi).2.2.2;have hUc:∀i,U i->i<c:=λi hi=>(H.u i hi).1;have hn0:¬U c:=λhi=>vJ _ (hUc c hi);have hn1:¬U (c+1):=λhi=>zP;have hn2:¬U (c+2):=λhi=>zP;rw[e2d];have hinc:=G9 R.i zy;apply d1z (Q:=λK=>∀(R1:RV) c1 h1 r1 w1,R1.i<4294967296->At U h0 sv fo ar ap lv q c1 h1 R1 P->c<=c1->(∀i,i<c->i≠ar->i≠ap->h1.get i=h.get i)->l9 (R9 (go (o8 A9 (m+6) 138 [.pointer (some ⟨ar,0,some 0⟩)]) ⟨c1,h1,r1,w1⟩) K noP) (EndR U h0 sv fo ar ap lv q c h P (a6X F l q R1)));intro key;unfold a3c;cases hi:l[R.i]? with|none=>obtain⟨z,y,o1,o2,hm⟩:=a0R (m+5) H hl hi;simp(disch:=try exact dz)only[c6K,hm,↓gP,gY];refine key R _ _ _ _ zy (H.to ?_ λi hi=>?_) ?_ λi k1 k2 k3=>?_;omega;grind[d9];omega;grind[d9]|some n=>obtain⟨z,y,o1,o2,nlm,hnm,hTm,hm⟩:=a0Q (m+5) H hl hi;simp only;cases q1:decide (n.k=2)with|false=>simp(disch:=try exact dz)only[c6K,hm,J5,q1,↓gP,gY,gT];refine key R _ _ _ _ zy (H.to ?_ λi hi=>?_) ?_ λi k1 k2 k3=>?_;omega;grind[d9];omega;grind[d9]|true=>have e107:=c8G (m+5) n.t hTm;cases q2:a1l n.t with|false=>simp(disch:=try exact dz)only[c6K,hm,J5,q1,q2,e107,↓gP,gY,gT];refine key R _ _ _ _ zy (H.to ?_ λi hi=>?_) ?_ λi k1 k2 k3=>?_;omega;grind[d9];omega;grind[d9]|true=>simp(disch:=try exact dz)only[c6K,hm,J5,q1,q2,e107,hr,J9,hinc,↓gP,gY];refine key {R with nm:=n.t,i:=R.i+1} _ _ _ _ zy (H.setR ?_ (λi hi hp=>?_) ?_) ?_ λi k1 k2 k3=>?_;omega;grind[d9];grind[o7,J9];omega;grind[d9]
 intro R c h r w hRi H hc0 hs0;refine l9.mono (Q:=EndR U h0 sv fo ar ap lv q c h P (a6X F l q R)) ?_ λx s hq=>⟨hq.x,hq.f.of_to hc0 hs0⟩;have hr:=H.hr;have hp:=H.hp;have a1:=H.r;have a2:=H.p;have a3:=H.ne;have a4:ap≠ar:=λe=>H.ne e.symm;have a5:ar≠c:=zy;have a6:ap≠c:=zy;have a7:ar≠c+1:=zy;have a8:ap≠c+1:=zy;have hlen:=hl.len.1;have e0:=U7 lv.a l.length lv.e;have hAg:AgU U h h0:=λi hi=>(H.u i hi).2.2.2;have hUc:∀i,U i->i<c:=λi hi=>(H.u i hi).1;have hn0:¬U c:=λhi=>vJ _ (hUc c hi);have hn1:¬U (c+1):=λhi=>zP;have hn2:¬U (c+2):=λhi=>zP;unfold a6X;cases hi:l[R.i]? with|none=>obtain⟨z,y,o1,o2,hm⟩:=a0R (m+5) H hl hi;simp(disch:=try exact dz)only[hm,↓gP,gY,Nat.reduceAdd];refine l9.done ⟨rfl,zu,λi hi h1 h2=>?_,R,H.to zu (λi hi=>?_),λR1 e=>zY⟩;grind[d9];grind[d9]|some n=>obtain⟨z,y,o1,o2,nlm,hnm,hTm,hm⟩:=a0Q (m+5) H hl hi;obtain⟨z2,hz2⟩:=b1q hnm.hd (m+5);have hz3:=λo1 o2 o3 o4 r w W=>hz2 (c+1+1) (V.upd (V.upd (V.upd (V.upd h c o1) c o2) (c+1) o3) (c+1) o4) r w n.k n.p n.t W (λi hi=>by have:=hUc i hi;omega) ((((hAg.upd hn0).upd hn0).upd hn1).upd hn1);simp only;cases q1:Z4 n.k (a0f n.l) [114,101,115,117,108,116]with|true=>simp(disch:=try exact dz)only[hm,hz3,q1,↓gP,gY,Nat.reduceAdd];refine l9.bindC (e1D (m+2) hRi (H.to ?_ λi hi=>?_) hl hi _ _) λx s hq=>?_;omega;grind[d9];obtain⟨c',h',r',w'⟩:=s;rcases hq with⟨t,eV,rfl,hF⟩|⟨p,e,eV,rfl,hF⟩;obtain⟨hc,hs0⟩:=hF.out (c:=c) (h:=h) zy (λi k1 k2 k3=>zl);obtain⟨R',H',hR⟩:=hF.at';obtain rfl:=hR _ rfl;have H2:At U h0 sv fo ar ap lv q c' h' _ P:=H';have hr':=H2.hr;have c1:=H2.r;rw[eV];simp(disch:=try exact dz)only[hr',J9,↓gP,gY,Nat.reduceAdd];refine l9.done ?_;refine⟨rfl,zy,λi k1 k2 k3=>?_,_,H2.setR (xD _) (λi k1 k2=>?_) ?_,λR1 e=>zY⟩;have:=hs0 i k1 k2 k3;grind[d9];grind[d9];grind[o7,J9];obtain⟨hc,hs0⟩:=hF.out (c:=c) (h:=h) zy (λi k1 k2 k3=>zl);obtain⟨R',H',hR⟩:=hF.at';have hr':=H'.hr;have c1:=H'.r;rw[eV];simp(disch:=try exact dz)only[hr',J9,↓gP,gY,Nat.reduceAdd];refine l9.done ?_;refine⟨rfl,zy,λi k1 k2 k3=>?_,{R' with k:=1,v:=0,bi:=0},H'.setR (xD _) (λi k1 k2=>?_) ?_,λR1 e=>zi⟩;have:=hs0 i k1 k2 k3;grind[d9];grind[d9];grind[o7,J9]|false=>cases q2:Z4 n.k (a0f n.l) [116,121,112,101]with|false=>simp(disch:=try exact dz)only[hm,hz3,q1,q2,↓gP,gY,Nat.reduceAdd];refine l9.done ⟨rfl,zu,λi hi h1 h2=>?_,R,H.to zu (λi hi=>?_),λR1 e=>zY⟩;grind[d9];grind[d9]|true=>simp(disch:=try exact dz)only[hm,hz3,q1,q2,hr,J9,↓gP,gY,Nat.reduceAdd];refine l9.bindC (d7k (R:={R with k:=2}) E m hRi (H.setR ?_ (λi hi hp=>?_) ?_) hl _ _) λx s hq=>?_;omega;grind[d9];grind[o7,J9];obtain⟨rfl,hF⟩:=hq;simp(disch:=try exact dz)only[gY];refine l9.done ⟨rfl,hF.of_to zy λi k1 k2 k3=>?_⟩;grind[d9]
end
theorem d7c (T):(a0T T).1<=4294967295:=by unfold a0T;cases(a0y T).2.2 with|false=>rw[F7];decide|true=>rw[C9];cases(a0y T).2.1 with|true=>rw[vP,C9];decide|false=>rw[wF];cases h:decide (4294967295<(a0y T).1)with|true=>rw[C9];decide|false=>rw[F7];rw[uq]at h;show(a0y T).1<=_;omega
theorem d5S (T gr)(hg:gr<18446744073709551616):(a0h T gr).1<18446744073709551616:=by have hl:=a8j (a1P T);unfold a0h;cases(a0y (a1P T)).2.2 with|false=>rw[F7];decide|true=>rw[C9];cases((a0y (a1P T)).2.1||bcase (a8g T) (decide (gr/2+1<(a0y (a1P T)).1)) (decide (gr<(a0y (a1P T)).1)))with|true=>rw[C9];decide|false=>rw[F7];cases a8g T with|true=>rw[C9];exact uU uF hg|false=>rw[F7];exact hl
theorem c2G {T W}(h:a0X T W=true):W.length<=T.length:=xL
theorem b8T (T:List UInt8)(n)(h:T.length<1800000):(F8 T n).length<1800000:=by rw[a0O,vz];omega
def a7D (l:List Nd)(R:RV):Rs:=match l[R.i]? with|none=>.ok R|some n=>bcase (decide (n.k=2)) (bcase (a0X n.t [111,102,102,115,101,116,61]) (bcase (decide ((a0T (F8 n.t 7)).2=0)) (.ok {R with i:=R.i+1,N:=(a0T (F8 n.t 7)).1}) (.er n.p (a0T (F8 n.t 7)).2)) (.ok R)) (.ok R)
def a8u (l:List Nd)(R:RV):Rs:=match l[R.i]? with|none=>.ok R|some n=>bcase (decide (n.k=2)) (bcase (a0X n.t [97,108,105,103,110,61]) (bcase (decide ((a0h (F8 n.t 6) 18446744073709551615).2=0)) (match a6k (a0h (F8 n.t 6) 18446744073709551615).1 with|some i=>.ok {R with i:=R.i+1,A:=i}|none=>.er n.p 4) (.er n.p (a0h (F8 n.t 6) 18446744073709551615).2)) (.ok R)) (.ok R)
section
variable {U:Nat->Prop}{h0:Trie VObj}{sv fo:Value}{F:Nat->List (Value×Value)}{L:List (List UInt8)}{ar ap:Nat}{lv:Sl}{q c:Nat}{h:Trie VObj}{R:RV}{P:PV}{l:List Nd}
theorem d1c {fd l q R R'}(h:a4J fd l q R=.ok R'):R'.i<=R.i+1:=by
 unfold a4J at h;cases qi:isI l R.i with
  |true=>rw[qi,C9]at h;cases q2:M8 fd l q R.i with|ok k=>rw[q2]at h;cases h;exact xD _|er p e=>rw[q2]at h;cases h
  |false=>rw[qi,F7]at h;cases h;exact wZ _
def b7w (F:Nat→List (Value×Value)) (al:Nat) (l:List Nd) (q:Nat) (R:RV):Rs:=(a4J (a0k (F 3)) l q { R with A:=al }).then fun R1=>(a7D l R1).then fun R2=>a8u l R2
theorem e7G (E:Env U h0 sv F L) (m) (hRi:R.i+2<4294967296) {al} (hal:a1D a1V (.ofNat R.op)=some al) (H:At U h0 sv fo ar ap lv q c h R P) (hl:NdL U h0 lv l) (r w) :
 l9 (go (o8 A9 (m+8) 147 [.pointer (some ⟨ar, 0,some 0⟩)]) ⟨c,h,r,w⟩) (EndR U h0 sv fo ar ap lv q c h P (b7w F al l q R)):=by
 have hr:=H.hr
 have hp:=H.hp
 have a1:=H.r
 have a2:=H.p
 have a3:=H.ne
 have a4:ap≠ar:=fun e=>H.ne e.symm
 have a5:ar≠c:=zy
 have a6:ap≠c:=zy
 have a7:ar≠c+1:=zy
 have a8:ap≠c+1:=zy
 have hlen:=hl.len.1
 have e0:=U7 lv.a l.length lv.e
 have hAg:AgU U h h0:=fun i hi=>(H.u i hi).2.2.2
 have hUc:∀ i,U i→i<c:=fun i hi=>(H.u i hi).1
 have hn0:¬ U c:=fun hi=>vJ _ (hUc c hi)
 have hn1:¬ U (c+1):=fun hi=>yH
 have hn2:¬ U (c+2):=fun hi=>yH
 rw [d9O]
 have e94:=e3U (m+6) R.op al hal
 simp (disch:=try exact dz) only [b7S,hr,J9,e94, ↓gP,gY,Nat.reduceAdd]
 refine l9.bindC (c1X (R:={ R with A:=al }) E (m+1) (Or.inr ⟨3,zq,rfl,rfl⟩) (H.setR ?_ (fun i hi hp=>?_) ?_) hl _ _) fun x s hq=>?_
 · omega
 · simp (disch:=try exact xE) only [d9]
 · simp (disch:=try exact xE) only [o7,J9,hlen]
 obtain ⟨rfl,hF⟩:=hq
 obtain ⟨c',h',r',w'⟩:=s
 unfold b7w
 generalize hm:a4J (a0k (F 3)) l q { R with A:=al }=rs at hF ⊢
 obtain ⟨hc,hs0⟩:=hF.out (c:=c) (h:=h) zy (fun i k1 k2 k3=>by simp (disch:=try exact xE) only [d9])
 cases rs with
 | er p e=>
   simp (disch:=try exact dz) only [Rs.b, ↓gP,gY,gT]
   exact l9.done ⟨rfl,⟨zO,hs0,hF.at'⟩⟩
 | ok R1=>
   obtain ⟨R',H',hR⟩:=hF.at'
   obtain rfl:=hR _ rfl
   have H2:At U h0 sv fo ar ap lv q c' h' R' P:=H'
   have hb:R'.i+1<4294967296:=by
    have hle:=d1c hm
    dsimp only at hle
    omega
   simp (disch:=try exact dz) only [Rs.b, ↓gP,gY,gT]
   refine l9.mono (Q:=EndR U h0 sv fo ar ap lv q c' h' P ((a7D l R').then fun R1=>a8u l R1)) ?_ fun x s hq=>⟨hq.x,hq.f.of_to hc hs0⟩
   have hr:=H2.hr
   have hp:=H2.hp
   have a1:=H2.r
   have a2:=H2.p
   have a3:=H2.ne
   have a4:ap≠ar:=fun e=>H2.ne e.symm
   have a5:ar≠c':=zy
   have a6:ap≠c':=zy
   have a7:ar≠c'+1:=zy
   have a8:ap≠c'+1:=zy
   have hlen:=hl.len.1
   have e0:=U7 lv.a l.length lv.e
   have hAg:AgU U h' h0:=fun i hi=>(H2.u i hi).2.2.2
   have hUc:∀ i,U i→i<c':=fun i hi=>(H2.u i hi).1
   have hn0:¬ U c':=fun hi=>vJ _ (hUc c' hi)
   have hn1:¬ U (c'+1):=fun hi=>yH
   have hn2:¬ U (c'+2):=fun hi=>yH
   have hinc:=G9 R'.i zy
   apply d1z (Q:=fun K=>∀ (R1:RV) c1 h1 r1 w1,R1.i<4294967296→At U h0 sv fo ar ap lv q c1 h1 R1 P→c'≤c1→(∀ i,i<c'→i≠ar→i≠ap→h1.get i=h'.get i)→l9 (R9 (go (o8 A9 (m+7) 138 [.pointer (some ⟨ar, 0,some 0⟩)]) ⟨c1,h1,r1,w1⟩) K noP) (EndR U h0 sv fo ar ap lv q c' h' P (a8u l R1)))
   · intro key
     unfold a7D Rs.then
     cases hi:l[R'.i]? with
     | none=>
       obtain ⟨z,y,o1,o2,hm⟩:=a0R (m+6) H2 hl hi
       simp (disch:=try exact dz) only [hm, ↓gP,gY]
       refine key R' _ _ _ _ zy (H2.to ?_ fun i hi=>?_) ?_ fun i k1 k2 k3=>?_
       · omega
       · simp (disch:=try exact xE) only [d9]
       · omega
       · simp (disch:=try exact xE) only [d9]
     | some n=>
       obtain ⟨z,y,o1,o2,nlm,hnm,hTm,hm⟩:=a0Q (m+6) H2 hl hi
       simp only
       cases q1:decide (n.k=2) with
       | false=>
         simp (disch:=try exact dz) only [hm,J5,q1, ↓gP,gY]
         refine key R' _ _ _ _ zy (H2.to ?_ fun i hi=>?_) ?_ fun i k1 k2 k3=>?_
         · omega
         · simp (disch:=try exact xE) only [d9]
         · omega
         · simp (disch:=try exact xE) only [d9]
       | true=>
       cases q2:a0X n.t [111, 102, 102, 115, 101, 116, 61] with
       | false=>
         simp (disch:=try exact dz) only [hm,J5,q1,b2y,q2, ↓gP,gY]
         refine key R' _ _ _ _ zy (H2.to ?_ fun i hi=>?_) ?_ fun i k1 k2 k3=>?_
         · omega
         · simp (disch:=try exact xE) only [d9]
         · omega
         · simp (disch:=try exact xE) only [d9]
       | true=>
       have hsl:=a0m n.t .i64 7 (c2G q2)
       have hT7:=b8T n.t 7 hTm
       have e81:=e6a (m+6) (F8 n.t 7) hT7
       cases q3:decide ((a0T (F8 n.t 7)).2=0) with
       | false=>
         simp (disch:=try exact dz) only [b7S,hm,J5,q1,b2y,q2,hsl,e81,q3,hr,hp,J9,H7,X5,G72, ↓gP,gY,gT,Nat.reduceAdd]
         refine l9.done ?_
         refine ⟨rfl,zO,fun i hi h1 h2=>?_,R',H2.setP zO (fun i hi hp=>?_) ?_,fun R1 e=>zi⟩
         · simp (disch:=try exact xE) only [d9]
         · simp (disch:=try exact xE) only [d9]
         · simp (disch:=try exact xE) only [o7,H7,Rs.P]
       | true=>
         have hcv:N8 .u64 (Int.ofNat (a0T (F8 n.t 7)).1)=Int.ofNat (a0T (F8 n.t 7)).1:=d5d _ (by have:=d7c (F8 n.t 7); omega)
         simp (disch:=try exact dz) only [b7S,hm,J5,q1,b2y,q2,hsl,e81,q3,hcv,hr,J9,hinc, ↓gP,gY,gT,Nat.reduceAdd]
         refine key { R' with i:=R'.i+1,N:=(a0T (F8 n.t 7)).1 } _ _ _ _ zO (H2.setR ?_ (fun i hi hp=>?_) ?_) ?_ fun i k1 k2 k3=>?_
         · omega
         · simp (disch:=try exact xE) only [d9]
         · simp (disch:=try exact xE) only [o7,J9,hlen]
         · omega
         · simp (disch:=try exact xE) only [d9]
   · intro R c h r w hRi H hc0 hs0
     refine l9.mono (Q:=EndR U h0 sv fo ar ap lv q c h P (a8u l R)) ?_ fun x s hq=>⟨hq.x,hq.f.of_to hc0 hs0⟩
     have hr:=H.hr
     have hp:=H.hp
     have a1:=H.r
     have a2:=H.p
     have a3:=H.ne
     have a4:ap≠ar:=fun e=>H.ne e.symm
     have a5:ar≠c:=zy
     have a6:ap≠c:=zy
     have a7:ar≠c+1:=zy
     have a8:ap≠c+1:=zy
     have hlen:=hl.len.1
     have e0:=U7 lv.a l.length lv.e
     have hAg:AgU U h h0:=fun i hi=>(H.u i hi).2.2.2
     have hUc:∀ i,U i→i<c:=fun i hi=>(H.u i hi).1
     have hn0:¬ U c:=fun hi=>vJ _ (hUc c hi)
     have hn1:¬ U (c+1):=fun hi=>yH
     have hn2:¬ U (c+2):=fun hi=>yH
     have hinc:=G9 R.i hRi
     unfold a8u
     cases hi:l[R.i]? with
     | none=>
       obtain ⟨z,y,o1,o2,hm⟩:=a0R (m+6) H hl hi
       simp (disch:=try exact dz) only [hm, ↓gP,gY]
       refine l9.done ?_
       refine ⟨rfl,zO,fun i hi h1 h2=>?_,R,H.to zO (fun i hi=>?_),fun R1 e=>by cases e; rfl⟩
       · simp (disch:=try exact xE) only [d9]
       · simp (disch:=try exact xE) only [d9]
     | some n=>
       obtain ⟨z,y,o1,o2,nlm,hnm,hTm,hm⟩:=a0Q (m+6) H hl hi
       simp only
       cases q1:decide (n.k=2) with
       | false=>
         simp (disch:=try exact dz) only [hm,J5,q1, ↓gP,gY]
         refine l9.done ?_
         refine ⟨rfl,zO,fun i hi h1 h2=>?_,R,H.to zO (fun i hi=>?_),fun R1 e=>by cases e; rfl⟩
         · simp (disch:=try exact xE) only [d9]
         · simp (disch:=try exact xE) only [d9]
       | true=>
       cases q2:a0X n.t [97, 108, 105, 103, 110, 61] with
       | false=>
         simp (disch:=try exact dz) only [hm,J5,q1,b2y,q2, ↓gP,gY]
         refine l9.done ?_
         refine ⟨rfl,zO,fun i hi h1 h2=>?_,R,H.to zO (fun i hi=>?_),fun R1 e=>by cases e; rfl⟩
         · simp (disch:=try exact xE) only [d9]
         · simp (disch:=try exact xE) only [d9]
       | true=>
       have hsl:=a0m n.t .i64 6 (c2G q2)
       have hT6:=b8T n.t 6 hTm
       have e186:=b8x (m+6) (F8 n.t 6) hT6
       have hv:=d5S (F8 n.t 6) 18446744073709551615 zq
       cases q3:decide ((a0h (F8 n.t 6) 18446744073709551615).2=0) with
       | false=>
         simp (disch:=try exact dz) only [b7S,hm,J5,q1,b2y,q2,hsl,e186,q3,hr,hp,J9,H7,X5,G72, ↓gP,gY,gT]
         refine l9.done ?_
         refine ⟨rfl,zO,fun i hi h1 h2=>?_,R,H.setP zO (fun i hi hp=>?_) ?_,fun R1 e=>zi⟩
         · simp (disch:=try exact xE) only [d9]
         · simp (disch:=try exact xE) only [d9]
         · simp (disch:=try exact xE) only [o7,H7,Rs.P]
       | true=>
       have e187:=e1A (m+6) _ hv
       have hpop:=d2y _ hv
       cases q4:a6k (a0h (F8 n.t 6) 18446744073709551615).1 with
       | none=>
         rw [q4] at hpop
         have hpop':decide (pop (a0h (F8 n.t 6) 18446744073709551615).1=1)=false:=hpop
         simp (disch:=try exact dz) only [b7S,hm,J5,q1,b2y,q2,hsl,e186,q3,e187,hpop',hr,hp,J9,H7,X5,G72, ↓gP,gY,gT]
         refine l9.done ?_
         refine ⟨rfl,zO,fun i hi h1 h2=>?_,R,H.setP zO (fun i hi hp=>?_) ?_,fun R1 e=>zi⟩
         · simp (disch:=try exact xE) only [d9]
         · simp (disch:=try exact xE) only [d9]
         · simp (disch:=try exact xE) only [o7,H7,Rs.P]
       | some j=>
         rw [q4] at hpop
         have hpop':decide (pop (a0h (F8 n.t 6) 18446744073709551615).1=1)=true:=hpop
         have e188:=e1H (m+6) _ j q4
         simp (disch:=try exact dz) only [b7S,hm,J5,q1,b2y,q2,hsl,e186,q3,e187,hpop',e188,hr,J9,hinc, ↓gP,gY,gT,Nat.reduceAdd]
         refine l9.done ?_
         refine ⟨rfl,zO,fun i k1 k2 k3=>?_,_,H.setR zO (fun i k1 k2=>?_) ?_,fun R1 e=>by cases e; rfl⟩
         · simp (disch:=try exact xE) only [d9]
         · simp (disch:=try exact xE) only [d9]
         · simp (disch:=try exact xE) only [o7,J9,hlen]
end
theorem d0A {α}(cs:List α)(n)(h:F9 cs=n):a2i cs n=cs:=by rw[a3F];rw[J2]at h;rw[<-h];grind
theorem c2W {g}:∀(cs) (n) (rows xs),F9 cs=n->A7 g cs n=some rows->A7 (g+1) (I9 cs (J7 (λv=>(v,g+1)) xs)) (n+xs.length)=some (rows++xs):=by
 have new:∀(xs:List Value),A7 (g+1) (J7 (λv=>(v,g+1)) xs) xs.length=some xs:=by intro xs;induction xs<;>simp_all[A7,J7,a8x]
 intro cs;induction cs with
  |nil=>
   intro n rows xs hn h;have hn:n=0:=hn.symm;subst hn;have h:rows=[]:=by rw[Y5]at h;cases h;rfl
   subst h;rw[wM];exact new xs|cons q cs ih=>intro n rows xs hn h;obtain⟨v,st⟩:=q;have hn:F9 cs+1=n:=hn;subst hn;have h':(match Nat.ble st g with|true=>(match A7 g cs (F9 cs)with|some vs=>some (v::vs)|none=>none)|false=>none)=some rows:=h;cases q1:Nat.ble st g with|false=>rw[q1]at h';cases h'|true=>rw[q1]at h';cases q2:A7 g cs (F9 cs)with|none=>rw[q2]at h';cases h'|some vs=>rw[q2]at h';cases h';have hle:Nat.ble st (g+1)=true:=uO (Nat.le_succ_of_le (wJ q1));rw[wX];show(match Nat.ble st (g+1)with|true=>(match A7 (g+1) (I9 cs (J7 (λv=>(v,g+1)) xs)) (F9 cs+xs.length)with|some vs=>some (v::vs)|none=>none)|false=>none)=_;rw[hle,ih (F9 cs) vs xs rfl q2];rfl
def a4D (sz c0 c:Nat)(h:Trie VObj)(u:Sl)(rows:List Value):Prop:=rows.length=u.n*sz/\((u=⟨none,0,0⟩)\/∃ab g cs,u.a=some ⟨ab,0,some g⟩/\u.e=sz/\c0<=ab/\ab<c/\h.get ab=some (.cells cs g false)/\F9 cs=rows.length/\A7 g cs rows.length=some rows)
def b3f (sz c:Nat)(h:Trie VObj)(x:Sl)(xs:List Value):Prop:=xs.length=x.n*sz/\(x.n=0\/∃xb ox gx cs cur ro,x.a=some ⟨xb,ox,some gx⟩/\x.e=sz/\xb<c/\h.get xb=some (.cells cs cur ro)/\A7 gx (F8 cs ox) xs.length=some xs)
theorem a4D.nil (sz c0 c h):a4D sz c0 c h ⟨none,0,0⟩ []:=⟨zn,Or.inl rfl⟩
theorem a4D.mono {sz c0 c c' h h' u rows}(H:a4D sz c0 c h u rows)(hc:c<=c')(hh:∀b,c0<=b->b<c->(∀a,u.a=some a->a.block=b->h'.get b=h.get b)):a4D sz c0 c' h' u rows:=by obtain⟨h1,h2|⟨ab,g,cs,h2,h3,h4,h5,h6,h7,h8⟩⟩:=H;exact⟨h1,Or.inl h2⟩;exact⟨h1,Or.inr ⟨ab,g,cs,h2,h3,h4,zy,(hh ab h4 h5 _ h2 rfl).trans h6,h7,h8⟩⟩
def Sl.own (u:Sl)(i:Nat):Prop:=∃a,u.a=some a/\a.block=i
theorem b7m {sz c h x xs}(X:b3f sz c h x xs)(r w):∃r',go (b0p sz (.slice x.a x.n x.e)) ⟨c,h,r,w⟩=some (xs,⟨c,h,r',w⟩):=by
 obtain⟨xa,xn,xe⟩:=x;obtain⟨h1,h2⟩:=X;simp only at h1 h2;cases xn with
  |zero=>have:xs=[]:=vI.1 (by rw[h1,qx]);subst this;cases xa with|none=>exact⟨r,rfl⟩|some a=>exact⟨r,rfl⟩
  |succ m=>rcases h2 with h2|⟨xb,ox,gx,cs,cur,ro,rfl,rfl,h3,h4,h5⟩;cases h2;refine⟨xb::r,?_⟩;show go (M.guard (Nat.beq xe xe) (loadN ⟨xb,ox,some gx⟩ ((m+1)*xe))) ⟨c,h,r,w⟩=_;rw[J4,V4,a2q,L8 h3,h4,Z5,<-h1,h5];rfl
theorem d3o {e sz}(e1:e.size=sz)(e0:0<sz)(e2:Nat.blt e.bytes 4096=true){c0 c h u x rows xs}(H:a4D sz c0 c h u rows)(X:b3f sz c h x xs)(ho:M0 P8 xs=true)(hl:(u.n+x.n)*4<4294967296)(hc:c0<=c)(r w):l9 (go (a3G e (.slice u.a u.n u.e) (.slice x.a x.n x.e)) ⟨c,h,r,w⟩) λy s=>∃u',y=.slice u'.a u'.n u'.e/\u'.n=u.n+x.n/\a4D sz c0 s.c s.h u' (rows++xs)/\c<=s.c/\(∀i,i<c->¬u.own i->s.h.get i=h.get i)/\∀i,i<c->u'.own i->u.own i:=by
 obtain⟨r',hs⟩:=b7m X r w;unfold a3G;rw[e1,M5,hs,M9,a0g];obtain⟨hx,_⟩:=X;cases xs with
  |nil=>have hx0:x.n=0:=xS;refine⟨_,_,rfl,u,rfl,zy,by rw[wR];exact H,xD _,λ_ _ _=>rfl,λ_ _ h=>h⟩|cons v vs=>
   have hlen:F9 (v::vs)=x.n*sz:=by rw[J2];exact hx
   have hlen':F9 vs+1=x.n*sz:=hlen;have hdiv:(F9 vs+1)/sz=x.n:=by rw[hlen'];simp_all
   have hg1:Nat.beq (x.n*sz) (F9 vs+1)=true:=by rw[hlen'];simp_all
   have hg2:Nat.blt ((u.n+x.n)*4) a7M=true:=L8 hl;unfold a7n;simp only[a4b,e1,hdiv,hg1,ho,hg2,e2,uk,V4];obtain⟨hrl,rfl|⟨ab,g,cs,h2,h3,h4,h5,h6,h7,h8⟩⟩:=H;have hr0:rows=[]:=by
    have:rows.length=0:=by rw[hrl];simp_all
    simp_all
   subst hr0;simp only[J4,V4];rw[M5,a2I _ _ _ _ _ ho,M9];refine⟨_,_,rfl,⟨some ⟨c,0,some 0⟩,x.n,sz⟩,rfl,(wM _).symm,⟨?_,Or.inr ⟨c,0,_,rfl,rfl,hc,wu c,o7 _ _ _,?_,?_⟩⟩,wZ c,λi hi _=>d9 zy,λi hi hq=>?_⟩;exact hx;rw[J2,a1z,wK];rfl;have:∀l:List Value,A7 0 (J7 (λv=>(v,0)) l) l.length=some l:=by intro l;induction l<;>simp_all[A7,J7]
   grind;obtain⟨a,ha,hb⟩:=hq;grind;obtain⟨ua,un,ue⟩:=u;simp only at h2 h3 hrl hl⊢;subst h2;subst h3;simp only[J4,V4];unfold appendAt;have hb:Nat.ble (0+un*ue) (F9 cs)=true:=by rw[wM,h7,hrl];simp_all
   simp only[G7,e1];rw[M5];show l9 (U3 (rd ab ⟨c,h,r',w⟩) _) _;rw[b5M,L8 h5,h6];simp only[M9,a6Y,uy,V4,hb,Y7];rw[<-hrl,h8,G7,a0g,wM,d0A cs rows.length h7,M5];show l9 (U3 (wr ab _ _) _) _;rw[b2U,L8 h5,h6];refine⟨_,_,rfl,⟨some ⟨ab,0,some (g+1)⟩,un+x.n,ue⟩,rfl,rfl,⟨?_,Or.inr ⟨ab,g+1,_,rfl,rfl,h4,h5,o7 _ _ _,?_,?_⟩⟩,xD c,λi hi hq=>d9 (λe=>hq ⟨_,rfl,e.symm⟩),λi hi hq=>?_⟩;rw[wW,hrl,hx,tY];rw[b0g,h7,J2,a1z,wK,wW];rw[wW];grind[c2W];obtain⟨a,ha,hb⟩:=hq;cases ha;exact⟨_,rfl,hb⟩
theorem l9.footS {α β x}{f:α×a0A->M β}{r w P Q}(h:l9 x P)(k:∀a s,P a s->l9 (go (f (a,(s.r,s.w))) ⟨s.c,s.h,I9 s.r r,I9 s.w w⟩) Q):l9 (U3 (V.b9y x r w) f) Q:=by obtain⟨a,s,e,p⟩:=h;rw[e];exact k a s p
theorem d5z:ti3.size=1:=zw
theorem d3U:Nat.blt ti3.bytes 4096=true:=zw
theorem b4E:ti9.size=1:=zw
theorem b4t:Nat.blt ti9.bytes 4096=true:=zw
theorem c2C:a6j.size=9:=zw
theorem c2b:Nat.blt a6j.bytes 4096=true:=zw
theorem At.setO {U h0 sv fo ar ap lv q c h h' R P}(H:At U h0 sv fo ar ap lv q c h R P){b}(b2:b≠ar)(b3:b≠ap)(b4:¬U b)(hs:∀i,i≠b->h'.get i=h.get i):At U h0 sv fo ar ap lv q c h' R P:=⟨λi hi=>⟨(H.u i hi).1,(H.u i hi).2.1,(H.u i hi).2.2.1,(hs i (λe=>b4 (e▸hi))).trans (H.u i hi).2.2.2⟩,H.r,H.p,H.ne,(hs ar (λe=>b2 e.symm)).trans H.hr,(hs ap (λe=>b3 e.symm)).trans H.hp⟩
section
variable {U:Nat->Prop}{h0:Trie VObj}{sv fo:Value}{F:Nat->List (Value×Value)}{L:List (List UInt8)}{ar ap:Nat}{lv:Sl}{q c:Nat}{h:Trie VObj}{R:RV}{P:PV}{l:List Nd}
theorem d0O (E:Env U h0 sv F L)(m){kv fd}(hk:a8c F L kv fd)(H:At U h0 sv fo ar ap lv q c h R P)(hl:NdL U h0 lv l){tb}(b1:tb<c)(b2:tb≠ar)(b3:tb≠ap)(b4:¬U tb){v0}(htb:h.get tb=some (.cells [(v0,0)] 0 false))(r w):l9 (go (o8 A9 (m+5) 183 [.pointer (some ⟨ar,0,some 0⟩),kv,.pointer (some ⟨tb,0,some 0⟩)]) ⟨c,h,r,w⟩) λx s=>c<=s.c/\(∀i,i<c->i≠ar->i≠ap->i≠tb->s.h.get i=h.get i)/\((∃k,M8 fd l q R.i=.ok k/\x=.ret (.bool true)/\At U h0 sv fo ar ap lv q s.c s.h {R with i:=R.i+1} P/\s.h.get tb=some (.cells [(.int .i64 (.ofNat k),0)] 0 false))\/(∃p e,M8 fd l q R.i=.er p e/\x=.ret (.bool false)/\∃R',At U h0 sv fo ar ap lv q s.c s.h R' {P with p:=p,e:=e})):=by
 have hr:=H.hr;have hp:=H.hp;have a1:=H.r;have a2:=H.p;have a3:=H.ne;have a4:ap≠ar:=λe=>H.ne e.symm;have a5:ar≠c:=zy;have a6:ap≠c:=zy;have a7:ar≠c+1:=zy;have a8:ap≠c+1:=zy;have b5:tb≠c:=zy;have b6:tb≠c+1:=zy;have b7:ar≠tb:=λe=>b2 e.symm;have b8:ap≠tb:=λe=>b3 e.symm;have hlen:=hl.len.1;have e0:=U7 lv.a l.length lv.e;rw[c3x];cases hi:l[R.i]? with
  |none=>
   obtain⟨z,y,o1,o2,hm⟩:=a0R (m+3) H hl hi;have hlt:l.length<=R.i:=zu;have d1:decide (R.i<l.length)=false:=zT;have eS:M8 fd l q R.i=.er q 4:=by grind[M8]
   simp(disch:=try exact dz)only[b2q,hm,hr,hp,J9,H7,a1a,a3b,X5,G72,hlen,e0,X6,d1,↓gP,gY,gT];refine l9.done ?_;refine⟨zu,λi hi h1 h2 h3=>?_,Or.inr ⟨_,_,eS,rfl,R,H.setP zu (λi hi hp=>?_) ?_⟩⟩;grind[d9];grind[d9];grind[o7,H7]|some n=>
   obtain⟨z,y,o1,o2,nl,hn,hT,hm⟩:=a0Q (m+3) H hl hi;have hlt:R.i<l.length:=(xC.1 hi).1;have d1:decide (R.i<l.length)=true:=zQ;have hinc:=G9 R.i xx;cases q1:Z0 n.k n.t with
    |false=>have eS:M8 fd l q R.i=.er n.p 4:=yO;obtain⟨b,p,g,cs,cur,ro,nl',hb,hg,_,_,e1,e2,e3,e4,e5,e6⟩:=hl.get hi;obtain⟨u1,u2,u3,u4⟩:=H.u b hb;have hg':=u4.trans hg;rw[hlen]at e1;have b1:b≠c:=zy;have b2:b≠c+1:=zy;simp(disch:=try exact dz)only[b2q,hm,a1S,q1,hr,hp,J9,H7,a1a,a3b,X5,G72,hlen,e0,X6,d1,e1,e4,hg',↓gP,gY,gT];refine l9.done ?_;refine⟨zu,λi hi h1 h2 h3=>?_,Or.inr ⟨_,_,eS,rfl,R,H.setP zu (λi hi hp=>?_) ?_⟩⟩;grind[d9];grind[d9];grind[o7,H7]|true=>
     simp(disch:=try exact dz)only[b2q,hm,a1S,q1,↓gP,gY,gT];refine l9.bindC (c2r E (m+1) hk (H.to ?_ λi hi=>?_) n nl hT _ _) λx s hq=>?_;omega;grind[d9];obtain⟨c',h',r',w'⟩:=s;obtain⟨hc,hs,hor⟩:=hq;simp only at hc hs;have htb':h'.get tb=some (.cells [(v0,0)] 0 false):=by have:=hs tb zy b3;grind[d9]
     have b1':tb<c':=zy;have hs0:∀i,i<c->i≠ap->h'.get i=h.get i:=λi k1 k2=>by have:=hs i zy k2;grind[d9]
     rcases hor with⟨q2,rfl,H'⟩|⟨q2,rfl,H'⟩;have eS:M8 fd l q R.i=.ok (fd n.t).1:=by simp_all[M8,bcase]
     have hr':=H'.hr;have c1:=H'.r;simp only at hr' c1;simp(disch:=try exact dz)only[hr',J9,hinc,htb',↓gP,gY];refine l9.done ?_;refine⟨zu,λi k1 k2 k3 k4=>?_,Or.inl ⟨_,eS,rfl,(H'.setR (R':={R with i:=R.i+1}) (xD _) (h':=V.upd h' ar (.cells (J9 ap lv q {R with i:=R.i+1}) 0 false)) (λi k1 k2=>?_) ?_).setO (b:=tb) b2 b3 b4 (λi k1=>?_),?_⟩⟩;have:=hs0 i k1 k3;grind[d9];grind[d9];grind[o7];grind[d9,J9];grind[o7];have eS:M8 fd l q R.i=.er n.p (fd n.t).2:=by simp_all[M8,bcase]
     have hr':=H'.hr;have c1:=H'.r;simp only at hr' c1;simp(disch:=try exact dz)only[hr',J9,hinc,htb',↓gP,gY];refine l9.done ?_;refine⟨zu,λi k1 k2 k3 k4=>?_,Or.inr ⟨_,_,eS,rfl,{R with i:=R.i+1},(H'.setR (R':={R with i:=R.i+1}) (xD _) (h':=V.upd h' ar (.cells (J9 ap lv q {R with i:=R.i+1}) 0 false)) (λi k1 k2=>?_) ?_).setO (b:=tb) b2 b3 b4 (λi k1=>?_)⟩⟩;have:=hs0 i k1 k3;grind[d9];grind[d9];grind[o7];grind[d9,J9]
end
inductive Ls where
 | ok (ks:List Nat)
 | er (p e:Nat)
def Ls.cons (k:Nat):Ls->Ls|.ok ks=>.ok (k::ks)|.er p e=>.er p e
def hdI:List Nd->Bool|[]=>false|n::_=>Z0 n.k n.t
def a2d (fd:List UInt8->Nat×Nat)(q:Nat):List Nd->Ls|[]=>.er q 4|n::t=>bcase (Z0 n.k n.t) (bcase (decide ((fd n.t).2=0)) (bcase (hdI t) ((a2d fd q t).cons (fd n.t).1) (.ok [(fd n.t).1])) (.er n.p (fd n.t).2)) (.er n.p 4)
def iV (k:Nat):Value:=.int .i64 (.ofNat k)
theorem c2f (l i):hdI (l.drop i)=isI l i:=by
 unfold isI;cases h:l[i]? with
  |none=>
   have:l.drop i=[]:=by rw[List.drop_eq_nil_iff];grind
   rw[this];rfl|some n=>
   have hi:=(xC.1 h).1;have:l.drop i=n::l.drop (i+1):=by rw[vV hi];have:=(xC.1 h).2;rw[this]
   rw[this];rfl
theorem a4D.fresh {sz c0 c h u rows}(H:a4D sz c0 c h u rows){i}(hi:i<c0):¬u.own i:=by rintro⟨a,ha,rfl⟩;obtain⟨_,rfl|⟨ab,g,cs,h2,h3,h4,_⟩⟩:=H;cases ha;grind
theorem a4D.keep {sz c0 c c' h h' u rows}(H:a4D sz c0 c h u rows)(hc:c<=c')(hh:∀b,c0<=b->b<c->h'.get b=h.get b):a4D sz c0 c' h' u rows:=H.mono hc λb h1 h2 _ _ _=>hh b h1 h2
section
variable {U:Nat->Prop}{h0:Trie VObj}{sv fo:Value}{F:Nat->List (Value×Value)}{L:List (List UInt8)}{ar ap:Nat}{lv:Sl}{q c:Nat}{h:Trie VObj}{R:RV}{P:PV}{l:List Nd}
theorem d1o (E:Env U h0 sv F L)(m)(hl:NdL U h0 lv l)(c0)(hb0:Trie VObj)(ha:ar<c0)(hap:ap<c0)(hU0:∀i,U i->i<c0):∀(t) (R) (k) (S) (u) (g0 g1 g2 g3 g5 g6 g7 g8 g10 g11 g12 g13 g14 g15 g16 g17 g18 g19 g20 g21 g22 g23) (c) (h) (r w),l.drop R.i=t->R.i<=l.length->t.length<k->S.length+t.length<2000000->c0<=c->(∀i,i<c0->i≠ar->i≠ap->h.get i=hb0.get i)->At U h0 sv fo ar ap lv q c h R P->a4D 1 c0 c h u (S.map iV)->l9 (go (Q5 (c9P o9 NN (o8 A9 (m+6)) (.pointer (some ⟨ar,0,some 0⟩))) k [g0,g1,g2,g3,.bool false,g5,g6,g7,g8,.slice u.a u.n u.e,g10,g11,g12,g13,g14,g15,g16,g17,g18,g19,g20,g21,g22,g23]) ⟨c,h,r,w⟩) λx s=>c0<=s.c/\(∀i,i<c0->i≠ar->i≠ap->s.h.get i=hb0.get i)/\((∃ks,a2d (L9 L) q t=.ok ks/\x.1=.exit 0/\∃u',C8 x.2 9=.slice u'.a u'.n u'.e/\a4D 1 c0 s.c s.h u' ((S++ks).map iV)/\At U h0 sv fo ar ap lv q s.c s.h {R with i:=R.i+ks.length} P)\/(∃p e,a2d (L9 L) q t=.er p e/\x.1=.ret/\C8 x.2 4=.bool false/\∃R',At U h0 sv fo ar ap lv q s.c s.h R' {P with p:=p,e:=e})):=by
 intro t;induction t with
  |nil=>
   intro R k S u g0 g1 g2 g3 g5 g6 g7 g8 g10 g11 g12 g13 g14 g15 g16 g17 g18 g19 g20 g21 g22 g23 c h r w hd hRl hk hS hc hs H HG;obtain⟨k,rfl⟩:∃m,k=m+1:=⟨k-1,zy⟩;have hi:l[R.i]?=none:=by have:l.length<=R.i:=zm;simp[this]
   have n1:¬U c:=λhi=>by have:=hU0 _ hi;omega
   simp(disch:=try exact dz)only[O8,d5E,↓gP,gY];refine l9.bindC (d0O E (m+1) (Or.inl ⟨rfl,rfl⟩) (H.to ?_ λi hi=>?_) hl (tb:=c) (v0:=.int .i64 (.ofNat 0)) ?_ ?_ ?_ n1 ?_ _ _) λx s hq=>?_;omega;grind[d9];omega;have:=H.r;omega;have:=H.p;omega;simp only[o7];obtain⟨c',h',r',w'⟩:=s;obtain⟨hc',hs',hor⟩:=hq;simp only at hc' hs';have eM:M8 (L9 L) l q R.i=.er q 4:=by grind[M8]
   rcases hor with⟨kk,e1,rfl,H',ht⟩|⟨p,e,e1,rfl,R',H'⟩;rw[eM]at e1;cases e1;rw[eM]at e1;cases e1;simp(disch:=try exact dz)only[↓gP,gY,gT];refine l9.done ?_;refine⟨zu,λi k1 k2 k3=>?_,Or.inr ⟨q,4,rfl,rfl,rfl,R',H'⟩⟩;have:=hs' i zy k2 k3 zy;grind[d9]|cons n t ih=>
   intro R k S u g0 g1 g2 g3 g5 g6 g7 g8 g10 g11 g12 g13 g14 g15 g16 g17 g18 g19 g20 g21 g22 g23 c h r w hd hRl hk hS hc hs H HG;obtain⟨k,rfl⟩:∃m,k=m+1:=⟨k-1,zy⟩;have hil:R.i<l.length:=xm;have hi:l[R.i]?=some n:=by have:=wO (λt=>t[0]?) hd;grind
   have hd':l.drop (R.i+1)=t:=yX;have n1:¬U c:=λhi=>by have:=hU0 _ hi;omega
   have hll:=hl.len.2;simp(disch:=try exact dz)only[O8,d5E,↓gP,gY];refine l9.bindC (d0O E (m+1) (Or.inl ⟨rfl,rfl⟩) (H.to ?_ λi hi=>?_) hl (tb:=c) (v0:=.int .i64 (.ofNat 0)) ?_ ?_ ?_ n1 ?_ _ _) λx s hq=>?_;omega;grind[d9];omega;have:=H.r;omega;have:=H.p;omega;simp only[o7];obtain⟨c',h',r',w'⟩:=s;obtain⟨hc',hs',hor⟩:=hq;simp only at hc' hs';have hs1:∀i,i<c0->i≠ar->i≠ap->h'.get i=hb0.get i:=λi k1 k2 k3=>by have:=hs' i zy k2 k3 zy;grind[d9]
   rcases hor with⟨kk,e1,rfl,H',ht⟩|⟨p,e,e1,rfl,R',H'⟩;have eM:Z0 n.k n.t=true/\(L9 L n.t).2=0/\kk=(L9 L n.t).1:=by unfold M8 at e1;rw[hi]at e1;simp only at e1;cases q1:Z0 n.k n.t with|false=>rw[q1,F7]at e1;cases e1|true=>rw[q1,C9]at e1;cases q2:decide ((L9 L n.t).2=0)with|false=>rw[q2,F7]at e1;cases e1|true=>rw[q2,C9]at e1;grind
   obtain⟨m1,m2,rfl⟩:=eM;simp only at ht H';have t1:c<c':=zy;have HG':a4D 1 c0 c' h' u (S.map iV):=HG.keep zy λb k1 k2=>by have:=hs' b zy zy zy zy;grind[d9]
   have hGn:u.n=S.length:=by have:=HG'.1;rw[wK,vQ]at this;omega
   simp(disch:=try exact dz)only[ht,↓gP,gY,gT];refine l9.bindS (d3o (x:=⟨some ⟨c',0,some 0⟩,1,1⟩) (xs:=[iV (L9 L n.t).1]) d5z zq d3U (HG'.keep (wZ c') λb k1 k2=>?_) ⟨rfl,Or.inr ⟨c',0,0,_,0,false,rfl,rfl,wu _,o7 _ _ _,rfl⟩⟩ rfl ?_ ?_ _ _) λy s hq=>?_;grind[d9];grind;omega;obtain⟨c2,h2,r2,w2⟩:=s;obtain⟨u',rfl,hn',HG2,hc2,hs2,hown⟩:=hq;simp only at HG2 hc2 hs2;have hs2':∀i,i<c0->h2.get i=h'.get i:=λi k1=>by have:=hs2 i zy (HG'.fresh k1);grind[d9]
   have H2:At U h0 sv fo ar ap lv q c2 h2 {R with i:=R.i+1} P:=⟨λi hi=>⟨by have:=hU0 i hi;omega,(H'.u i hi).2.1,(H'.u i hi).2.2.1,(hs2' i (hU0 i hi)).trans (H'.u i hi).2.2.2⟩,zy,zy,H'.ne,(hs2' ar ha).trans H'.hr,(hs2' ap hap).trans H'.hp⟩;have hs3:∀i,i<c0->i≠ar->i≠ap->h2.get i=hb0.get i:=λi k1 k2 k3=>(hs2' i k1).trans (hs1 i k1 k2 k3);have eR:S.map iV++[iV (L9 L n.t).1]=(S++[(L9 L n.t).1]).map iV:=by rw[ut];rfl
   rw[eR]at HG2;have eI:=c2f l (R.i+1);rw[hd']at eI;unfold isI at eI;cases hi2:l[R.i+1]? with|none=>rw[hi2]at eI;have eL:a2d (L9 L) q (n::t)=.ok [(L9 L n.t).1]:=yz;obtain⟨z,y,o1,o2,hm⟩:=a0R (m+5) H2 hl hi2;simp(disch:=try exact dz)only[hm,↓gP,gY,gT];refine l9.done ?_;refine⟨zu,λi k1 k2 k3=>?_,Or.inl ⟨_,eL,rfl,u',rfl,HG2.keep zu (λb k1 k2=>?_),H2.to zu (λi k1=>?_)⟩⟩;have:=hs3 i k1 k2 k3;grind[d9];grind[d9];grind[d9]|some n2=>rw[hi2]at eI;simp only at eI;obtain⟨z,y,o1,o2,nlm,hnm,hTm,hm⟩:=a0Q (m+5) H2 hl hi2;cases q1:Z0 n2.k n2.t with|false=>rw[q1]at eI;have eL:a2d (L9 L) q (n::t)=.ok [(L9 L n.t).1]:=yz;simp(disch:=try exact dz)only[hm,a1S,q1,↓gP,gY,gT];refine l9.done ?_;refine⟨zu,λi k1 k2 k3=>?_,Or.inl ⟨_,eL,rfl,u',rfl,HG2.keep zu (λb k1 k2=>?_),H2.to zu (λi k1=>?_)⟩⟩;have:=hs3 i k1 k2 k3;grind[d9];grind[d9];grind[d9]|true=>rw[q1]at eI;have eL:a2d (L9 L) q (n::t)=(a2d (L9 L) q t).cons (L9 L n.t).1:=yz;simp(disch:=try exact dz)only[hm,a1S,q1,↓gP,gY,gT];refine(ih {R with i:=R.i+1} k (S++[(L9 L n.t).1]) u' _ _ _ _ _ _ _ _ _ _ _ _ _ _ _ _ _ _ _ _ _ _ _ _ _ _ hd' zu zu zu zy (λi k1 k2 k3=>?_) (H2.to zy (λi k1=>?_)) (HG2.keep zy (λb k1 k2=>?_))).mono λx s hq=>?_;have:=hs3 i k1 k2 k3;grind[d9];grind[d9];grind[d9];obtain⟨p1,p2,hor⟩:=hq;refine⟨p1,p2,?_⟩;rcases hor with⟨ks,f1,f2,u2,f3,f4,f5⟩|⟨p,e,f1,f2,f3,f4⟩;rw[eL,f1];refine Or.inl ⟨_,rfl,f2,u2,f3,?_,?_⟩;rw[vT]at f4;exact f4;grind;rw[eL,f1];exact Or.inr ⟨p,e,rfl,f2,f3,f4⟩
   have eL:a2d (L9 L) q (n::t)=.er p e:=by unfold M8 at e1;rw[hi]at e1;simp only at e1;show bcase (Z0 n.k n.t) (bcase (decide ((L9 L n.t).2=0)) (bcase (hdI t) _ _) _) _=_;cases q1:Z0 n.k n.t<;>first|rfl|grind[F7,C9,decide]
   simp(disch:=try exact dz)only[↓gP,gY,gT];refine l9.done ?_;exact⟨zu,hs1,Or.inr ⟨p,e,eL,rfl,rfl,R',H'⟩⟩
end
theorem a9M (sz b o g n j k)(h:j<=n)(h0:sz≠0):a4d sz (.slice (some ⟨b,o,some g⟩) n sz) none (some (.int k (.ofNat j)))=M.pure (.slice (some ⟨b,o,some g⟩) j sz):=by show M.guard (Nat.beq sz sz) (cutN sz ⟨b,o,some g⟩ n none (some (.int k (.ofNat j))))=_;rw[J4,V4];show M.guard (Nat.ble 0 j&&Nat.ble j n&& !(Nat.beq sz 0)) (M.pure (Value.slice (some ⟨b,o+0*sz,some g⟩) (j-0) sz))=_;rw[a6c,a2e h,V5 h0,qx];rfl
theorem d0Z (sz b o g n j k)(h:j<=n)(h0:sz≠0):a4d sz (.slice (some ⟨b,o,some g⟩) n sz) (some (.int k (.ofNat j))) none=M.pure (.slice (some ⟨b,o+j*sz,some g⟩) (n-j) sz):=by show M.guard (Nat.beq sz sz) (cutN sz ⟨b,o,some g⟩ n (some (.int k (.ofNat j))) none)=_;rw[J4,V4];show M.guard (Nat.ble j n&&Nat.ble n n&& !(Nat.beq sz 0)) (M.pure (Value.slice (some ⟨b,o+j*sz,some g⟩) (n-j) sz))=_;rw[a2e h,a8x,V5 h0];rfl
theorem a7d {g}:∀(cs) (n) (vs) (m),A7 g cs n=some vs->m<=n->A7 g cs m=some (vs.take m):=by
 intro cs;induction cs with
  |nil=>intro n vs m h hm;cases n with|zero=>have:m=0:=zy;subst this;cases h;rfl|succ n=>cases h
  |cons q cs ih=>intro n vs m h hm;obtain⟨v,st⟩:=q;cases m with|zero=>rfl|succ m=>cases n with|zero=>omega|succ n=>have h':(match Nat.ble st g with|true=>(match A7 g cs n with|some vs=>some (v::vs)|none=>none)|false=>none)=some vs:=h;show(match Nat.ble st g with|true=>(match A7 g cs m with|some vs=>some (v::vs)|none=>none)|false=>none)=_;grind
section
variable {U:Nat->Prop}{h0:Trie VObj}{sv fo:Value}{F:Nat->List (Value×Value)}{L:List (List UInt8)}{ar ap:Nat}{lv:Sl}{q c:Nat}{h:Trie VObj}{R:RV}{P:PV}{l:List Nd}
theorem b1h (fd):∀(t) (ks),a2d fd q t=.ok ks->ks≠[]/\ks.length<=t.length:=by intro t;induction t with|nil=>intro ks h;cases h|cons n t ih=>intro ks h;have h':bcase (Z0 n.k n.t) (bcase (decide ((fd n.t).2=0)) (bcase (hdI t) ((a2d fd q t).cons (fd n.t).1) (.ok [(fd n.t).1])) (.er n.p (fd n.t).2)) (.er n.p 4)=Ls.ok ks:=h;cases q1:Z0 n.k n.t with|false=>rw[q1,F7]at h';cases h'|true=>rw[q1,C9]at h';cases q2:decide ((fd n.t).2=0)with|false=>rw[q2,F7]at h';cases h'|true=>rw[q2,C9]at h';cases q3:hdI t with|false=>rw[q3,F7]at h';grind|true=>rw[q3,C9]at h';cases q4:a2d fd q t with|er p e=>rw[q4]at h';cases h'|ok ks'=>rw[q4]at h';cases h';have:=(ih ks' q4).2;simp_all
def a8P (ks:List Nat):Nat:=ks.getLast?.getD 0
theorem f0o (E:Env U h0 sv F L)(m)(hRi:R.i<=l.length)(H:At U h0 sv fo ar ap lv q c h R P)(hl:NdL U h0 lv l)(r w):l9 (go (o8 A9 (m+7) 142 [.pointer (some ⟨ar,0,some 0⟩)]) ⟨c,h,r,w⟩) λx s=>c<=s.c/\(∀i,i<c->i≠ar->i≠ap->s.h.get i=h.get i)/\((∃ks,a2d (L9 L) q (l.drop R.i)=.ok ks/\x=.ret (.bool true)/\∃ls,SlU (λi=>c<=i/\i<s.c) s.h ls (ks.dropLast.map iV)/\At U h0 sv fo ar ap lv q s.c s.h {R with i:=R.i+ks.length,A:=a8P ks,ls:=ls} P)\/(∃p e,a2d (L9 L) q (l.drop R.i)=.er p e/\x=.ret (.bool false)/\∃R',At U h0 sv fo ar ap lv q s.c s.h R' {P with p:=p,e:=e})):=by
 have hll:=hl.len.2;have a1:=H.r;have a2:=H.p;have a4:ap≠ar:=λe=>H.ne e.symm;have hUc:∀i,U i->i<c:=λi hi=>(H.u i hi).1;rw[e0W];simp(disch:=try exact dz)only[e1x,↓gP];have hlp:=d1o (fo:=fo) (q:=q) (P:=P) E m hl c h a1 a2 hUc (l.drop R.i) R NN [] ⟨none,0,0⟩ undef undef undef undef undef undef undef undef undef undef undef undef undef undef undef undef undef undef undef undef undef undef c h;refine l9.bindJ (hlp _ _ rfl hRi (by rw[vz];grind) (by rw[vz];simp;omega) (xD c) (λ_ _ _ _=>rfl) H (a4D.nil _ _ _ _)) λy ll s hq=>?_;obtain⟨c',h',r',w'⟩:=s;obtain⟨hc,hs,⟨ks,e1,rfl,u',e2,HG,H'⟩|⟨p,e,e1,rfl,e2,R',H'⟩⟩:=hq;simp only at hc hs e2 HG H';rw[uu]at HG;obtain⟨hne,hkl⟩:=b1h _ _ _ e1;rw[vz]at hkl;obtain⟨k0,kt,rfl⟩:∃k0 kt,ks=k0::kt:=by cases ks<;>simp_all
 obtain⟨ua,un,ue⟩:=u';obtain⟨hn,h0'|⟨ab,g,cs,h2,h3,h4,h5,h6,h7,h8⟩⟩:=HG;exfalso;simp_all;simp only at h2 h3 hn;subst h2;subst h3;have hn':un=kt.length+1:=by rw[vQ,wK]at hn;grind
 subst hn';have hlen:=U7 (some ⟨ab,0,some g⟩) (kt.length+1) 1;have f1:N8 .i64 (Int.ofNat (kt.length+1)-Int.ofNat 1)=Int.ofNat kt.length:=by rw[show Int.ofNat (kt.length+1)-Int.ofNat 1=Int.ofNat kt.length by simp_all];grind[b0U]
 have f2:=a1d 1 kt.length (kt.length+1) .i64 ab 0 (some g) zy zq;rw[a5f,vQ]at f2;have f3:=a9M 1 ab 0 g (kt.length+1) kt.length .i64 zy zq;rw[wK]at h8;have hlast:((k0::kt).map iV)[kt.length]?=some (iV (a8P (k0::kt))):=by
  rw[wE];have:(k0::kt)[kt.length]?=some (a8P (k0::kt)):=by grind[a8P]
  rw[this];rfl
 have f4:=a1e h8 kt.length _ hlast;have hr':=H'.hr;have b1:=H'.r;have b2:ab≠ar:=zy;have b3:ab≠ap:=zy;simp(disch:=try exact dz)only[e1x,e2,hr',J9,hlen,f1,f2,f3,f4,h6,iV,↓gP,gY,Nat.reduceAdd];refine l9.done ?_;refine⟨zy,λi k1 k2 k3=>?_,Or.inl ⟨_,e1,rfl,⟨some ⟨ab,0,some g⟩,kt.length,1⟩,⟨zn,?_⟩,H'.setR (xD _) (λi k1 k2=>?_) ?_⟩⟩;have:=hs i k1 k2 k3;grind[d9];refine Or.inr ⟨ab,0,g,cs,g,false,rfl,rfl,⟨h4,h5⟩,?_,?_⟩;grind[d9];grind[Y7,a7d,List.dropLast_eq_take];grind[d9];grind[o7,J9];simp only at hc hs e2 H';simp(disch:=try exact dz)only[e2,↓gP,gY];exact l9.done ⟨hc,hs,Or.inr ⟨p,e,e1,rfl,R',H'⟩⟩
end
def b0d (F:Nat→List (Value×Value)) (L:List (List UInt8)) (al j:Nat) (l:List Nd) (q:Nat) (R:RV):Rs:=match j with
 | 1=>a6X F l q (a3c l R)
 | 2=>a6P R (M8 (L9 L) l q R.i)
 | 4=>a6P R (M8 (a0k (F 1)) l q R.i)
 | 5=>(a4J (a0k (F 2)) l q R).then fun R1=>a7h (a0k (F 0)) (fun R k=>{ R with A:=k }) l q R1
 | 7=>a6P R (M8 (a0k (F 7)) l q R.i)
 | 8=>a6P R (M8 (a0k (F 4)) l q R.i)
 | 9=>b5n (a0k (F 2)) l q R
 | 10=>b5E (a0k (F 2)) l q R
 | 11=>a8q (a0k (F 2)) (a0k (F 5)) l q R
 | 12=>a6P R (M8 (a0k (F 5)) l q R.i)
 | 13=>a4J (a0k (F 3)) l q R
 | 14=>b5E (a0k (F 3)) l q R
 | 15=>a8q (a0k (F 3)) (a0k (F 6)) l q R
 | 16=>a6P R (M8 (a0k (F 6)) l q R.i)
 | 17=>b7w F al l q R
 | 18=>a9f l q R
 | 19=>a9c l q R
 | 20=>b0z l q R
 | _=>.ok R
section
variable {U:Nat->Prop}{h0:Trie VObj}{sv fo:Value}{F:Nat->List (Value×Value)}{L:List (List UInt8)}{ar ap:Nat}{lv:Sl}{q c:Nat}{h:Trie VObj}{R:RV}{P:PV}{l:List Nd}
theorem e0I (E:Env U h0 sv F L)(m)(h27:decide (R.op=27)=false)(hop:a3M (.ofNat R.op)=true)(hj:P9 (.ofNat R.op)=3)(hRi:R.i<=l.length)(H:At U h0 sv fo ar ap lv q c h R P)(hl:NdL U h0 lv l)(r w):l9 (go (o8 A9 (m+9) 110 [.pointer (some ⟨ar,0,some 0⟩)]) ⟨c,h,r,w⟩) λx s=>c<=s.c/\(∀i,i<c->i≠ar->i≠ap->s.h.get i=h.get i)/\((∃ks,a2d (L9 L) q (l.drop R.i)=.ok ks/\x=.ret (.bool true)/\∃ls,SlU (λi=>c<=i/\i<s.c) s.h ls (ks.dropLast.map iV)/\At U h0 sv fo ar ap lv q s.c s.h {R with i:=R.i+ks.length,A:=a8P ks,ls:=ls} P)\/(∃p e,a2d (L9 L) q (l.drop R.i)=.er p e/\x=.ret (.bool false)/\∃R',At U h0 sv fo ar ap lv q s.c s.h R' {P with p:=p,e:=e})):=by have hr:=H.hr;have hp:=H.hp;have a1:=H.r;have a2:=H.p;have a3:=H.ne;have a4:ap≠ar:=λe=>H.ne e.symm;have a5:ar≠c:=zy;have a6:ap≠c:=zy;have a7:ar≠c+1:=zy;have a8:ap≠c+1:=zy;have hll:=hl.len.2;rw[c1f];have e39:=c8b (m+7) R.op hop;rw[hj]at e39;simp(disch:=try exact dz)only[c2c,hr,J9,J5,h27,e39,↓gP,gY,gT,Nat.reduceEqDiff,Nat.reduceAdd];refine l9.bindC (f0o E (m+1) hRi H hl _ _) λx s hq=>?_;obtain⟨hc,hs,hor⟩:=hq;rcases hor with⟨ks,e1,rfl,k2⟩|⟨p,e,e1,rfl,k2⟩;simp(disch:=try exact dz)only[gY];exact l9.done ⟨hc,hs,Or.inl ⟨ks,e1,rfl,k2⟩⟩;simp(disch:=try exact dz)only[gY];exact l9.done ⟨hc,hs,Or.inr ⟨p,e,e1,rfl,k2⟩⟩
theorem d6I (E:Env U h0 sv F L)(m)(hop:R.op=27)(hRi:R.i<=l.length)(H:At U h0 sv fo ar ap lv q c h R P)(hl:NdL U h0 lv l)(r w):l9 (go (o8 A9 (m+9) 110 [.pointer (some ⟨ar,0,some 0⟩)]) ⟨c,h,r,w⟩) λx s=>c<=s.c/\(∀i,i<c->i≠ar->i≠ap->s.h.get i=h.get i)/\((((l[R.i]?=none)\/∃n,l[R.i]?=some n/\Z4 n.k (a0f n.l) [114,101,115,117,108,116]=false)/\x=.ret (.bool true)/\At U h0 sv fo ar ap lv q s.c s.h R P)\/∃n,l[R.i]?=some n/\Z4 n.k (a0f n.l) [114,101,115,117,108,116]=true/\((∃t,a3e n q=.ok t/\x=.ret (.bool true)/\∃ts,SlU (λi=>c<=i/\i<s.c) s.h ts [iV t]/\At U h0 sv fo ar ap lv q s.c s.h {R with i:=R.i+1,op:=28,A:=0,B:=0,N:=0,k:=0,v:=0,bi:=0,ts:=ts,ls:=⟨none,0,0⟩} P)\/(∃p e,a3e n q=.er p e/\x=.ret (.bool false)/\∃R',At U h0 sv fo ar ap lv q s.c s.h R' {P with p:=p,e:=e}))):=by have hr:=H.hr;have hp:=H.hp;have a1:=H.r;have a2:=H.p;have a3:=H.ne;have a4:ap≠ar:=λe=>H.ne e.symm;have a5:ar≠c:=zy;have a6:ap≠c:=zy;have a7:ar≠c+1:=zy;have a8:ap≠c+1:=zy;have hlen:=hl.len.1;have e0:=U7 lv.a l.length lv.e;have hAg:AgU U h h0:=λi hi=>(H.u i hi).2.2.2;have hUc:∀i,U i->i<c:=λi hi=>(H.u i hi).1;have hn0:¬U c:=λhi=>vJ _ (hUc c hi);have hn1:¬U (c+1):=λhi=>zP;have hn2:¬U (c+2):=λhi=>zP;have hll:=hl.len.2;rw[c1f];have h27:decide (R.op=27)=true:=ww hop;cases hi:l[R.i]? with|none=>obtain⟨z,y,o1,o2,hm⟩:=a0R (m+7) H hl hi;simp(disch:=try exact dz)only[c2c,hr,J9,J5,h27,hm,↓gP,gY,gT];refine l9.done ?_;refine⟨zV,λi k1 k2 k3=>?_,Or.inl ⟨Or.inl (by first|rfl|trivial),rfl,H.to zV (λi k1=>?_)⟩⟩;simp(disch:=try exact xE)only[d9];simp(disch:=try exact xE)only[d9]|some n=>obtain⟨z,y,o1,o2,nlm,hnm,hTm,hm⟩:=a0Q (m+7) H hl hi;obtain⟨z2,hz2⟩:=b1q hnm.hd (m+7);have hz3:=λo1 o2 o3 o4 r w W=>hz2 (c+1+1) (V.upd (V.upd (V.upd (V.upd h c o1) c o2) (c+1) o3) (c+1) o4) r w n.k n.p n.t W (λi hi=>by have:=hUc i hi;omega) ((((hAg.upd hn0).upd hn0).upd hn1).upd hn1);cases q1:Z4 n.k (a0f n.l) [114,101,115,117,108,116]with|false=>simp(disch:=try exact dz)only[c2c,hr,J9,J5,h27,hm,hz3,q1,↓gP,gY,gT];refine l9.done ?_;refine⟨zV,λi k1 k2 k3=>?_,Or.inl ⟨Or.inr ⟨n,rfl,q1⟩,rfl,H.to zV (λi k1=>?_)⟩⟩;simp(disch:=try exact xE)only[d9];simp(disch:=try exact xE)only[d9]|true=>simp(disch:=try exact dz)only[c2c,hr,J9,J5,h27,hm,hz3,q1,↓gP,gY,gT];refine l9.bindC (e1D (m+4) zy (H.to ?_ λi hi=>?_) hl hi _ _) λx s hq=>?_;omega;simp(disch:=try exact xE)only[d9];obtain⟨c',h',r',w'⟩:=s;rcases hq with⟨t,eV,rfl,hF⟩|⟨p,e,eV,rfl,hF⟩;obtain⟨hc,hs0⟩:=hF.out (c:=c) (h:=h) zy (λi k1 k2 k3=>by simp(disch:=try exact xE)only[d9]);obtain⟨R',H',hR⟩:=hF.at';obtain rfl:=hR _ rfl;have H2:At U h0 sv fo ar ap lv q c' h' _ P:=H';have hr':=H2.hr;have c1:=H2.r;have c2:ar≠c':=zy;simp(disch:=try exact dz)only[hr',J9,↓gP,gY];refine l9.done ?_;refine⟨zV,λi k1 k2 k3=>?_,Or.inr ⟨n,rfl,q1,Or.inl ⟨t,eV,rfl,⟨some ⟨c',0,some 0⟩,1,1⟩,⟨rfl,Or.inr ⟨c',0,0,[(iV t,0)],0,false,rfl,rfl,⟨zy,zV⟩,?_,rfl⟩⟩,H2.setR zV (λi k1 k2=>?_) ?_⟩⟩⟩;have:=hs0 i k1 k2 k3;simp(disch:=try exact xE)only[d9];exact this;simp(disch:=try exact xE)only[d9,o7];rfl;simp(disch:=try exact xE)only[d9];simp(disch:=try exact xE)only[o7,J9,hlen];obtain⟨hc,hs0⟩:=hF.out (c:=c) (h:=h) zy (λi k1 k2 k3=>by simp(disch:=try exact xE)only[d9]);obtain⟨R',H',hR⟩:=hF.at';have H3:At U h0 sv fo ar ap lv q c' h' R' {P with p:=p,e:=e}:=H';have hr':=H3.hr;have c1:=H3.r;have c2:ar≠c':=zy;simp(disch:=try exact dz)only[hr',J9,↓gP,gY];refine l9.done ?_;refine⟨zV,λi k1 k2 k3=>?_,Or.inr ⟨n,rfl,q1,Or.inr ⟨p,e,eV,rfl,{R' with op:=28,A:=0,B:=0,N:=0,k:=0,v:=0,bi:=0,ts:=⟨some ⟨c',0,some 0⟩,1,1⟩,ls:=⟨none,0,0⟩},H3.setR zV (λi k1 k2=>?_) ?_⟩⟩⟩;have:=hs0 i k1 k2 k3;simp(disch:=try exact xE)only[d9];exact this;simp(disch:=try exact xE)only[d9];simp(disch:=try exact xE)only[o7,J9,hlen]
end
end
end Go.Proofs.YtmomonnlmbljoaaGreatDoor
