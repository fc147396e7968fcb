import Derived.Test.YtmomonnlmbljoaaGreatDoorHbb
set_option maxRecDepth 1000000
set_option maxHeartbeats 4000000
set_option linter.unusedVariables false
set_option linter.unusedSimpArgs false
section
namespace Go.Proofs.YtmomonnlmbljoaaGreatDoor
open Go.V Go.RowKit Go.Shelf Go.Proofs
variable {mL:Int}
attribute [local congr] m0 l9 n8 n9 q9 m8 s9 A1 A0
theorem Fin.out {U h0 sv fo ar ap lv q c c1 c'}{h h1 h':Trie VObj}{P rs r' w'}(H:Fin U h0 sv fo ar ap lv q c1 h1 P rs ⟨c',h',r',w'⟩)(hc:c<=c1)(hs:∀i,i<c->i≠ar->i≠ap->h1.get i=h.get i):c<=c'/\∀i,i<c->i≠ar->i≠ap->h'.get i=h.get i:=⟨wg hc H.le,λi k1 k2 k3=>(H.same i (xI k1 hc) k2 k3).trans (hs i k1 k2 k3)⟩
section
variable {U:Nat->Prop}{h0:Trie VObj}{sv fo:Value}{F:Nat->List (Value×Value)}{L:List (List UInt8)}{ar ap:Nat}{lv:Sl}{q c:Nat}{h:Trie VObj}{R:RV}{P:PV}{l:List Nd}
noncomputable def a6K (F:Nat->List (Value×Value))(l:List Nd)(q:Nat)(R:RV):Rs:=match l[R.i]? with|none=>.ok R|some n=>bcase (W7 n.k (a0i n.l) [114,101,115,117,108,116]) (match a1k n q with|.ok t=>.ok {R with i:=R.i+1,k:=1,v:=t,bi:=0}|.er p e=>.er p e) (bcase (W7 n.k (a0i n.l) [116,121,112,101]) (a6l (K3 (F 0)) (λR k=>{R with bi:=k}) l q {R with k:=2}) (.ok R))
noncomputable def a8q (l:List Nd)(R:RV):RV:=match l[R.i]? with|none=>R|some n=>bcase (decide (n.k=2)&&a4q n.t) {R with nm:=n.t,i:=R.i+1} R
theorem e3S (E:Env U h0 sv F L)(m)(hRi:R.i+1<4294967296)(H:At U h0 sv fo ar ap lv q c h R P)(hl:NdL U h0 lv l)(r w):d8 (go (j0 r7 (m+7) 140 [.pointer (some ⟨ar,0,some 0⟩)]) ⟨c,h,r,w⟩) (EndR U h0 sv fo ar ap lv q c h P (a6K F l q (a8q l R))):=by
 have hr:=H.hr;have hp:=H.hp;have a1:=H.r;have a2:=H.p;have a3:=H.ne;have a4:ap≠ar:=λe=>H.ne e.symm;have a5:ar≠c:=zy;have a6:ap≠c:=zy;have a7:ar≠c+1:=zy;have a8:ap≠c+1:=zy;have hlen:=hl.len.1;have e0:=I5 lv.a l.length lv.e;have hAg:AgU U h h0:=λi hi=>(H.u i hi).2.2.2;have hUc:∀i,U i->i<c:=λi hi=>(H.u i hi).1;have hn0:¬U c:=λhi=>wD _ (hUc c hi);have hn1:¬U (c+1):=λhi=>zX;have hn2:¬U (c+2):=λhi=>zX;rw[d8G];have hinc:=B8 R.i zy;apply d0r (Q:=λK=>∀(R1:RV) c1 h1 r1 w1,R1.i<4294967296->At U h0 sv fo ar ap lv q c1 h1 R1 P->c<=c1->(∀i,i<c->i≠ar->i≠ap->h1.get i=h.get i)->d8 (Y0 (go (j0 r7 (m+6) 138 [.pointer (some ⟨ar,0,some 0⟩)]) ⟨c1,h1,r1,w1⟩) K noP) (EndR U h0 sv fo ar ap lv q c h P (a6K F l q R1)));intro key;unfold a8q;cases hi:l[R.i]? with|none=>obtain⟨z,y,o1,o2,hm⟩:=T6 (m+5) H hl hi;simp(disch:=try exact dz)only[c2s,hm,↓gP,gY];refine key R _ _ _ _ zy (H.to ?_ λi hi=>?_) ?_ λi k1 k2 k3=>?_;omega;simp(disch:=first|assumption|omega)only[c9];omega;simp(disch:=first|assumption|omega)only[c9]|some n=>obtain⟨z,y,o1,o2,nlm,hnm,hTm,hm⟩:=T7 (m+5) H hl hi;simp only;cases q1:decide (n.k=2)with|false=>simp(disch:=try exact dz)only[c2s,hm,M9,q1,↓gP,gY,gT];refine key R _ _ _ _ zy (H.to ?_ λi hi=>?_) ?_ λi k1 k2 k3=>?_;omega;simp(disch:=first|assumption|omega)only[c9];omega;simp(disch:=first|assumption|omega)only[c9]|true=>have e107:=d7o (m+5) n.t hTm;cases q2:a4q n.t with|false=>simp(disch:=try exact dz)only[c2s,hm,M9,q1,q2,e107,↓gP,gY,gT];refine key R _ _ _ _ zy (H.to ?_ λi hi=>?_) ?_ λi k1 k2 k3=>?_;omega;simp(disch:=first|assumption|omega)only[c9];omega;simp(disch:=first|assumption|omega)only[c9]|true=>simp(disch:=try exact dz)only[c2s,hm,M9,q1,q2,e107,hr,z8,hinc,↓gP,gY];refine key {R with nm:=n.t,i:=R.i+1} _ _ _ _ zc (H.setR ?_ (λi hi hp=>?_) ?_) ?_ λi k1 k2 k3=>?_;omega;simp(disch:=first|assumption|omega)only[c9];simp(disch:=first|assumption|omega)only[d9,z8,hlen];omega;simp(disch:=first|assumption|omega)only[c9]
 intro R c h r w hRi H hc0 hs0;refine d8.mono (Q:=EndR U h0 sv fo ar ap lv q c h P (a6K F l q R)) ?_ λx s hq=>⟨hq.x,hq.f.of_to hc0 hs0⟩;have hr:=H.hr;have hp:=H.hp;have a1:=H.r;have a2:=H.p;have a3:=H.ne;have a4:ap≠ar:=λe=>H.ne e.symm;have a5:ar≠c:=zy;have a6:ap≠c:=zy;have a7:ar≠c+1:=zy;have a8:ap≠c+1:=zy;have hlen:=hl.len.1;have e0:=I5 lv.a l.length lv.e;have hAg:AgU U h h0:=λi hi=>(H.u i hi).2.2.2;have hUc:∀i,U i->i<c:=λi hi=>(H.u i hi).1;have hn0:¬U c:=λhi=>wD _ (hUc c hi);have hn1:¬U (c+1):=λhi=>zX;have hn2:¬U (c+2):=λhi=>zX;unfold a6K;cases hi:l[R.i]? with|none=>obtain⟨z,y,o1,o2,hm⟩:=T6 (m+5) H hl hi;simp(disch:=try exact dz)only[hm,↓gP,gY,Nat.reduceAdd];refine d8.done ⟨rfl,zc,λi hi h1 h2=>?_,R,H.to zc (λi hi=>?_),λR1 e=>zj⟩;simp(disch:=first|assumption|omega)only[c9];simp(disch:=first|assumption|omega)only[c9]|some n=>obtain⟨z,y,o1,o2,nlm,hnm,hTm,hm⟩:=T7 (m+5) H hl hi;obtain⟨z2,hz2⟩:=a8T hnm.hd (m+5);have hz3:=λo1 o2 o3 o4 r w W=>hz2 (c+1+1) (V.O2 (V.O2 (V.O2 (V.O2 h c o1) c o2) (c+1) o3) (c+1) o4) r w n.k n.p n.t W (λi hi=>by have:=hUc i hi;omega) ((((hAg.upd hn0).upd hn0).upd hn1).upd hn1);simp only;cases q1:W7 n.k (a0i n.l) [114,101,115,117,108,116]with|true=>simp(disch:=try exact dz)only[hm,hz3,q1,↓gP,gY,Nat.reduceAdd];refine d8.bindC (d4z (m+2) hRi (H.to ?_ λi hi=>?_) hl hi _ _) λx s hq=>?_;omega;simp(disch:=first|assumption|omega)only[c9];obtain⟨c',h',r',w'⟩:=s;rcases hq with⟨t,eV,rfl,hF⟩|⟨p,e,eV,rfl,hF⟩;obtain⟨hc,hs0⟩:=hF.out (c:=c) (h:=h) zy (λi k1 k2 k3=>yU);obtain⟨R',H',hR⟩:=hF.at';obtain rfl:=hR _ rfl;have H2:At U h0 sv fo ar ap lv q c' h' _ P:=H';have hr':=H2.hr;have c1:=H2.r;rw[eV];simp(disch:=try exact dz)only[hr',z8,↓gP,gY,Nat.reduceAdd];refine d8.done ?_;refine⟨rfl,zc,λi k1 k2 k3=>?_,_,H2.setR (xR _) (λi k1 k2=>?_) ?_,λR1 e=>zj⟩;have:=hs0 i k1 k2 k3;simp(disch:=first|assumption|omega)only[c9];exact this;simp(disch:=first|assumption|omega)only[c9];simp(disch:=first|assumption|omega)only[d9,z8,hlen];obtain⟨hc,hs0⟩:=hF.out (c:=c) (h:=h) zy (λi k1 k2 k3=>yU);obtain⟨R',H',hR⟩:=hF.at';have hr':=H'.hr;have c1:=H'.r;rw[eV];simp(disch:=try exact dz)only[hr',z8,↓gP,gY,Nat.reduceAdd];refine d8.done ?_;refine⟨rfl,zc,λi k1 k2 k3=>?_,{R' with k:=1,v:=0,bi:=0},H'.setR (xR _) (λi k1 k2=>?_) ?_,λR1 e=>zn⟩;have:=hs0 i k1 k2 k3;simp(disch:=first|assumption|omega)only[c9];exact this;simp(disch:=first|assumption|omega)only[c9];simp(disch:=first|assumption|omega)only[d9,z8,hlen]|false=>cases q2:W7 n.k (a0i n.l) [116,121,112,101]with|false=>simp(disch:=try exact dz)only[hm,hz3,q1,q2,↓gP,gY,Nat.reduceAdd];refine d8.done ⟨rfl,zc,λi hi h1 h2=>?_,R,H.to zc (λi hi=>?_),λR1 e=>zj⟩;simp(disch:=first|assumption|omega)only[c9];simp(disch:=first|assumption|omega)only[c9]|true=>simp(disch:=try exact dz)only[hm,hz3,q1,q2,hr,z8,↓gP,gY,Nat.reduceAdd];refine d8.bindC (d2l (R:={R with k:=2}) E m hRi (H.setR ?_ (λi hi hp=>?_) ?_) hl _ _) λx s hq=>?_;omega;simp(disch:=first|assumption|omega)only[c9];simp(disch:=first|assumption|omega)only[d9,z8,hlen];obtain⟨rfl,hF⟩:=hq;simp(disch:=try exact dz)only[gY];refine d8.done ⟨rfl,hF.of_to zy λi k1 k2 k3=>?_⟩;simp(disch:=first|assumption|omega)only[c9]
end
end Go.Proofs.YtmomonnlmbljoaaGreatDoor
end
section
namespace Go.Proofs.YtmomonnlmbljoaaGreatDoor
open Go.V Go.RowKit Go.Shelf Go.Proofs
variable {mL:Int}
attribute [local congr] m0 l9 n8 n9 q9 m8 s9 A1 A0
theorem d3H (T):(a2r T).1<=4294967295:=by unfold a2r;cases(V9 T).2.2 with|false=>rw[P6];decide|true=>rw[N8];cases(V9 T).2.1 with|true=>rw[vw,N8];decide|false=>rw[wZ];cases h:decide (4294967295<(V9 T).1)with|true=>rw[N8];decide|false=>rw[P6];rw[wu]at h;show(V9 T).1<=_;omega
theorem d2e (T gr)(hg:gr<18446744073709551616):(V7 T gr).1<18446744073709551616:=by have hl:=b1H (a0p T);unfold V7;cases(V9 (a0p T)).2.2 with|false=>rw[P6];decide|true=>rw[N8];cases((V9 (a0p T)).2.1||bcase (a7h T) (decide (gr/2+1<(V9 (a0p T)).1)) (decide (gr<(V9 (a0p T)).1)))with|true=>rw[N8];decide|false=>rw[P6];cases a7h T with|true=>rw[N8];exact vq vB hg|false=>rw[P6];exact hl
theorem b8u {T W}(h:Q3 T W=true):W.length<=T.length:=by unfold Q3 at h;rw[xM]at h;exact wj h.1
theorem b6m (T:List UInt8)(n)(h:T.length<90000):(z7 T n).length<90000:=by rw[Q8,wM];omega
noncomputable def a1p (l:List Nd)(R:RV):Rs:=match l[R.i]? with|none=>.ok R|some n=>bcase (decide (n.k=2)) (bcase (Q3 n.t [111,102,102,115,101,116,61]) (bcase (decide ((a2r (z7 n.t 7)).2=0)) (.ok {R with i:=R.i+1,N:=(a2r (z7 n.t 7)).1}) (.er n.p (a2r (z7 n.t 7)).2)) (.ok R)) (.ok R)
noncomputable def a5M (l:List Nd)(R:RV):Rs:=match l[R.i]? with|none=>.ok R|some n=>bcase (decide (n.k=2)) (bcase (Q3 n.t [97,108,105,103,110,61]) (bcase (decide ((V7 (z7 n.t 6) 18446744073709551615).2=0)) (match a4k (V7 (z7 n.t 6) 18446744073709551615).1 with|some i=>.ok {R with i:=R.i+1,A:=i}|none=>.er n.p 4) (.er n.p (V7 (z7 n.t 6) 18446744073709551615).2)) (.ok R)) (.ok R)
section
variable {U:Nat->Prop}{h0:Trie VObj}{sv fo:Value}{F:Nat->List (Value×Value)}{L:List (List UInt8)}{ar ap:Nat}{lv:Sl}{q c:Nat}{h:Trie VObj}{R:RV}{P:PV}{l:List Nd}
theorem c5j {fd l q R R'}(h:a3Y fd l q R=.ok R'):R'.i<=R.i+1:=by
 unfold a3Y at h;cases qi:isI l R.i with
  |true=>rw[qi,N8]at h;cases q2:D9 fd l q R.i with|ok k=>rw[q2]at h;cases h;exact xR _|er p e=>rw[q2]at h;cases h
  |false=>rw[qi,P6]at h;cases h;exact wy _
noncomputable def b4y (F:Nat→List (Value×Value)) (al:Nat) (l:List Nd) (q:Nat) (R:RV):Rs:=(a3Y (K3 (F 3)) l q { R with A:=al }).then fun R1=>(a1p l R1).then fun R2=>a5M l R2
theorem e5b (E:Env U h0 sv F L) (m) (hRi:R.i+2<4294967296) {al} (hal:N4 R7 (.ofNat R.op)=some al) (H:At U h0 sv fo ar ap lv q c h R P) (hl:NdL U h0 lv l) (r w) :
 d8 (go (j0 r7 (m+8) 147 [.pointer (some ⟨ar, 0,some 0⟩)]) ⟨c,h,r,w⟩) (EndR U h0 sv fo ar ap lv q c h P (b4y F al l q R)):=by
 have hr:=H.hr
 have hp:=H.hp
 have a1:=H.r
 have a2:=H.p
 have a3:=H.ne
 have a4:ap≠ar:=fun e=>H.ne e.symm
 have a5:ar≠c:=zy
 have a6:ap≠c:=zy
 have a7:ar≠c+1:=zy
 have a8:ap≠c+1:=zy
 have hlen:=hl.len.1
 have e0:=I5 lv.a l.length lv.e
 have hAg:AgU U h h0:=fun i hi=>(H.u i hi).2.2.2
 have hUc:∀ i,U i→i<c:=fun i hi=>(H.u i hi).1
 have hn0:¬ U c:=fun hi=>wD _ (hUc c hi)
 have hn1:¬ U (c+1):=fun hi=>ya
 have hn2:¬ U (c+2):=fun hi=>ya
 rw [d7J]
 have e94:=d9s (m+6) R.op al hal
 simp (disch:=try exact dz) only [b4I,hr,z8,e94, ↓gP,gY,Nat.reduceAdd]
 refine d8.bindC (b9d (R:={ R with A:=al }) E (m+1) (Or.inr ⟨3,zv,rfl,rfl⟩) (H.setR ?_ (fun i hi hp=>?_) ?_) hl _ _) fun x s hq=>?_
 · omega
 · simp (disch:=first | assumption | omega) only [c9]
 · simp (disch:=first | assumption | omega) only [d9,z8,hlen]
 obtain ⟨rfl,hF⟩:=hq
 obtain ⟨c',h',r',w'⟩:=s
 unfold b4y
 generalize hm:a3Y (K3 (F 3)) l q { R with A:=al }=rs at hF ⊢
 obtain ⟨hc,hs0⟩:=hF.out (c:=c) (h:=h) zy (fun i k1 k2 k3=>by simp (disch:=first | assumption | omega) only [c9])
 cases rs with
 | er p e=>
   simp (disch:=try exact dz) only [Rs.b, ↓gP,gY,gT]
   exact d8.done ⟨rfl,⟨zV,hs0,hF.at'⟩⟩
 | ok R1=>
   obtain ⟨R',H',hR⟩:=hF.at'
   obtain rfl:=hR _ rfl
   have H2:At U h0 sv fo ar ap lv q c' h' R' P:=H'
   have hb:R'.i+1<4294967296:=by
    have hle:=c5j hm
    dsimp only at hle
    omega
   simp (disch:=try exact dz) only [Rs.b, ↓gP,gY,gT]
   refine d8.mono (Q:=EndR U h0 sv fo ar ap lv q c' h' P ((a1p l R').then fun R1=>a5M l R1)) ?_ fun x s hq=>⟨hq.x,hq.f.of_to hc hs0⟩
   have hr:=H2.hr
   have hp:=H2.hp
   have a1:=H2.r
   have a2:=H2.p
   have a3:=H2.ne
   have a4:ap≠ar:=fun e=>H2.ne e.symm
   have a5:ar≠c':=zy
   have a6:ap≠c':=zy
   have a7:ar≠c'+1:=zy
   have a8:ap≠c'+1:=zy
   have hlen:=hl.len.1
   have e0:=I5 lv.a l.length lv.e
   have hAg:AgU U h' h0:=fun i hi=>(H2.u i hi).2.2.2
   have hUc:∀ i,U i→i<c':=fun i hi=>(H2.u i hi).1
   have hn0:¬ U c':=fun hi=>wD _ (hUc c' hi)
   have hn1:¬ U (c'+1):=fun hi=>ya
   have hn2:¬ U (c'+2):=fun hi=>ya
   have hinc:=B8 R'.i zy
   apply d0r (Q:=fun K=>∀ (R1:RV) c1 h1 r1 w1,R1.i<4294967296→At U h0 sv fo ar ap lv q c1 h1 R1 P→c'≤c1→(∀ i,i<c'→i≠ar→i≠ap→h1.get i=h'.get i)→d8 (Y0 (go (j0 r7 (m+7) 138 [.pointer (some ⟨ar, 0,some 0⟩)]) ⟨c1,h1,r1,w1⟩) K noP) (EndR U h0 sv fo ar ap lv q c' h' P (a5M l R1)))
   · intro key
     unfold a1p Rs.then
     cases hi:l[R'.i]? with
     | none=>
       obtain ⟨z,y,o1,o2,hm⟩:=T6 (m+6) H2 hl hi
       simp (disch:=try exact dz) only [hm, ↓gP,gY]
       refine key R' _ _ _ _ zy (H2.to ?_ fun i hi=>?_) ?_ fun i k1 k2 k3=>?_
       · omega
       · simp (disch:=first | assumption | omega) only [c9]
       · omega
       · simp (disch:=first | assumption | omega) only [c9]
     | some n=>
       obtain ⟨z,y,o1,o2,nlm,hnm,hTm,hm⟩:=T7 (m+6) H2 hl hi
       simp only
       cases q1:decide (n.k=2) with
       | false=>
         simp (disch:=try exact dz) only [hm,M9,q1, ↓gP,gY]
         refine key R' _ _ _ _ zy (H2.to ?_ fun i hi=>?_) ?_ fun i k1 k2 k3=>?_
         · omega
         · simp (disch:=first | assumption | omega) only [c9]
         · omega
         · simp (disch:=first | assumption | omega) only [c9]
       | true=>
       cases q2:Q3 n.t [111, 102, 102, 115, 101, 116, 61] with
       | false=>
         simp (disch:=try exact dz) only [hm,M9,q1,b0c,q2, ↓gP,gY]
         refine key R' _ _ _ _ zy (H2.to ?_ fun i hi=>?_) ?_ fun i k1 k2 k3=>?_
         · omega
         · simp (disch:=first | assumption | omega) only [c9]
         · omega
         · simp (disch:=first | assumption | omega) only [c9]
       | true=>
       have hsl:=P2 n.t .i64 7 (b8u q2)
       have hT7:=b6m n.t 7 hTm
       have e81:=e2B (m+6) (z7 n.t 7) hT7
       cases q3:decide ((a2r (z7 n.t 7)).2=0) with
       | false=>
         simp (disch:=try exact dz) only [b4I,hm,M9,q1,b0c,q2,hsl,e81,q3,hr,hp,z8,w7,J3,U9, ↓gP,gY,gT,Nat.reduceAdd]
         refine d8.done ?_
         refine ⟨rfl,zV,fun i hi h1 h2=>?_,R',H2.setP zV (fun i hi hp=>?_) ?_,fun R1 e=>zn⟩
         · simp (disch:=first | assumption | omega) only [c9]
         · simp (disch:=first | assumption | omega) only [c9]
         · simp (disch:=first | assumption | omega) only [d9,w7,Rs.P]
       | true=>
         have hcv:G8 .u64 (Int.ofNat (a2r (z7 n.t 7)).1)=Int.ofNat (a2r (z7 n.t 7)).1:=d1K _ (by have:=d3H (z7 n.t 7); omega)
         simp (disch:=try exact dz) only [b4I,hm,M9,q1,b0c,q2,hsl,e81,q3,hcv,hr,z8,hinc, ↓gP,gY,gT,Nat.reduceAdd]
         refine key { R' with i:=R'.i+1,N:=(a2r (z7 n.t 7)).1 } _ _ _ _ zV (H2.setR ?_ (fun i hi hp=>?_) ?_) ?_ fun i k1 k2 k3=>?_
         · omega
         · simp (disch:=first | assumption | omega) only [c9]
         · simp (disch:=first | assumption | omega) only [d9,z8,hlen]
         · omega
         · simp (disch:=first | assumption | omega) only [c9]
   · intro R c h r w hRi H hc0 hs0
     refine d8.mono (Q:=EndR U h0 sv fo ar ap lv q c h P (a5M l R)) ?_ fun x s hq=>⟨hq.x,hq.f.of_to hc0 hs0⟩
     have hr:=H.hr
     have hp:=H.hp
     have a1:=H.r
     have a2:=H.p
     have a3:=H.ne
     have a4:ap≠ar:=fun e=>H.ne e.symm
     have a5:ar≠c:=zy
     have a6:ap≠c:=zy
     have a7:ar≠c+1:=zy
     have a8:ap≠c+1:=zy
     have hlen:=hl.len.1
     have e0:=I5 lv.a l.length lv.e
     have hAg:AgU U h h0:=fun i hi=>(H.u i hi).2.2.2
     have hUc:∀ i,U i→i<c:=fun i hi=>(H.u i hi).1
     have hn0:¬ U c:=fun hi=>wD _ (hUc c hi)
     have hn1:¬ U (c+1):=fun hi=>ya
     have hn2:¬ U (c+2):=fun hi=>ya
     have hinc:=B8 R.i hRi
     unfold a5M
     cases hi:l[R.i]? with
     | none=>
       obtain ⟨z,y,o1,o2,hm⟩:=T6 (m+6) H hl hi
       simp (disch:=try exact dz) only [hm, ↓gP,gY]
       refine d8.done ?_
       refine ⟨rfl,zV,fun i hi h1 h2=>?_,R,H.to zV (fun i hi=>?_),fun R1 e=>by cases e; rfl⟩
       · simp (disch:=first | assumption | omega) only [c9]
       · simp (disch:=first | assumption | omega) only [c9]
     | some n=>
       obtain ⟨z,y,o1,o2,nlm,hnm,hTm,hm⟩:=T7 (m+6) H hl hi
       simp only
       cases q1:decide (n.k=2) with
       | false=>
         simp (disch:=try exact dz) only [hm,M9,q1, ↓gP,gY]
         refine d8.done ?_
         refine ⟨rfl,zV,fun i hi h1 h2=>?_,R,H.to zV (fun i hi=>?_),fun R1 e=>by cases e; rfl⟩
         · simp (disch:=first | assumption | omega) only [c9]
         · simp (disch:=first | assumption | omega) only [c9]
       | true=>
       cases q2:Q3 n.t [97, 108, 105, 103, 110, 61] with
       | false=>
         simp (disch:=try exact dz) only [hm,M9,q1,b0c,q2, ↓gP,gY]
         refine d8.done ?_
         refine ⟨rfl,zV,fun i hi h1 h2=>?_,R,H.to zV (fun i hi=>?_),fun R1 e=>by cases e; rfl⟩
         · simp (disch:=first | assumption | omega) only [c9]
         · simp (disch:=first | assumption | omega) only [c9]
       | true=>
       have hsl:=P2 n.t .i64 6 (b8u q2)
       have hT6:=b6m n.t 6 hTm
       have e186:=b5K (m+6) (z7 n.t 6) hT6
       have hv:=d2e (z7 n.t 6) 18446744073709551615 zv
       cases q3:decide ((V7 (z7 n.t 6) 18446744073709551615).2=0) with
       | false=>
         simp (disch:=try exact dz) only [b4I,hm,M9,q1,b0c,q2,hsl,e186,q3,hr,hp,z8,w7,J3,U9, ↓gP,gY,gT]
         refine d8.done ?_
         refine ⟨rfl,zV,fun i hi h1 h2=>?_,R,H.setP zV (fun i hi hp=>?_) ?_,fun R1 e=>zn⟩
         · simp (disch:=first | assumption | omega) only [c9]
         · simp (disch:=first | assumption | omega) only [c9]
         · simp (disch:=first | assumption | omega) only [d9,w7,Rs.P]
       | true=>
       have e187:=d5x (m+6) _ hv
       have hpop:=c9f _ hv
       cases q4:a4k (V7 (z7 n.t 6) 18446744073709551615).1 with
       | none=>
         rw [q4] at hpop
         have hpop':decide (pop (V7 (z7 n.t 6) 18446744073709551615).1=1)=false:=hpop
         simp (disch:=try exact dz) only [b4I,hm,M9,q1,b0c,q2,hsl,e186,q3,e187,hpop',hr,hp,z8,w7,J3,U9, ↓gP,gY,gT]
         refine d8.done ?_
         refine ⟨rfl,zV,fun i hi h1 h2=>?_,R,H.setP zV (fun i hi hp=>?_) ?_,fun R1 e=>zn⟩
         · simp (disch:=first | assumption | omega) only [c9]
         · simp (disch:=first | assumption | omega) only [c9]
         · simp (disch:=first | assumption | omega) only [d9,w7,Rs.P]
       | some j=>
         rw [q4] at hpop
         have hpop':decide (pop (V7 (z7 n.t 6) 18446744073709551615).1=1)=true:=hpop
         have e188:=d7y (m+6) _ j q4
         simp (disch:=try exact dz) only [b4I,hm,M9,q1,b0c,q2,hsl,e186,q3,e187,hpop',e188,hr,z8,hinc, ↓gP,gY,gT,Nat.reduceAdd]
         refine d8.done ?_
         refine ⟨rfl,zV,fun i k1 k2 k3=>?_,_,H.setR zV (fun i k1 k2=>?_) ?_,fun R1 e=>by cases e; rfl⟩
         · simp (disch:=first | assumption | omega) only [c9]
         · simp (disch:=first | assumption | omega) only [c9]
         · simp (disch:=first | assumption | omega) only [d9,z8,hlen]
end
end Go.Proofs.YtmomonnlmbljoaaGreatDoor
end
section
namespace Go.Proofs.YtmomonnlmbljoaaGreatDoor
open Go.V Go.RowKit Go.Shelf Go.Proofs
variable {mL:Int}
attribute [local congr] m0 l9 n8 n9 q9 m8 s9 A1 A0
theorem b0L {α}(cs:List α)(n)(h:j9 cs=n):Q2 cs n=cs:=by rw[a0k];rw[y9]at h;rw[<-h];exact List.take_length
theorem a9R {g}:∀(cs) (n) (rows xs),j9 cs=n->j8 g cs n=some rows->j8 (g+1) (m9 cs (G4 (λv=>(v,g+1)) xs)) (n+xs.length)=some (rows++xs):=by
 have new:∀(xs:List Value),j8 (g+1) (G4 (λv=>(v,g+1)) xs) xs.length=some xs:=by intro xs;induction xs with|nil=>exact I6 _ _|cons x xs ih=>show(match Nat.ble (g+1) (g+1)with|true=>(match j8 (g+1) (G4 (λv=>(v,g+1)) xs) xs.length with|some vs=>some (x::vs)|none=>none)|false=>none)=_;rw[a1E,ih]
 intro cs;induction cs with
  |nil=>
   intro n rows xs hn h;have hn:n=0:=hn.symm;subst hn;have h:rows=[]:=by rw[I6]at h;cases h;rfl
   subst h;rw[wt];exact new xs|cons q cs ih=>intro n rows xs hn h;obtain⟨v,st⟩:=q;have hn:j9 cs+1=n:=hn;subst hn;have h':(match Nat.ble st g with|true=>(match j8 g cs (j9 cs)with|some vs=>some (v::vs)|none=>none)|false=>none)=some rows:=h;cases q1:Nat.ble st g with|false=>rw[q1]at h';cases h'|true=>rw[q1]at h';cases q2:j8 g cs (j9 cs)with|none=>rw[q2]at h';cases h'|some vs=>rw[q2]at h';cases h';have hle:Nat.ble st (g+1)=true:=ux (Nat.le_succ_of_le (wk q1));rw[wm];show(match Nat.ble st (g+1)with|true=>(match j8 (g+1) (m9 cs (G4 (λv=>(v,g+1)) xs)) (j9 cs+xs.length)with|some vs=>some (v::vs)|none=>none)|false=>none)=_;rw[hle,ih (j9 cs) vs xs rfl q2];rfl
def a2G (sz c0 c:Nat)(h:Trie VObj)(u:Sl)(rows:List Value):Prop:=rows.length=u.n*sz/\((u=⟨none,0,0⟩)\/∃ab g cs,u.a=some ⟨ab,0,some g⟩/\u.e=sz/\c0<=ab/\ab<c/\h.get ab=some (.cells cs g false)/\j9 cs=rows.length/\j8 g cs rows.length=some rows)
def b3N (sz c:Nat)(h:Trie VObj)(x:Sl)(xs:List Value):Prop:=xs.length=x.n*sz/\(x.n=0\/∃xb ox gx cs cur ro,x.a=some ⟨xb,ox,some gx⟩/\x.e=sz/\xb<c/\h.get xb=some (.cells cs cur ro)/\j8 gx (z7 cs ox) xs.length=some xs)
theorem a2G.nil (sz c0 c h):a2G sz c0 c h ⟨none,0,0⟩ []:=⟨zu,Or.inl rfl⟩
theorem a2G.mono {sz c0 c c' h h' u rows}(H:a2G sz c0 c h u rows)(hc:c<=c')(hh:∀b,c0<=b->b<c->(∀a,u.a=some a->a.block=b->h'.get b=h.get b)):a2G sz c0 c' h' u rows:=by obtain⟨h1,h2|⟨ab,g,cs,h2,h3,h4,h5,h6,h7,h8⟩⟩:=H;exact⟨h1,Or.inl h2⟩;exact⟨h1,Or.inr ⟨ab,g,cs,h2,h3,h4,zy,(hh ab h4 h5 _ h2 rfl).trans h6,h7,h8⟩⟩
def Sl.own (u:Sl)(i:Nat):Prop:=∃a,u.a=some a/\a.block=i
theorem b3x {sz c h x xs}(X:b3N sz c h x xs)(r w):∃r',go (a6U sz (.slice x.a x.n x.e)) ⟨c,h,r,w⟩=some (xs,⟨c,h,r',w⟩):=by
 obtain⟨xa,xn,xe⟩:=x;obtain⟨h1,h2⟩:=X;simp only at h1 h2;cases xn with
  |zero=>have:xs=[]:=wP.1 (by rw[h1,vW]);subst this;cases xa with|none=>exact⟨r,rfl⟩|some a=>exact⟨r,rfl⟩
  |succ m=>rcases h2 with h2|⟨xb,ox,gx,cs,cur,ro,rfl,rfl,h3,h4,h5⟩;cases h2;refine⟨xb::r,?_⟩;show go (M.guard (Nat.beq xe xe) (loadN ⟨xb,ox,some gx⟩ ((m+1)*xe))) ⟨c,h,r,w⟩=_;rw[I4,F6,V8,A5 h3,h4,O4,<-h1,h5];rfl
theorem c9K {e sz}(e1:e.size=sz)(e0:0<sz)(e2:Nat.blt e.bytes 4096=true){c0 c h u x rows xs}(H:a2G sz c0 c h u rows)(X:b3N sz c h x xs)(ho:A9 D5 xs=true)(hl:(u.n+x.n)*4<4294967296)(hc:c0<=c)(r w):d8 (go (a2B e (.slice u.a u.n u.e) (.slice x.a x.n x.e)) ⟨c,h,r,w⟩) λy s=>∃u',y=.slice u'.a u'.n u'.e/\u'.n=u.n+x.n/\a2G sz c0 s.c s.h u' (rows++xs)/\c<=s.c/\(∀i,i<c->¬u.own i->s.h.get i=h.get i)/\∀i,i<c->u'.own i->u.own i:=by
 obtain⟨r',hs⟩:=b3x X r w;unfold a2B;rw[e1,B4,hs,B2,M4];obtain⟨hx,_⟩:=X;cases xs with
  |nil=>have hx0:x.n=0:=yH;refine⟨_,_,rfl,u,rfl,zy,by rw[xJ];exact H,xR _,λ_ _ _=>rfl,λ_ _ h=>h⟩|cons v vs=>
   have hlen:j9 (v::vs)=x.n*sz:=by rw[y9];exact hx
   have hlen':j9 vs+1=x.n*sz:=hlen;have hdiv:(j9 vs+1)/sz=x.n:=by rw[hlen'];exact Nat.mul_div_cancel _ e0
   have hg1:Nat.beq (x.n*sz) (j9 vs+1)=true:=by rw[hlen'];exact I4 _
   have hg2:Nat.blt ((u.n+x.n)*4) a2J=true:=A5 hl;unfold X7;simp only[a0C,e1,hdiv,hg1,ho,hg2,e2,vz,F6];obtain⟨hrl,rfl|⟨ab,g,cs,h2,h3,h4,h5,h6,h7,h8⟩⟩:=H;have hr0:rows=[]:=by
    have:rows.length=0:=by rw[hrl];exact vW _
    exact wP.1 this
   subst hr0;simp only[I4,F6];rw[B4,Y4 _ _ _ _ _ ho,B2];refine⟨_,_,rfl,⟨some ⟨c,0,some 0⟩,x.n,sz⟩,rfl,(wt _).symm,⟨?_,Or.inr ⟨c,0,_,rfl,rfl,hc,xG c,d9 _ _ _,?_,?_⟩⟩,wy c,λi hi _=>c9 zy,λi hi hq=>?_⟩;exact hx;rw[y9,S9,xF];rfl;have:∀l:List Value,j8 0 (G4 (λv=>(v,0)) l) l.length=some l:=yj;exact this (v::vs);obtain⟨a,ha,hb⟩:=hq;cases ha;simp only at hb;omega;obtain⟨ua,un,ue⟩:=u;simp only at h2 h3 hrl hl⊢;subst h2;subst h3;simp only[I4,F6];unfold appendAt;have hb:Nat.ble (0+un*ue) (j9 cs)=true:=by rw[wt,h7,hrl];exact a1E _
   simp only[r9,e1];rw[B4];show d8 (H7 (rd ab ⟨c,h,r',w⟩) _) _;rw[b1u,A5 h5,h6];simp only[B2,a3p,vt,F6,hb,J7];rw[<-hrl,h8,r9,M4,wt,b0L cs rows.length h7,B4];show d8 (H7 (wr ab _ _) _) _;rw[b1r,A5 h5,h6];refine⟨_,_,rfl,⟨some ⟨ab,0,some (g+1)⟩,un+x.n,ue⟩,rfl,rfl,⟨?_,Or.inr ⟨ab,g+1,_,rfl,rfl,h4,h5,d9 _ _ _,?_,?_⟩⟩,xR c,λi hi hq=>c9 (λe=>hq ⟨_,rfl,e.symm⟩),λi hi hq=>?_⟩;rw[xE,hrl,hx,vJ];rw[P1,h7,y9,S9,xF,xE];rw[xE];exact a9R cs rows.length rows (v::vs) h7 h8;obtain⟨a,ha,hb⟩:=hq;cases ha;exact⟨_,rfl,hb⟩
theorem d8.footS {α β x}{f:α×W9->M β}{r w P Q}(h:d8 x P)(k:∀a s,P a s->d8 (go (f (a,(s.r,s.w))) ⟨s.c,s.h,m9 s.r r,m9 s.w w⟩) Q):d8 (H7 (V.b7s x r w) f) Q:=by obtain⟨a,s,e,p⟩:=h;rw[e];exact k a s p
theorem d9Q:ti3.size=1:=zw
theorem e2r:Nat.blt ti3.bytes 4096=true:=zw
theorem e0p:ti9.size=1:=zw
theorem d9l:Nat.blt ti9.bytes 4096=true:=zw
theorem a9v:b1i.size=9:=zw
theorem a9i:Nat.blt b1i.bytes 4096=true:=zw
end Go.Proofs.YtmomonnlmbljoaaGreatDoor
end
section
namespace Go.Proofs.YtmomonnlmbljoaaGreatDoor
open Go.V Go.RowKit Go.Shelf Go.Proofs
variable {mL:Int}
attribute [local congr] m0 l9 n8 n9 q9 m8 s9 A1 A0
theorem At.setO {U h0 sv fo ar ap lv q c h h' R P}(H:At U h0 sv fo ar ap lv q c h R P){b}(b2:b≠ar)(b3:b≠ap)(b4:¬U b)(hs:∀i,i≠b->h'.get i=h.get i):At U h0 sv fo ar ap lv q c h' R P:=⟨λi hi=>⟨(H.u i hi).1,(H.u i hi).2.1,(H.u i hi).2.2.1,(hs i (λe=>b4 (e▸hi))).trans (H.u i hi).2.2.2⟩,H.r,H.p,H.ne,(hs ar (λe=>b2 e.symm)).trans H.hr,(hs ap (λe=>b3 e.symm)).trans H.hp⟩
section
variable {U:Nat->Prop}{h0:Trie VObj}{sv fo:Value}{F:Nat->List (Value×Value)}{L:List (List UInt8)}{ar ap:Nat}{lv:Sl}{q c:Nat}{h:Trie VObj}{R:RV}{P:PV}{l:List Nd}
theorem c5Y (E:Env U h0 sv F L)(m){kv fd}(hk:a5Z F L kv fd)(H:At U h0 sv fo ar ap lv q c h R P)(hl:NdL U h0 lv l){tb}(b1:tb<c)(b2:tb≠ar)(b3:tb≠ap)(b4:¬U tb){v0}(htb:h.get tb=some (.cells [(v0,0)] 0 false))(r w):d8 (go (j0 r7 (m+5) 183 [.pointer (some ⟨ar,0,some 0⟩),kv,.pointer (some ⟨tb,0,some 0⟩)]) ⟨c,h,r,w⟩) λx s=>c<=s.c/\(∀i,i<c->i≠ar->i≠ap->i≠tb->s.h.get i=h.get i)/\((∃k,D9 fd l q R.i=.ok k/\x=.ret (.bool true)/\At U h0 sv fo ar ap lv q s.c s.h {R with i:=R.i+1} P/\s.h.get tb=some (.cells [(.int .i64 (.ofNat k),0)] 0 false))\/(∃p e,D9 fd l q R.i=.er p e/\x=.ret (.bool false)/\∃R',At U h0 sv fo ar ap lv q s.c s.h R' {P with p:=p,e:=e})):=by
 have hr:=H.hr;have hp:=H.hp;have a1:=H.r;have a2:=H.p;have a3:=H.ne;have a4:ap≠ar:=λe=>H.ne e.symm;have a5:ar≠c:=zy;have a6:ap≠c:=zy;have a7:ar≠c+1:=zy;have a8:ap≠c+1:=zy;have b5:tb≠c:=zy;have b6:tb≠c+1:=zy;have b7:ar≠tb:=λe=>b2 e.symm;have b8:ap≠tb:=λe=>b3 e.symm;have hlen:=hl.len.1;have e0:=I5 lv.a l.length lv.e;rw[b8G];cases hi:l[R.i]? with
  |none=>
   obtain⟨z,y,o1,o2,hm⟩:=T6 (m+3) H hl hi;have hlt:l.length<=R.i:=zi;have d1:decide (R.i<l.length)=false:=zZ;have eS:D9 fd l q R.i=.er q 4:=by unfold D9;rw[hi]
   simp(disch:=try exact dz)only[b0b,hm,hr,hp,z8,w7,U3,a1h,J3,U9,hlen,e0,P5,d1,↓gP,gY,gT];refine d8.done ?_;refine⟨zc,λi hi h1 h2 h3=>?_,Or.inr ⟨_,_,eS,rfl,R,H.setP zc (λi hi hp=>?_) ?_⟩⟩;simp(disch:=first|assumption|omega)only[c9];simp(disch:=first|assumption|omega)only[c9];simp(disch:=first|assumption|omega)only[d9,w7]|some n=>
   obtain⟨z,y,o1,o2,nl,hn,hT,hm⟩:=T7 (m+3) H hl hi;have hlt:R.i<l.length:=(xQ.1 hi).1;have d1:decide (R.i<l.length)=true:=zY;have hinc:=B8 R.i xw;cases q1:M2 n.k n.t with
    |false=>have eS:D9 fd l q R.i=.er n.p 4:=yQ;obtain⟨b,p,g,cs,cur,ro,nl',hb,hg,_,_,e1,e2,e3,e4,e5,e6⟩:=hl.get hi;obtain⟨u1,u2,u3,u4⟩:=H.u b hb;have hg':=u4.trans hg;rw[hlen]at e1;have b1:b≠c:=zy;have b2:b≠c+1:=zy;simp(disch:=try exact dz)only[b0b,hm,Y7,q1,hr,hp,z8,w7,U3,a1h,J3,U9,hlen,e0,P5,d1,e1,e4,hg',↓gP,gY,gT];refine d8.done ?_;refine⟨zc,λi hi h1 h2 h3=>?_,Or.inr ⟨_,_,eS,rfl,R,H.setP zc (λi hi hp=>?_) ?_⟩⟩;simp(disch:=first|assumption|omega)only[c9];simp(disch:=first|assumption|omega)only[c9];simp(disch:=first|assumption|omega)only[d9,w7]|true=>
     simp(disch:=try exact dz)only[b0b,hm,Y7,q1,↓gP,gY,gT];refine d8.bindC (b8F E (m+1) hk (H.to ?_ λi hi=>?_) n nl hT _ _) λx s hq=>?_;omega;simp(disch:=first|assumption|omega)only[c9];obtain⟨c',h',r',w'⟩:=s;obtain⟨hc,hs,hor⟩:=hq;simp only at hc hs;have htb':h'.get tb=some (.cells [(v0,0)] 0 false):=by have:=hs tb zy b3;simp(disch:=first|assumption|omega)only[c9]at this;exact this.trans htb
     have b1':tb<c':=zy;have hs0:∀i,i<c->i≠ap->h'.get i=h.get i:=λi k1 k2=>by have:=hs i zy k2;simp(disch:=first|assumption|omega)only[c9]at this;exact this
     rcases hor with⟨q2,rfl,H'⟩|⟨q2,rfl,H'⟩;have eS:D9 fd l q R.i=.ok (fd n.t).1:=ym;have hr':=H'.hr;have c1:=H'.r;simp only at hr' c1;simp(disch:=try exact dz)only[hr',z8,hinc,htb',↓gP,gY];refine d8.done ?_;refine⟨zc,λi k1 k2 k3 k4=>?_,Or.inl ⟨_,eS,rfl,(H'.setR (R':={R with i:=R.i+1}) (xR _) (h':=V.O2 h' ar (.cells (z8 ap lv q {R with i:=R.i+1}) 0 false)) (λi k1 k2=>?_) ?_).setO (b:=tb) b2 b3 b4 (λi k1=>?_),?_⟩⟩;have:=hs0 i k1 k3;simp(disch:=first|assumption|omega)only[c9];exact this;simp(disch:=first|assumption|omega)only[c9];simp(disch:=first|assumption|omega)only[d9,z8];simp(disch:=first|assumption|omega)only[c9,z8,hlen];simp(disch:=first|assumption|omega)only[d9];have eS:D9 fd l q R.i=.er n.p (fd n.t).2:=yn;have hr':=H'.hr;have c1:=H'.r;simp only at hr' c1;simp(disch:=try exact dz)only[hr',z8,hinc,htb',↓gP,gY];refine d8.done ?_;refine⟨zc,λi k1 k2 k3 k4=>?_,Or.inr ⟨_,_,eS,rfl,{R with i:=R.i+1},(H'.setR (R':={R with i:=R.i+1}) (xR _) (h':=V.O2 h' ar (.cells (z8 ap lv q {R with i:=R.i+1}) 0 false)) (λi k1 k2=>?_) ?_).setO (b:=tb) b2 b3 b4 (λi k1=>?_)⟩⟩;have:=hs0 i k1 k3;simp(disch:=first|assumption|omega)only[c9];exact this;simp(disch:=first|assumption|omega)only[c9];simp(disch:=first|assumption|omega)only[d9,z8];simp(disch:=first|assumption|omega)only[c9,z8,hlen]
end
end Go.Proofs.YtmomonnlmbljoaaGreatDoor
end
section
namespace Go.Proofs.YtmomonnlmbljoaaGreatDoor
open Go.V Go.RowKit Go.Shelf Go.Proofs
variable {mL:Int}
attribute [local congr] m0 l9 n8 n9 q9 m8 s9 A1 A0
inductive Ls where
 | ok (ks:List Nat)
 | er (p e:Nat)
def Ls.cons (k:Nat):Ls->Ls|.ok ks=>.ok (k::ks)|.er p e=>.er p e
noncomputable def hdI:List Nd->Bool|[]=>false|n::_=>M2 n.k n.t
noncomputable def a0Y (fd:List UInt8->Nat×Nat)(q:Nat):List Nd->Ls|[]=>.er q 4|n::t=>bcase (M2 n.k n.t) (bcase (decide ((fd n.t).2=0)) (bcase (hdI t) ((a0Y fd q t).cons (fd n.t).1) (.ok [(fd n.t).1])) (.er n.p (fd n.t).2)) (.er n.p 4)
def iV (k:Nat):Value:=.int .i64 (.ofNat k)
theorem c9q (l i):hdI (l.drop i)=isI l i:=by
 unfold isI;cases h:l[i]? with
  |none=>
   have:l.drop i=[]:=by rw[tZ];simpa using h
   rw[this];rfl|some n=>
   have hi:=(xQ.1 h).1;have:l.drop i=n::l.drop (i+1):=by rw[ul hi];have:=(xQ.1 h).2;rw[this]
   rw[this];rfl
theorem a2G.fresh {sz c0 c h u rows}(H:a2G sz c0 c h u rows){i}(hi:i<c0):¬u.own i:=by rintro⟨a,ha,rfl⟩;obtain⟨_,rfl|⟨ab,g,cs,h2,h3,h4,_⟩⟩:=H;cases ha;rw[h2]at ha;cases ha;simp only at hi;omega
theorem a2G.keep {sz c0 c c' h h' u rows}(H:a2G sz c0 c h u rows)(hc:c<=c')(hh:∀b,c0<=b->b<c->h'.get b=h.get b):a2G sz c0 c' h' u rows:=H.mono hc λb h1 h2 _ _ _=>hh b h1 h2
section
variable {U:Nat->Prop}{h0:Trie VObj}{sv fo:Value}{F:Nat->List (Value×Value)}{L:List (List UInt8)}{ar ap:Nat}{lv:Sl}{q c:Nat}{h:Trie VObj}{R:RV}{P:PV}{l:List Nd}
theorem c5x (E:Env U h0 sv F L)(m)(hl:NdL U h0 lv l)(c0)(hb0:Trie VObj)(ha:ar<c0)(hap:ap<c0)(hU0:∀i,U i->i<c0):∀(t) (R) (k) (S) (u) (g0 g1 g2 g3 g5 g6 g7 g8 g10 g11 g12 g13 g14 g15 g16 g17 g18 g19 g20 g21 g22 g23) (c) (h) (r w),l.drop R.i=t->R.i<=l.length->t.length<k->S.length+t.length<100000->c0<=c->(∀i,i<c0->i≠ar->i≠ap->h.get i=hb0.get i)->At U h0 sv fo ar ap lv q c h R P->a2G 1 c0 c h u (S.map iV)->d8 (go (I9 (c6z i7 NN (j0 r7 (m+6)) (.pointer (some ⟨ar,0,some 0⟩))) k [g0,g1,g2,g3,.bool false,g5,g6,g7,g8,.slice u.a u.n u.e,g10,g11,g12,g13,g14,g15,g16,g17,g18,g19,g20,g21,g22,g23]) ⟨c,h,r,w⟩) λx s=>c0<=s.c/\(∀i,i<c0->i≠ar->i≠ap->s.h.get i=hb0.get i)/\((∃ks,a0Y (P3 L) q t=.ok ks/\x.1=.exit 0/\∃u',r6 x.2 9=.slice u'.a u'.n u'.e/\a2G 1 c0 s.c s.h u' ((S++ks).map iV)/\At U h0 sv fo ar ap lv q s.c s.h {R with i:=R.i+ks.length} P)\/(∃p e,a0Y (P3 L) q t=.er p e/\x.1=.ret/\r6 x.2 4=.bool false/\∃R',At U h0 sv fo ar ap lv q s.c s.h R' {P with p:=p,e:=e})):=by
 intro t;induction t with
  |nil=>
   intro R k S u g0 g1 g2 g3 g5 g6 g7 g8 g10 g11 g12 g13 g14 g15 g16 g17 g18 g19 g20 g21 g22 g23 c h r w hd hRl hk hS hc hs H HG;obtain⟨k,rfl⟩:∃m,k=m+1:=⟨k-1,zb⟩;have hi:l[R.i]?=none:=by have:l.length<=R.i:=yz;simp[this]
   have n1:¬U c:=λhi=>by have:=hU0 _ hi;omega
   simp(disch:=try exact dz)only[N7,d0R,↓gP,gY];refine d8.bindC (c5Y E (m+1) (Or.inl ⟨rfl,rfl⟩) (H.to ?_ λi hi=>?_) hl (tb:=c) (v0:=.int .i64 (.ofNat 0)) ?_ ?_ ?_ n1 ?_ _ _) λx s hq=>?_;omega;simp(disch:=first|assumption|omega)only[c9];omega;have:=H.r;omega;have:=H.p;omega;simp only[d9];obtain⟨c',h',r',w'⟩:=s;obtain⟨hc',hs',hor⟩:=hq;simp only at hc' hs';have eM:D9 (P3 L) l q R.i=.er q 4:=by unfold D9;rw[hi]
   rcases hor with⟨kk,e1,rfl,H',ht⟩|⟨p,e,e1,rfl,R',H'⟩;rw[eM]at e1;cases e1;rw[eM]at e1;cases e1;simp(disch:=try exact dz)only[↓gP,gY,gT];refine d8.done ?_;refine⟨zc,λi k1 k2 k3=>?_,Or.inr ⟨q,4,rfl,rfl,rfl,R',H'⟩⟩;have:=hs' i zy k2 k3 zy;simp(disch:=first|assumption|omega)only[c9]at this;exact this.trans (hs i k1 k2 k3)|cons n t ih=>
   intro R k S u g0 g1 g2 g3 g5 g6 g7 g8 g10 g11 g12 g13 g14 g15 g16 g17 g18 g19 g20 g21 g22 g23 c h r w hd hRl hk hS hc hs H HG;obtain⟨k,rfl⟩:∃m,k=m+1:=⟨k-1,zb⟩;have hil:R.i<l.length:=zQ;have hi:l[R.i]?=some n:=zM;have hd':l.drop (R.i+1)=t:=zP;have n1:¬U c:=λhi=>by have:=hU0 _ hi;omega
   have hll:=hl.len.2;simp(disch:=try exact dz)only[N7,d0R,↓gP,gY];refine d8.bindC (c5Y E (m+1) (Or.inl ⟨rfl,rfl⟩) (H.to ?_ λi hi=>?_) hl (tb:=c) (v0:=.int .i64 (.ofNat 0)) ?_ ?_ ?_ n1 ?_ _ _) λx s hq=>?_;omega;simp(disch:=first|assumption|omega)only[c9];omega;have:=H.r;omega;have:=H.p;omega;simp only[d9];obtain⟨c',h',r',w'⟩:=s;obtain⟨hc',hs',hor⟩:=hq;simp only at hc' hs';have hs1:∀i,i<c0->i≠ar->i≠ap->h'.get i=hb0.get i:=λi k1 k2 k3=>by have:=hs' i zy k2 k3 zy;simp(disch:=first|assumption|omega)only[c9]at this;exact this.trans (hs i k1 k2 k3)
   rcases hor with⟨kk,e1,rfl,H',ht⟩|⟨p,e,e1,rfl,R',H'⟩;have eM:M2 n.k n.t=true/\(P3 L n.t).2=0/\kk=(P3 L n.t).1:=by unfold D9 at e1;rw[hi]at e1;simp only at e1;cases q1:M2 n.k n.t with|false=>rw[q1,P6]at e1;cases e1|true=>rw[q1,N8]at e1;cases q2:decide ((P3 L n.t).2=0)with|false=>rw[q2,P6]at e1;cases e1|true=>rw[q2,N8]at e1;cases e1;exact⟨rfl,wj q2,rfl⟩
   obtain⟨m1,m2,rfl⟩:=eM;simp only at ht H';have t1:c<c':=zy;have HG':a2G 1 c0 c' h' u (S.map iV):=HG.keep zy λb k1 k2=>by have:=hs' b zy zy zy zy;simp(disch:=first|assumption|omega)only[c9]at this;exact this
   have hGn:u.n=S.length:=by have:=HG'.1;rw[xF,wI]at this;exact this.symm
   simp(disch:=try exact dz)only[ht,↓gP,gY,gT];refine d8.bindS (c9K (x:=⟨some ⟨c',0,some 0⟩,1,1⟩) (xs:=[iV (P3 L n.t).1]) d9Q zv e2r (HG'.keep (wy c') λb k1 k2=>?_) ⟨rfl,Or.inr ⟨c',0,0,_,0,false,rfl,rfl,xG _,d9 _ _ _,rfl⟩⟩ rfl ?_ ?_ _ _) λy s hq=>?_;simp(disch:=omega)only[c9];dsimp only;simp at hS;omega;omega;obtain⟨c2,h2,r2,w2⟩:=s;obtain⟨u',rfl,hn',HG2,hc2,hs2,hown⟩:=hq;simp only at HG2 hc2 hs2;have hs2':∀i,i<c0->h2.get i=h'.get i:=λi k1=>by have:=hs2 i zy (HG'.fresh k1);simp(disch:=omega)only[c9]at this;exact this
   have H2:At U h0 sv fo ar ap lv q c2 h2 {R with i:=R.i+1} P:=⟨λi hi=>⟨by have:=hU0 i hi;omega,(H'.u i hi).2.1,(H'.u i hi).2.2.1,(hs2' i (hU0 i hi)).trans (H'.u i hi).2.2.2⟩,zy,zy,H'.ne,(hs2' ar ha).trans H'.hr,(hs2' ap hap).trans H'.hp⟩;have hs3:∀i,i<c0->i≠ar->i≠ap->h2.get i=hb0.get i:=λi k1 k2 k3=>(hs2' i k1).trans (hs1 i k1 k2 k3);have eR:S.map iV++[iV (P3 L n.t).1]=(S++[(P3 L n.t).1]).map iV:=by rw[wJ];rfl
   rw[eR]at HG2;have eI:=c9q l (R.i+1);rw[hd']at eI;unfold isI at eI;cases hi2:l[R.i+1]? with|none=>rw[hi2]at eI;have eL:a0Y (P3 L) q (n::t)=.ok [(P3 L n.t).1]:=yp;obtain⟨z,y,o1,o2,hm⟩:=T6 (m+5) H2 hl hi2;simp(disch:=try exact dz)only[hm,↓gP,gY,gT];refine d8.done ?_;refine⟨zc,λi k1 k2 k3=>?_,Or.inl ⟨_,eL,rfl,u',rfl,HG2.keep zc (λb k1 k2=>?_),H2.to zc (λi k1=>?_)⟩⟩;have:=hs3 i k1 k2 k3;simp(disch:=first|assumption|omega)only[c9];exact this;simp(disch:=first|assumption|omega)only[c9];simp(disch:=first|assumption|omega)only[c9]|some n2=>rw[hi2]at eI;simp only at eI;obtain⟨z,y,o1,o2,nlm,hnm,hTm,hm⟩:=T7 (m+5) H2 hl hi2;cases q1:M2 n2.k n2.t with|false=>rw[q1]at eI;have eL:a0Y (P3 L) q (n::t)=.ok [(P3 L n.t).1]:=yp;simp(disch:=try exact dz)only[hm,Y7,q1,↓gP,gY,gT];refine d8.done ?_;refine⟨zc,λi k1 k2 k3=>?_,Or.inl ⟨_,eL,rfl,u',rfl,HG2.keep zc (λb k1 k2=>?_),H2.to zc (λi k1=>?_)⟩⟩;have:=hs3 i k1 k2 k3;simp(disch:=first|assumption|omega)only[c9];exact this;simp(disch:=first|assumption|omega)only[c9];simp(disch:=first|assumption|omega)only[c9]|true=>rw[q1]at eI;have eL:a0Y (P3 L) q (n::t)=(a0Y (P3 L) q t).cons (P3 L n.t).1:=yp;simp(disch:=try exact dz)only[hm,Y7,q1,↓gP,gY,gT];refine(ih {R with i:=R.i+1} k (S++[(P3 L n.t).1]) u' _ _ _ _ _ _ _ _ _ _ _ _ _ _ _ _ _ _ _ _ _ _ _ _ _ _ hd' zc zb (by simp at hS⊢;omega) zy (λi k1 k2 k3=>?_) (H2.to zy (λi k1=>?_)) (HG2.keep zy (λb k1 k2=>?_))).mono λx s hq=>?_;have:=hs3 i k1 k2 k3;simp(disch:=first|assumption|omega)only[c9];exact this;simp(disch:=first|assumption|omega)only[c9];simp(disch:=first|assumption|omega)only[c9];obtain⟨p1,p2,hor⟩:=hq;refine⟨p1,p2,?_⟩;rcases hor with⟨ks,f1,f2,u2,f3,f4,f5⟩|⟨p,e,f1,f2,f3,f4⟩;rw[eL,f1];refine Or.inl ⟨_,rfl,f2,u2,f3,?_,?_⟩;rw[wq]at f4;exact f4;simp only[xH]at f5⊢;rw[show R.i+(ks.length+1)=R.i+1+ks.length by omega];exact f5;rw[eL,f1];exact Or.inr ⟨p,e,rfl,f2,f3,f4⟩
   have eL:a0Y (P3 L) q (n::t)=.er p e:=by unfold D9 at e1;rw[hi]at e1;simp only at e1;show bcase (M2 n.k n.t) (bcase (decide ((P3 L n.t).2=0)) (bcase (hdI t) _ _) _) _=_;cases q1:M2 n.k n.t with|false=>rw[q1,P6]at e1;cases e1;rfl|true=>rw[q1,N8]at e1;cases q2:decide ((P3 L n.t).2=0)with|false=>rw[q2,P6]at e1;cases e1;rfl|true=>rw[q2,N8]at e1;cases e1
   simp(disch:=try exact dz)only[↓gP,gY,gT];refine d8.done ?_;exact⟨zc,hs1,Or.inr ⟨p,e,eL,rfl,rfl,R',H'⟩⟩
end
end Go.Proofs.YtmomonnlmbljoaaGreatDoor
end
section
namespace Go.Proofs.YtmomonnlmbljoaaGreatDoor
open Go.V Go.RowKit Go.Shelf Go.Proofs
variable {mL:Int}
attribute [local congr] m0 l9 n8 n9 q9 m8 s9 A1 A0
theorem b1z (sz b o g n j k)(h:j<=n)(h0:sz≠0):a5r sz (.slice (some ⟨b,o,some g⟩) n sz) none (some (.int k (.ofNat j)))=M.pure (.slice (some ⟨b,o,some g⟩) j sz):=by show M.guard (Nat.beq sz sz) (cutN sz ⟨b,o,some g⟩ n none (some (.int k (.ofNat j))))=_;rw[I4,F6];show M.guard (Nat.ble 0 j&&Nat.ble j n&& !(Nat.beq sz 0)) (M.pure (Value.slice (some ⟨b,o+0*sz,some g⟩) (j-0) sz))=_;rw[a4X,V6 h,Q5 h0,vW];rfl
theorem c5s (sz b o g n j k)(h:j<=n)(h0:sz≠0):a5r sz (.slice (some ⟨b,o,some g⟩) n sz) (some (.int k (.ofNat j))) none=M.pure (.slice (some ⟨b,o+j*sz,some g⟩) (n-j) sz):=by show M.guard (Nat.beq sz sz) (cutN sz ⟨b,o,some g⟩ n (some (.int k (.ofNat j))) none)=_;rw[I4,F6];show M.guard (Nat.ble j n&&Nat.ble n n&& !(Nat.beq sz 0)) (M.pure (Value.slice (some ⟨b,o+j*sz,some g⟩) (n-j) sz))=_;rw[V6 h,a1E,Q5 h0];rfl
theorem b0t {g}:∀(cs) (n) (vs) (m),j8 g cs n=some vs->m<=n->j8 g cs m=some (vs.take m):=by
 intro cs;induction cs with
  |nil=>intro n vs m h hm;cases n with|zero=>have:m=0:=zy;subst this;cases h;rfl|succ n=>cases h
  |cons q cs ih=>intro n vs m h hm;obtain⟨v,st⟩:=q;cases m with|zero=>exact I6 _ _|succ m=>cases n with|zero=>omega|succ n=>have h':(match Nat.ble st g with|true=>(match j8 g cs n with|some vs=>some (v::vs)|none=>none)|false=>none)=some vs:=h;show(match Nat.ble st g with|true=>(match j8 g cs m with|some vs=>some (v::vs)|none=>none)|false=>none)=_;cases q1:Nat.ble st g with|false=>rw[q1]at h';cases h'|true=>rw[q1]at h';cases q2:j8 g cs n with|none=>rw[q2]at h';cases h'|some ws=>rw[q2]at h';cases h';rw[ih n ws m q2 zy];rfl
section
variable {U:Nat->Prop}{h0:Trie VObj}{sv fo:Value}{F:Nat->List (Value×Value)}{L:List (List UInt8)}{ar ap:Nat}{lv:Sl}{q c:Nat}{h:Trie VObj}{R:RV}{P:PV}{l:List Nd}
theorem c1W (fd):∀(t) (ks),a0Y fd q t=.ok ks->ks≠[]/\ks.length<=t.length:=by intro t;induction t with|nil=>intro ks h;cases h|cons n t ih=>intro ks h;have h':bcase (M2 n.k n.t) (bcase (decide ((fd n.t).2=0)) (bcase (hdI t) ((a0Y fd q t).cons (fd n.t).1) (.ok [(fd n.t).1])) (.er n.p (fd n.t).2)) (.er n.p 4)=Ls.ok ks:=h;cases q1:M2 n.k n.t with|false=>rw[q1,P6]at h';cases h'|true=>rw[q1,N8]at h';cases q2:decide ((fd n.t).2=0)with|false=>rw[q2,P6]at h';cases h'|true=>rw[q2,N8]at h';cases q3:hdI t with|false=>rw[q3,P6]at h';cases h';exact⟨zu,zu⟩|true=>rw[q3,N8]at h';cases q4:a0Y fd q t with|er p e=>rw[q4]at h';cases h'|ok ks'=>rw[q4]at h';cases h';have:=(ih ks' q4).2;exact⟨zu,zo⟩
def a6D (ks:List Nat):Nat:=ks.getLast?.getD 0
theorem e5i (E:Env U h0 sv F L)(m)(hRi:R.i<=l.length)(H:At U h0 sv fo ar ap lv q c h R P)(hl:NdL U h0 lv l)(r w):d8 (go (j0 r7 (m+7) 142 [.pointer (some ⟨ar,0,some 0⟩)]) ⟨c,h,r,w⟩) λx s=>c<=s.c/\(∀i,i<c->i≠ar->i≠ap->s.h.get i=h.get i)/\((∃ks,a0Y (P3 L) q (l.drop R.i)=.ok ks/\x=.ret (.bool true)/\∃ls,SlU (λi=>c<=i/\i<s.c) s.h ls (ks.dropLast.map iV)/\At U h0 sv fo ar ap lv q s.c s.h {R with i:=R.i+ks.length,A:=a6D ks,ls:=ls} P)\/(∃p e,a0Y (P3 L) q (l.drop R.i)=.er p e/\x=.ret (.bool false)/\∃R',At U h0 sv fo ar ap lv q s.c s.h R' {P with p:=p,e:=e})):=by
 have hll:=hl.len.2;have a1:=H.r;have a2:=H.p;have a4:ap≠ar:=λe=>H.ne e.symm;have hUc:∀i,U i->i<c:=λi hi=>(H.u i hi).1;rw[d5g];simp(disch:=try exact dz)only[d8L,↓gP];have hlp:=c5x (fo:=fo) (q:=q) (P:=P) E m hl c h a1 a2 hUc (l.drop R.i) R NN [] ⟨none,0,0⟩ undef undef undef undef undef undef undef undef undef undef undef undef undef undef undef undef undef undef undef undef undef undef c h;refine d8.bindJ (hlp _ _ rfl hRi (by rw[wM];exact vq (Nat.sub_le _ _) (vF hll zv)) (by rw[wM];simp;omega) (xR c) (λ_ _ _ _=>rfl) H (a2G.nil _ _ _ _)) λy ll s hq=>?_;obtain⟨c',h',r',w'⟩:=s;obtain⟨hc,hs,⟨ks,e1,rfl,u',e2,HG,H'⟩|⟨p,e,e1,rfl,e2,R',H'⟩⟩:=hq;simp only at hc hs e2 HG H';rw[wQ]at HG;obtain⟨hne,hkl⟩:=c1W _ _ _ e1;rw[wM]at hkl;obtain⟨k0,kt,rfl⟩:∃k0 kt,ks=k0::kt:=by cases ks with|nil=>exact absurd rfl hne|cons a t=>exact⟨a,t,rfl⟩
 obtain⟨ua,un,ue⟩:=u';obtain⟨hn,h0'|⟨ab,g,cs,h2,h3,h4,h5,h6,h7,h8⟩⟩:=HG;exfalso;cases h0';simp at hn;simp only at h2 h3 hn;subst h2;subst h3;have hn':un=kt.length+1:=by rw[wI,xF]at hn;exact hn.symm
 subst hn';have hlen:=I5 (some ⟨ab,0,some g⟩) (kt.length+1) 1;have f1:G8 .i64 (Int.ofNat (kt.length+1)-Int.ofNat 1)=Int.ofNat kt.length:=by rw[show Int.ofNat (kt.length+1)-Int.ofNat 1=Int.ofNat kt.length by simp only[wz];omega];exact b2U _ (by simp at hkl;omega)
 have f2:=a0d 1 kt.length (kt.length+1) .i64 ab 0 (some g) zy zv;rw[a7R,wI]at f2;have f3:=b1z 1 ab 0 g (kt.length+1) kt.length .i64 zy zv;rw[xF]at h8;have hlast:((k0::kt).map iV)[kt.length]?=some (iV (a6D (k0::kt))):=by
  rw[wc];have:(k0::kt)[kt.length]?=some (a6D (k0::kt)):=by unfold a6D;rw[List.getLast?_eq_getElem?];simp
  rw[this];rfl
 have f4:=a1D h8 kt.length _ hlast;have hr':=H'.hr;have b1:=H'.r;have b2:ab≠ar:=zy;have b3:ab≠ap:=zy;simp(disch:=try exact dz)only[d8L,e2,hr',z8,hlen,f1,f2,f3,f4,h6,iV,↓gP,gY,Nat.reduceAdd];refine d8.done ?_;refine⟨zc,λi k1 k2 k3=>?_,Or.inl ⟨_,e1,rfl,⟨some ⟨ab,0,some g⟩,kt.length,1⟩,⟨zu,?_⟩,H'.setR (xR _) (λi k1 k2=>?_) ?_⟩⟩;have:=hs i k1 k2 k3;simp(disch:=first|assumption|omega)only[c9];exact this;refine Or.inr ⟨ab,0,g,cs,g,false,rfl,rfl,⟨h4,h5⟩,?_,?_⟩;simp(disch:=first|assumption|omega)only[c9];exact h6;rw[J7];have:=b0t cs _ _ kt.length h8 zu;rw[xF,uj];show j8 g cs kt.length=_;rw[this,td,sO];rfl;simp(disch:=first|assumption|omega)only[c9];simp(disch:=first|assumption|omega)only[d9,z8];simp only at hc hs e2 H';simp(disch:=try exact dz)only[e2,↓gP,gY];exact d8.done ⟨hc,hs,Or.inr ⟨p,e,e1,rfl,R',H'⟩⟩
end
end Go.Proofs.YtmomonnlmbljoaaGreatDoor
end
