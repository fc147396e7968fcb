import Derived.Test.YtmomonnlmbljoaaGreatDoorGah
import Derived.Test.YtmomonnlmbljoaaGreatDoorGax
import Derived.Test.YtmomonnlmbljoaaGreatDoorGay
import Derived.Test.YtmomonnlmbljoaaGreatDoorGaz
import Derived.Test.YtmomonnlmbljoaaGreatDoorGba
import Derived.Test.YtmomonnlmbljoaaGreatDoorGbg
import Derived.Test.YtmomonnlmbljoaaGreatDoorGbj
import Derived.Test.YtmomonnlmbljoaaGreatDoorGbk
set_option maxRecDepth 1000000
set_option maxHeartbeats 4000000
set_option linter.unusedVariables false
set_option linter.unusedSimpArgs false
noncomputable section
namespace Go.Proofs.YtmomonnlmbljoaaGreatDoor
open Go.V Go.RowKit Go.Shelf Go.Proofs
variable {mL:Int}
section
attribute [local congr] q9 x8 A8 z8 D5 x9 D6 D8 D7
section
variable {c cb:Nat}{h:Trie VObj}{vs:Nat->Sl}{vl:Sl}{Ns:Nat->List (List UInt8)}{L:List (List UInt8)}{lv:Sl}{l:List Nd}{n k:Nat}{R:RV}{X:AI}{wn:Nd}
theorem e8F (hF:FZ Ns n k) (E:RE c h vs vl Ns L) (hl:NdL (fun i=>i<c) h lv l) (hw:l[0]?=some wn) (hR:RIu (fun j=>cb≤j∧j<c) h R X) (hcb:cb≤c) (hi:1≤R.i) (hi2:R.i≤l.length) (hz:zs (l.drop R.i)≤n) (hL:L.length * 4+4+zs (l.drop R.i)<3900) (m):Ev (o8 A9 (m+(k+12)) 150 [.slice lv.a lv.n lv.e,.agg ⟨RW R 0 0⟩,.agg ⟨sR vs vl⟩]) c h (EdB cb c h (ifS (I8 (frF Ns) n L) (a1x (I8 (frF Ns) n) (frF Ns) (L ++ [R.nm])) wn.p X (l.drop R.i) []) (zs (l.drop R.i)+2)):=by
 intro r w
 obtain ⟨hln,hll⟩:=hl.len
 obtain ⟨hA,eA,fr0,g0,g1,g2⟩:∃ hA,V.upd (V.upd (V.upd h c (cR R 0 0)) (c+1) (cS vs vl)) (c+1+1) (c3 none 0 0 0 0)=hA∧(∀ j,j<c→hA.get j=h.get j)∧hA.get c=some (cR R 0 0)∧hA.get (c+1)=some (cS vs vl)∧hA.get (c+1+1)=some (c3 none 0 0 0 0):=⟨_,rfl,fun j hj=>zl,zW,zW,o7 _ _ _⟩
 obtain ⟨e,hNe⟩:∃ e,NN=(l.length - R.i)+1+e:=⟨NN - ((l.length - R.i)+1),by have:1900000≤NN:=zq; omega⟩
 have lp:=fun xs r w=>e9U hl (m+(k+10)) (l.length - R.i) e R.i (c+1+1+1) hA xs r w zy zy fr0
 rw [← hNe] at lp
 show l9 (go (o8 A9 (m+(k+11)+1) 150 _) _) _
 rw [e2f]
 simp (disch:=try exact dz) only [b5u, ↓gU,Y1, ↓gR,gS, ↓gP,gY,gT]
 rw [eA]
 refine l9.bindJ (lp _ _ _ rfl) fun y xs' s hq=>?_
 obtain ⟨c1,h1,r1,w1⟩:=s
 obtain ⟨xs1,j,f1,f2,f3,f4,k1,hh1,hpre,hstop,hS⟩:=hq
 cases f1
 simp only at k1 hh1
 rw [hS]
 clear hS
 obtain ⟨v',hv',hN'⟩:=hl.mid f3 f4
 have p0:=(hh1 c zy).trans g0
 have p1:=(hh1 (c+1) zy).trans g1
 have p2:=(hh1 (c+1+1) zy).trans g2
 have fr1:∀ a,a<c→h1.get a=h.get a:=fun a ha=>(hh1 a zy).trans (fr0 a ha)
 have hzm:=d9i l f3
 simp (disch:=try exact dz) only [f2,p0,p1,hv',J4, ↓gU,Y1, ↓gR,gS, ↓gP,gY,gT]
 have h151:=d9f hF (E.mono (show c≤c1 by omega) fr1) (J6 hN' zy fr1) zy zy (m+10)
 have e10:m+10+k+1=m+(k+11):=zy
 rw [e10] at h151
 refine Ev.footC h151 fun v c2 h2 r2 w2 F hq hft=>?_
 obtain ⟨k2,hh2,hq⟩:=hq
 have hfe:=e2G (show c<c2 by omega) (show c+1<c2 by omega) hft
 have q0:=(hh2 c zy).trans p0
 have q1:=(hh2 (c+1) zy).trans p1
 have q2:=(hh2 (c+1+1) zy).trans p2
 have fr2:∀ a,a<c→h2.get a=h.get a:=fun a ha=>(hh2 a zy).trans (fr1 a ha)
 rcases hq with ⟨T1,x,ef,rfl,ox,hT1⟩ | ⟨p,q,ef,hne,rfl⟩
 · rw [ef]
   simp (disch:=try exact dz) only [f2,q0,q1,q2,hfe,b5u, ↓c7D, ↓gU,Y1, ↓gR,gS, ↓gP,gY,gT]
   have hcb3:c+3≤c1:=zy
   have hK0:KZ cb c h R vs vl (c2+1+1) (V.upd (V.upd (V.upd h2 c2 (c3 none 0 0 0 0)) c2 (c3 x.a x.n x.e 0 0)) (c2+1) (.cells [] 0 false)) ⟨some ⟨c2+1, 0,some 0⟩, 0, 9⟩ []:=
    ⟨zy,hcb,fun a ha=>zl,zl,zl,zl,OB.zero zy (wu _) (fun k=>by have:=k.2; omega) (o7 _ _ _),fun j ho=>by obtain ⟨_,q,e⟩:=ho; grind⟩
   have hz0:∀ j,Sl.own ⟨some ⟨c2+1, 0,some 0⟩, 0, 9⟩ j→c2+1=j:=fun j ho=>by obtain ⟨_,q,e⟩:=ho; grind
   refine hK0.app (c1:=c1) (x:=x) (X:=T1) (xD _) (fun _ _=>rfl) (ox.to (xD _) zy (fun i k1 k2 k=>by
    rcases k with k | k
    · have:=k.2; omega
    grind) fun i k1 k2 _=>zl) zy zu fun u1 c3' h3 r3 w3 K1 k3 fr3 ow3=>?_
   have m0:=K1.g0
   have m1:=K1.g1
   have m2:=K1.g2
   have mf:=K1.fr
   have mc:=K1.cc
   simp only [uu] at K1
   by_cases hj:j=l.length
   · have hd:l.drop j=[]:=vH zy
     have e0:decide (j=lv.n)=true:=ww zy
     obtain ⟨b,o,g,cs,cur,ro,nl,hb,hg,hN,hX,i1,i2,i3,i4,i5,i6⟩:=hl.get hw
     have hgb:=(mf b hb).trans hg
     simp (disch:=try exact dz) only [J5,e0,i1,i4,hgb,m2, ↓gU,Y1, ↓gR,gS, ↓gP,gY,gT]
     rw [hd]
     exact l9.done ⟨_,rfl,zu,fun i hi=>zl,Or.inr ⟨wn.p, 4,rfl,zq,rfl⟩⟩
   · have hlt:j<l.length:=by omega
     have e0:decide (j=lv.n)=false:=wy zy
     obtain ⟨y,hy⟩:∃ y,l[j]?=some y:=⟨_,wz hlt⟩
     have hd:l.drop j=y::l.drop (j+1):=by
      rw [wz hlt] at hy
      grind[List.drop_eq_getElem_cons]
     obtain ⟨b,o,g,cs,cur,ro,nl,hb,hg,hN,hX,i1,i2,i3,i4,i5,i6⟩:=hl.get hy
     have hgb:=(mf b hb).trans hg
     have hst:=hstop y hy
     have hzy:=a4j hy
     have hzz:=a3X y
     simp (disch:=try exact dz) only [J5,e0, ↓gP,gY,gT]
     refine Rv.bindC (b3a (J6 hl (show c≤c3' by omega) mf) j [116, 104, 101, 110] (m+(k+10))) fun c4 h4 r4 w4 k4 hh4=>?_
     have eh:hdB l j [116, 104, 101, 110]=Z4 y.k (a0f y.l) thW:=by grind[hdB]
     rw [eh]
     have K2:=K1.to k4 hh4
     have m0:=K2.g0
     have m1:=K2.g1
     have m2:=K2.g2
     have mf:=K2.fr
     have hgb:=(mf b hb).trans hg
     rw [hd]
     have eI:∀ (fold:Nd→Ps) (row:List Nd→Ps) (q:Nat) (T:List AI),ifS fold row q X (y::l.drop (j+1)) T=bcase (Z4 y.k (a0f y.l) thW) (match row y.l.tail with
             | .ok T1=>b2a row (T ++ [X] ++ T1) (l.drop (j+1))
             | .er p e=>.er p e)
      (bcase (decide (y.k=0)) (match fold y with
        | .ok T1=>ifS fold row q X (l.drop (j+1)) (T ++ T1)
        | .er p e=>.er p e) (.er y.p 4)):=fun fold row q T=>rfl
     rw [eI]
     cases hb2:Z4 y.k (a0f y.l) thW with
     | false=>
       have hk0:decide (y.k=0)=false:=by rw [hb2] at hst; grind
       simp (disch:=try exact dz) only [i1,i4,hgb,m2,hk0,F7, ↓gU,Y1, ↓gR,gS, ↓gP,gY,gT]
       exact l9.done ⟨_,rfl,zu,fun i hi=>zl,Or.inr ⟨y.p, 4,rfl,zq,rfl⟩⟩
     | true=>
       simp (disch:=try exact dz) only [m0,m1,C9, ↓gU,Y1, ↓gR,gS, ↓gP,gY,gT]
       have E4:=E.mono (show c≤c4 by omega) mf
       refine Ev.bindC (t70 E4.l E4.ll R.nm (m+(k+10))) fun v c5 h5 r5 w5 hq=>?_
       obtain ⟨k5,hh5,vl',rfl,hsu⟩:=hq
       have K3:=K2.to k5 hh5
       have hgb5:=(K3.fr b hb).trans hg
       obtain ⟨ya,yt,hyl⟩:=b0y hb2
       have htl:y.l.tail=yt:=by rw [hyl]; rfl
       have hzl:zs y.l=ya.z+zs yt:=by rw [hyl]; rfl
       rw [hyl] at hN
       obtain ⟨vt,hvt,hNt⟩:=hN.tail
       have frC:∀ a,a<c5→(V.upd (V.upd h5 c5 (cS (fun _=>U5) U5)) c5 (cS vs vl')).get a=h5.get a:=fun a ha=>zl
       have E5:RE (c5+1) (V.upd (V.upd h5 c5 (cS (fun _=>U5) U5)) c5 (cS vs vl')) vs vl' Ns (L ++ [R.nm]):=⟨fun t ht=>⟨(E.n t ht).1.mono (show c≤c5+1 by omega) fun a ha=>(frC a zy).trans (K3.fr a ha),(E.n t ht).2⟩,(hsu.mono (U':=fun j=>j<c5+1) fun a ha=>⟨zy,frC a ha.2⟩).at fun _ k=>k,yc⟩
       have K3':=K3.to (wZ c5) frC
       have h78:=t78 hF E5 (J6 hNt (show c≤c5+1 by omega) K3'.fr) zy yc m
       simp (disch:=try exact dz) only [hgb5,i1,i6,hvt, ↓gW,b2B, ↓gU,Y1, ↓gR,gS, ↓gP,gY,gT]
       refine Ev.footC h78 fun v c6 h6 r6 w6 F2 hq hft2=>?_
       obtain ⟨k6,hh6,hq⟩:=hq
       have K4:=K3'.to k6 hh6
       have hfe2:=d8s (show b<c6 by omega) (show c5<c6 by omega) hft2
       have m0:=K4.g0
       have m1:=K4.g1
       have m2:=K4.g2
       have mf:=K4.fr
       have hu1:=fun j (ho:u1.own j)=>(K1.o.lt ho).2
       rw [htl]
       rcases hq with ⟨T2,x2,ef2,rfl,ox2,hT2⟩ | ⟨p,q,ef2,hne,rfl⟩
       · rw [ef2]
         simp (disch:=try exact dz) only [m0,m2,hfe2,b5u, ↓gU,Y1, ↓gR,gS, ↓gP,gY,gT]
         have K5:=K4.to (wZ c6) (h2:=V.upd (V.upd h6 c6 (c3 none 0 0 0 0)) c6 (c3 x2.a x2.n x2.e 0 0)) fun a ha=>zl
         refine K5.appX hR zy fun u2 c7 h7 r7 w7 K6 k7 fr7 ow7=>?_
         have n6:h7.get c6=some (c3 x2.a x2.n x2.e 0 0):=(fr7 c6 zy fun ho=>by have:=hu1 _ ho; omega).trans zW
         have f7:∀ a,c3'≤a→a<c6→h7.get a=h6.get a:=fun a ha hb=>(fr7 a zy fun ho=>by have:=hu1 _ ho; omega).trans yg
         simp (disch:=try exact dz) only [n6, ↓gU,Y1, ↓gR,gS, ↓gP,gY,gT]
         refine K6.appL (c1:=c5+1) (c1':=c6) (x:=x2) (ox2.mono (xD _) (xD _) fun a k1 k2=>f7 a zy k2) zy zy (fun a ho=>by
          grind) yc fun u3 c8 h8 r8 w8 K7 k8 fr8 ow8=>?_
         have f8:∀ a,c3'≤a→a<c6→h8.get a=h6.get a:=fun a ha hb=>(fr8 a zy fun ho=>by have:=hu1 a (ow7 a zy ho); omega).trans (f7 a ha hb)
         have m0:=K7.g0
         have m1:=K7.g1
         have m2:=K7.g2
         have mf:=K7.fr
         have hinc:=G9 j zy
         have hinc2:=d0q j zy
         by_cases hj1:j+1=l.length
         · have e1:decide (j+1<lv.n)=false:=wy zy
           have e2:decide (j+2<lv.n)=false:=wy zy
           have hd2:l.drop (j+1)=[]:=vH zy
           rw [hd2]
           simp (disch:=try exact dz) only [hinc,hinc2,X6,e1,e2, ↓gU,Y1, ↓gR,gS, ↓gP,gY,gT]
           refine K7.appE zu fun u4 c9 h9 r9 w9 K8 k9 fr9 ow9=>?_
           have m2:=K8.g2
           have mf:=K8.fr
           simp (disch:=try exact dz) only [m2, ↓gU,Y1, ↓gR,gS, ↓gP,gY,gT]
           exact l9.done ⟨_,rfl,zu,fun i hi=>zl,Or.inl ⟨_,u4,rfl,rfl,K8.done,zu⟩⟩
         · have hlt1:j+1<l.length:=by omega
           have e1:decide (j+1<lv.n)=true:=ww zy
           obtain ⟨z,hzg⟩:∃ z,l[j+1]?=some z:=⟨_,wz hlt1⟩
           have hd2:l.drop (j+1)=z::l.drop (j+2):=by
            rw [wz hlt1] at hzg
            grind[List.drop_eq_getElem_cons]
           obtain ⟨b',o',g',cs',cur',ro',nl',hb',hg',hN',hX',j1,j2,j3,j4,j5,j6⟩:=hl.get hzg
           have hzz1:=a4j hzg
           have hzz2:=a3X z
           simp (disch:=try exact dz) only [hinc,hinc2,X6,e1, ↓gU,Y1, ↓gR,gS, ↓gP,gY,gT]
           refine Rv.bindC (b3a (J6 hl (show c≤c8 by omega) mf) (j+1) [101, 108, 115, 101] (m+(k+10))) fun c9 h9 r9 w9 k9 hh9=>?_
           have eh2:hdB l (j+1) [101, 108, 115, 101]=Z4 z.k (a0f z.l) [101, 108, 115, 101]:=by grind[hdB]
           rw [eh2,hd2,a5o]
           have K8:=K7.to k9 hh9
           have m0:=K8.g0
           have m1:=K8.g1
           have m2:=K8.g2
           have mf:=K8.fr
           have hgz:=(mf b' hb').trans hg'
           cases hb3:Z4 z.k (a0f z.l) [101, 108, 115, 101] with
           | false=>
             simp (disch:=try exact dz) only [hinc,j1,j4,hgz,m2,F7, ↓gU,Y1, ↓gR,gS, ↓gP,gY,gT]
             exact l9.done ⟨_,rfl,zu,fun i hi=>zl,Or.inr ⟨z.p, 4,rfl,zq,rfl⟩⟩
           | true=>
             obtain ⟨za,zt,hzl'⟩:=b0y hb3
             have htl':z.l.tail=zt:=by rw [hzl']; rfl
             have hzs:zs z.l=za.z+zs zt:=by rw [hzl']; rfl
             rw [hzl'] at hN'
             obtain ⟨vt',hvt',hNt'⟩:=hN'.tail
             have d5:h9.get c5=some (cS vs vl'):=(hh9 c5 zy).trans ((f8 c5 zy zy).trans ((hh6 c5 zy).trans (o7 _ _ _)))
             have E9:RE c9 h9 vs vl' Ns (L ++ [R.nm]):=⟨fun t ht=>⟨(E.n t ht).1.mono (show c≤c9 by omega) mf,(E.n t ht).2⟩,(hsu.mono (U':=fun j=>j<c9) fun a ha=>⟨zy,(hh9 a zy).trans ((f8 a zy zy).trans ((hh6 a zy).trans (frC a ha.2)))⟩).at fun _ k=>k,yc⟩
             have h78':=t78 hF E9 (J6 hNt' (show c≤c9 by omega) mf) zy yc m
             simp (disch:=try exact dz) only [hinc,hgz,j1,j6,hvt',d5, ↓gW,b2B, ↓gU,Y1, ↓gR,gS, ↓gP,gY,gT]
             refine Ev.footC h78' fun v cA hA' rA wA F3 hq hft3=>?_
             obtain ⟨kA,hhA,hq⟩:=hq
             have K9:=K8.to kA hhA
             have hfe3:=e0Z (show b'<cA by omega) (show c5<cA by omega) hft3
             have m0:=K9.g0
             have m1:=K9.g1
             have m2:=K9.g2
             have mf:=K9.fr
             have hu3:=fun a (ho:u3.own a)=>(K7.o.lt ho).2
             rw [htl']
             rcases hq with ⟨T3,x3,ef3,rfl,ox3,hT3⟩ | ⟨p,q,ef3,hne,rfl⟩
             · rw [ef3]
               simp (disch:=try exact dz) only [m0,m2,hfe3,b5u, ↓gU,Y1, ↓gR,gS, ↓gP,gY,gT]
               have K10:=K9.to (wZ cA) (h2:=V.upd (V.upd hA' cA (c3 none 0 0 0 0)) cA (c3 x3.a x3.n x3.e 0 0)) fun a ha=>yg
               refine K10.appE zu fun u4 cB hB' rB wB KB kB frB owB=>?_
               have n7:hB'.get cA=some (c3 x3.a x3.n x3.e 0 0):=(frB cA zy fun ho=>by have:=hu3 _ ho; omega).trans zW
               simp (disch:=try exact dz) only [n7, ↓gU,Y1, ↓gR,gS, ↓gP,gY,gT]
               refine KB.appL (c1:=c9) (c1':=cA) (x:=x3) (ox3.mono (xD _) (xD _) fun a k1 k2=>(frB a zy fun ho=>by have:=hu3 _ ho; omega).trans yg) zy zy (fun a ho=>by
                grind) zu fun u5 cC hC' rC wC KC kC frC' owC=>?_
               have m2:=KC.g2
               have mf:=KC.fr
               by_cases hj2:j+2=l.length
               · have e2:decide (j+2<lv.n)=false:=wy zy
                 have hd3:l.drop (j+2)=[]:=vH zy
                 rw [hd3]
                 simp (disch:=try exact dz) only [hinc,hinc2,X6,e2, ↓gU,Y1, ↓gR,gS, ↓gP,gY,gT]
                 refine KC.appE zu fun u6 cD hD rD wD KD kD frD owD=>?_
                 have m2:=KD.g2
                 have mf:=KD.fr
                 simp (disch:=try exact dz) only [m2, ↓gU,Y1, ↓gR,gS, ↓gP,gY,gT]
                 exact l9.done ⟨_,rfl,zu,fun i hi=>zl,Or.inl ⟨_,u6,rfl,rfl,KD.done,zu⟩⟩
               · have hlt2:j+2<l.length:=by omega
                 have e2:decide (j+2<lv.n)=true:=ww zy
                 obtain ⟨z2,hz2g⟩:∃ z2,l[j+2]?=some z2:=⟨_,wz hlt2⟩
                 have hd3:l.drop (j+2)=z2::l.drop (j+3):=by
                  rw [wz hlt2] at hz2g
                  grind[List.drop_eq_getElem_cons]
                 obtain ⟨b2,o2,g2',cs2,cur2,ro2,nl2,hb2',hg2,hN2,hX2,n1,n2,n3,n4,n5,n6'⟩:=hl.get hz2g
                 have hgz2:=(mf b2 hb2').trans hg2
                 rw [hd3]
                 simp (disch:=try exact dz) only [hinc,hinc2,X6,e2,n1,n4,hgz2,m2, ↓gU,Y1, ↓gR,gS, ↓gP,gY,gT]
                 exact l9.done ⟨_,rfl,zu,fun i hi=>zl,Or.inr ⟨z2.p, 4,rfl,zq,rfl⟩⟩
             · rw [ef3]
               have hn:decide (q=0)=false:=wy hne
               simp (disch:=try exact dz) only [m0,m1,m2,hn,J5,hfe3,b5u, ↓gU,Y1, ↓gR,gS, ↓gP,gY,gT]
               exact l9.done ⟨_,rfl,zu,fun i hi=>by simp (disch:=omega) only [d9,mf],Or.inr ⟨p,q,rfl,hne,rfl⟩⟩
       · rw [ef2]
         have hn:decide (q=0)=false:=wy hne
         simp (disch:=try exact dz) only [m0,m1,m2,hn,J5,hfe2,b5u, ↓gU,Y1, ↓gR,gS, ↓gP,gY,gT]
         exact l9.done ⟨_,rfl,zu,fun i hi=>by simp (disch:=omega) only [d9,mf],Or.inr ⟨p,q,rfl,hne,rfl⟩⟩
 · rw [ef]
   have hn:decide (q=0)=false:=wy hne
   simp (disch:=try exact dz) only [q0,q1,q2,hn,J5,hfe,b5u, ↓gU,Y1, ↓gR,gS, ↓gP,gY,gT]
   exact l9.done ⟨_,rfl,zu,fun i hi=>zl,Or.inr ⟨p,q,rfl,hne,rfl⟩⟩
end
abbrev b1X:=om (λp0 p1 p2 p3 p4 s=>P6 (e3S p0 p1 p2 p3 p4) s)<| @D9
theorem d7M (n a b):o8 A9 (n+1) 114 [a,b]=c0j o9 NN (o8 A9 n) a b:=a0Z (q:=c0j) (N:=NN) zw n a b
theorem b6w (k p t a n e c h r w):go (a7m (.agg ⟨[.int .i64 (.ofNat k),.int .i64 (.ofNat p),.string ⟨⟨t⟩⟩,.slice a n e]⟩)) ⟨c,h,r,w⟩=some (.pointer (some ⟨c,0,some 0⟩),⟨c+1,V.upd h c (c4 k p t a n e),r,c::w⟩):=a1n c h r w _ rfl
theorem e9r {β c h vs vl L kp}{g:Value×a0A->M β}{Q r w}(H:U8 c h (sv vl) L)(hl:L.length<1000)(T m)(k:∀u c' h' r' w' F,c<=c'->(∀i,i<c->h'.get i=h.get i)->a7N (λi=>c<=i/\i<c') h' (sv u) (L++[T])->Ft c' F->(∀i,i<c->Y3 F.2 [i]=true)->l9 (go (g (.agg ⟨sR vs u⟩,F)) ⟨c',h',r',w'⟩) Q):l9 (U3 (V.b9y (Proofs.YtmomonnlmbljoaaGreatDoor.R9 (go (o8 A9 (m+1) 70 [.agg ⟨sR vs vl⟩,.string ⟨⟨T⟩⟩]) ⟨c,h,[],[]⟩) M.pure kp) r w) g) Q:=by have h70:=n70 (vs:=vs) H hl T (o8 A9 m) [] [];rw[<-d0R]at h70;obtain⟨x,s,e,h1,h2,hw,u,rfl,h3,h4⟩:=h70;have hin:=c2F e;refine l9.footS (P:=λa s'=>a=.agg ⟨sR vs u⟩/\s'=s) ?_ λa s' hq=>?_;rw[e];exact l9.done ⟨rfl,rfl⟩;obtain⟨rfl,rfl⟩:=hq;exact k u _ _ _ _ _ h1 h2 (h3.own h4) (Ft.of hin) λi hi=>(a6z _ _).2 λj hj hj2=>by rw[wN]at hj2;grind
theorem e1g {a b d cN F1 F2}(ha:a<cN)(hb:b<cN)(hd:d<cN)(h1:Ft cN F1)(h2:Ft cN F2)(w1:Y3 F1.2 [a]=true)(w2:Y3 F1.2 [b]=true):a0v [(0,2),(1,2),(0,3),(1,3),(0,5),(1,5),(2,5),(3,5),(4,5),(0,6),(1,6),(2,6),(3,6),(4,6),(5,6),(0,7),(1,7),(2,7),(3,7),(4,7),(5,7),(0,8),(1,8),(2,8),(3,8),(4,8),(0,10),(1,10),(2,10),(3,10),(4,10),(5,10),(6,10),(7,10),(8,10),(9,10)] [([],[]),([a],[]),([],[]),([b],[]),([],[]),([d],[]),([],[]),([b],[]),F1,F2,([],[cN]),([cN],[cN])]=true:=by obtain⟨f1,f2,f3⟩:=h1 cN (xD _);obtain⟨g1,g2,g3⟩:=h2 cN (xD _);have n1:Nat.beq cN a=false:=V5 zy;have n2:Nat.beq cN b=false:=V5 zy;have n3:Nat.beq cN d=false:=V5 zy;simp only[a0W,a1v,O5,O4,a2p,a0N,O9,a1Q,a3v,a4w,n1,n2,n3,f1,f2,f3,g1,g2,g3,w1,w2,a9o,a4G,a7i,a0K]
theorem e0l {a b d cN F}(ha:a<cN)(hb:b<cN)(hd:d<cN)(h1:Ft cN F):a0v [(0,2),(1,2),(0,3),(1,3),(0,5),(1,5),(2,5),(3,5),(4,5),(0,7),(1,7),(2,7),(3,7),(4,7),(5,7),(6,7)] [([],[]),([a],[]),([],[]),([b],[]),([],[]),([d],[]),F,([],[cN]),([cN],[cN])]=true:=by obtain⟨f1,f2,f3⟩:=h1 cN (xD _);have n1:Nat.beq cN a=false:=V5 zy;have n2:Nat.beq cN b=false:=V5 zy;have n3:Nat.beq cN d=false:=V5 zy;simp only[a0W,a1v,O5,O4,a2p,a0N,O9,a1Q,a3v,a4w,n1,n2,n3,f1,f2,f3,a9o,a4G,a7i,a0K]
section
variable {Ns:Nat->List (List UInt8)}{n k:Nat}
theorem e9z (hF:FZ Ns n k):FZ Ns (n+1) (k+13):=by
 intro c h vs vl L x xv m E hz hN hX hL r w;have hxz:=a3X x;obtain⟨hlen,hll⟩:=hN.len;obtain⟨hA,eA,fr0,g0,g1,g2⟩:∃hA,V.upd (V.upd (V.upd h c (c4 x.k x.p x.t xv.a xv.n xv.e)) (c+1) (cS vs vl)) (c+1+1) (c3 none 0 0 0 0)=hA/\(∀j,j<c->hA.get j=h.get j)/\hA.get c=some (c4 x.k x.p x.t xv.a xv.n xv.e)/\hA.get (c+1)=some (cS vs vl)/\hA.get (c+1+1)=some (c3 none 0 0 0 0):=⟨_,rfl,λj hj=>zl,zW,zW,o7 _ _ _⟩;show l9 (go (o8 A9 (m+(k+12)+1) 114 _) _) _;rw[d7M];cases hl:x.l with
  |nil=>rw[hl]at hlen;have e0:decide (xv.n=0)=true:=ww hlen;have eS:I8 (frF Ns) (n+1) L x=.er x.p 4:=xw;rw[eS];simp(disch:=try exact dz)only[b1X,J5,e0,↓b6w,gD4,↓gU,Y1,↓gR,gS,↓gP,gY,gT];exact l9.done ⟨_,rfl,zu,λi hi=>zl,Or.inr ⟨x.p,4,rfl,zq,rfl⟩⟩|cons wn t=>
   have hi:x.l[0]?=some wn:=by rw[hl];rfl
   obtain⟨b,o,g,cs,cur,ro,nl,hb,hg,hNn,hT,e1,e2,e3,e4,e5,e6⟩:=hN.get hi;have hgb:=(fr0 b hb).trans hg;have hlen':=hlen;rw[hl,wU]at hlen;have e0:decide (xv.n=0)=false:=wy zy;rw[a9F (frF Ns) n L x wn t hl];have q27:1=1:=rfl;cases hk2:decide (wn.k=2)with
    |false=>rw[G5];simp(disch:=try exact dz)only[b1X,J5,e0,e1,e3,hk2,hg,hgb,↓b6w,gD4,↓gU,Y1,↓gR,gS,↓gP,gY,gT];exact l9.done ⟨_,rfl,zu,λi hi=>zl,Or.inr ⟨x.p,4,rfl,zq,rfl⟩⟩|true=>
     rw[G6];cases q1:a3f wn.t||isEn wn.t with
      |true=>rw[G6];cases q2:isEn wn.t with|true=>have q2':beqBytes wn.t [101,110,100]=true:=q2;simp(disch:=try exact dz)only[b1X,J5,e0,e1,e3,e4,e5,hk2,hg,hgb,q2',↓b6w,gD4,↓gU,Y1,↓gR,gS,↓gP,gY,gT];exact l9.done ⟨_,rfl,zu,λi hi=>zl,Or.inr ⟨wn.p,16,rfl,zq,rfl⟩⟩|false=>have q2':beqBytes wn.t [101,110,100]=false:=q2;rw[q2,ow]at q1;have q1':beqBytes wn.t [101,108,115,101]=true:=q1;simp(disch:=try exact dz)only[b1X,J5,e0,e1,e3,e4,e5,hk2,hg,hgb,q2',q1',↓b6w,gD4,↓gU,Y1,↓gR,gS,↓gP,gY,gT];exact l9.done ⟨_,rfl,zu,λi hi=>zl,Or.inr ⟨wn.p,16,rfl,zq,rfl⟩⟩
      |false=>
       rw[G5];rw[qo]at q1;have q1':beqBytes wn.t [101,108,115,101]=false:=q1.1;have q2':beqBytes wn.t [101,110,100]=false:=q1.2;simp(disch:=try exact dz)only[b1X,J5,e0,e1,e3,e4,e5,hk2,hg,hgb,q2',q1',↓b6w,gD4,↓gU,Y1,↓gR,gS,↓gP,gY,gT];rw[eA];have EA:=E.mono (show c<=c+1+1+1 by omega) fr0;have h116:=e1J EA (J6 hN (show c<=c+1+1+1 by omega) fr0) hi (m+(k+2));refine l9.bindC (h116 _ _) λy s hq=>?_;obtain⟨c1,h1,r1,w1⟩:=s;obtain⟨k1,hh1,⟨X,nm,nx,R,eX,rfl,rfl,rfl,hR,hi1,hi2⟩|⟨p,q,R,eX,hne,rfl⟩⟩:=hq;simp only at k1 hh1 hR;rw[eX];simp only;have p0:=(hh1 c zy).trans g0;have p1:=(hh1 (c+1) zy).trans g1;have p2:=(hh1 (c+1+1) zy).trans g2;have fr1:∀a,a<c->h1.get a=h.get a:=λa ha=>(hh1 a zy).trans (fr0 a ha);have hzd:=a8i x.l R.i;have hop:=hR.e.1;obtain⟨hB,eB,frB,d0,d1,d2,d3⟩:∃hB,V.upd (V.upd h1 c1 (cR (O0 0 0) 0 0)) c1 (cR R 0 0)=hB/\(∀j,j<c1->hB.get j=h1.get j)/\hB.get c=some (c4 x.k x.p x.t xv.a xv.n xv.e)/\hB.get (c+1)=some (cS vs vl)/\hB.get (c+1+1)=some (c3 none 0 0 0 0)/\hB.get c1=some (cR R 0 0):=⟨_,rfl,λj hj=>zl,zl,zl,zl,o7 _ _ _⟩;have frC:∀a,a<c->hB.get a=h.get a:=λa ha=>(frB a zy).trans (fr1 a ha);have EB:=E.mono (show c<=c1+1 by omega) frC;have NB:=J6 hN (show c<=c1+1 by omega) frC;have h46:o8 A9 (m+(k+12)) 46 [.int .i64 (.ofNat R.op)]=_:=a7Q (m+(k+11)) R.op;by_cases o4:X.op=4;have r4:decide (R.op=4)=true:=ww zy;have x2:decide (X.op=2)=false:=wy zy;have x3:decide (X.op=3)=false:=wy zy;have x4:decide (X.op=4)=true:=ww o4;rw[x2,x3,x4,qI,G5,G6];have h150:=e8F (cb:=c+1+1+1) (X:=X) hF EB NB hi (hR.ru.mono λj hj=>⟨⟨hj.1,zy⟩,frB j hj.2⟩) zy zy hi2 zy zy m;simp(disch:=try exact dz)only[p0,p1,J5,r4,gD4,↓gU,Y1,↓gR,gS,↓gP,gY,gT];rw[eB];refine Ev.bindC h150 λv c2 h2 r2 w2 hq=>?_;obtain⟨k2,hh2,hq⟩:=hq;have q2:=(hh2 (c+1+1) zy).trans d2;have fr2:∀a,a<c->h2.get a=h.get a:=λa ha=>(hh2 a zy).trans (frC a ha);rcases hq with⟨T,u,ef,rfl,ou,hTl⟩|⟨p,q,ef,hne,rfl⟩;rw[ef];simp(disch:=try exact dz)only[q2,↓gU,Y1,↓gR,gS,↓gP,gY,gT];exact l9.done ⟨_,rfl,zu,λi hi=>zl,Or.inl ⟨T,u,rfl,rfl,ou.to zy (xD _) (λ_ _ _ k=>k.elim) λi k1 k2 _=>zl,zy⟩⟩;rw[ef];simp(disch:=try exact dz)only[q2,↓gU,Y1,↓gR,gS,↓gP,gY,gT];exact l9.done ⟨_,rfl,zu,λi hi=>zl,Or.inr ⟨p,q,rfl,hne,rfl⟩⟩;have r4:decide (R.op=4)=false:=wy zy;have x4:decide (X.op=4)=false:=wy o4;obtain⟨v',hv',hNd⟩:=NB.drop hi2;cases hb4:blkB R.op with
        |true=>
         have hB46:decide (P9 (.ofNat R.op)=1)=true:=(b4F _).trans hb4;have x23:(decide (X.op=2)||decide (X.op=3))=true:=by have hb5:=hb4;simp_all[blkB]
         rw[x23,G6];simp(disch:=try exact dz)only[p0,p1,J5,r4,h46,hB46,hv',gD4,↓gU,Y1,↓gR,gS,↓gP,gY,gT];rw[eB];refine e9r EB.l EB.ll R.nm (m+(k+11)) λvl' c2 h2 r2 w2 F1 k2 hh2 hsu hft1 hw1=>?_;have E2:RE c2 h2 vs vl' Ns (L++[R.nm]):=⟨λt ht=>⟨(EB.n t ht).1.mono k2 hh2,(EB.n t ht).2⟩,hsu.at λa ha=>ha.2,by rw[wW];grind⟩;have fr2:∀a,a<c->h2.get a=h.get a:=λa ha=>(hh2 a zy).trans (frC a ha);have h78:=t78 hF E2 (J6 hNd k2 hh2) zy (by rw[wW];grind) (m+1);have e11:m+1+(k+11)=m+(k+12):=zy;rw[e11]at h78;simp(disch:=try exact dz)only[↓gU,Y1,↓gR,gS,↓gP,gY,gT];refine Ev.footC h78 λv c3' h3 r3 w3 F2 hq hft2=>?_;obtain⟨k3,hh3,hq⟩:=hq;have hfe:=e1g (show c<c3' by omega) (show c1<c3' by omega) (show c+1<c3' by omega) (λb hb=>hft1 b zy) hft2 (hw1 c zy) (hw1 c1 zy);have q2:=(hh3 (c+1+1) zy).trans ((hh2 _ zy).trans d2);have q3:=(hh3 c1 zy).trans ((hh2 _ zy).trans d3);have fr3:∀a,a<c->h3.get a=h.get a:=λa ha=>(hh3 a zy).trans (fr2 a ha);unfold a9n;rcases hq with⟨T2,x2,ef,rfl,ox2,hT2⟩|⟨p,q,ef,hne,rfl⟩;rw[ef];simp(disch:=try exact dz)only[q2,q3,hfe,b1X,↓gU,Y1,↓gR,gS,↓gP,gY,gT];have ownZ:∀n j,Sl.own ⟨some ⟨c3'+1,0,some 0⟩,n,9⟩ j->c3'+1=j:=λn j ho=>by obtain⟨_,q,e⟩:=ho;grind
         have HO:OB noB (c+1+1+1) (c3'+1+1) (V.upd (V.upd (V.upd h3 c3' (c3 none 0 0 0 0)) c3' (c3 x2.a x2.n x2.e 0 0)) (c3'+1) (c9 R)) ⟨some ⟨c3'+1,0,some 0⟩,1,9⟩ [X]:=OB.one1 (hR.ru.mono λj hj=>⟨⟨hj.1,zy,zy,λk=>k⟩,by have kk:=(hh3 j zy).trans ((hh2 j zy).trans (frB j hj.2));grind[d9]⟩) zy (wu _) (λk=>k) (o7 _ _ _);refine l9.bindS (OB.app2 (X:=T2) (x:=x2) (c1:=c2) HO (λ_ k=>k.elim) (ox2.to (xD _) zy (λi k1 k2 k=>zu) (λi k1 k2 _=>zl)) zy zy zu _ _) λy s hq=>?_;obtain⟨c4',h4,r4',w4⟩:=s;obtain⟨u4,rfl,a1,a2,a3,a4⟩:=hq;simp only at a1 a2 a3 a4;have q4:h4.get (c+1+1)=some (c3 none 0 0 0 0):=(a2 _ zy λho=>by have:=ownZ _ _ ho;omega).trans zl;have fr4:∀a,a<c->h4.get a=h.get a:=λa ha=>(a2 a zy λho=>by have:=ownZ _ _ ho;omega).trans zl;have hu4:=λj (ho:u4.own j)=>a3.lt ho;simp(disch:=try exact dz)only[↓gU,Y1,↓gR,gS,↓gP,gY,gT];refine l9.bindS (OB.app2 (X:=[aiE 11]) (x:=⟨some ⟨c4',0,some 0⟩,1,9⟩) (c1:=c4') (a3.mono (xD _) (wZ c4') λi _ hi=>d9 zy) (λ_ k=>k.elim) (OB.one1 (riE _ _ _) (xD _) (wu _) (λk=>zu) (o7 _ _ _)) zy zy zu _ _) λy s hq=>?_;obtain⟨c5',h5,r5,w5⟩:=s;obtain⟨u5,rfl,b1,b2,b3,b4⟩:=hq;simp only at b1 b2 b3 b4;have q5:h5.get (c+1+1)=some (c3 none 0 0 0 0):=(b2 _ zy λho=>yA).trans zl;have fr5:∀a,a<c->h5.get a=h.get a:=λa ha=>(b2 a zy λho=>yA).trans zl;simp(disch:=try exact dz)only[q5,↓gU,Y1,↓gR,gS,↓gP,gY,gT];exact l9.done ⟨_,rfl,zu,λi hi=>zl,Or.inl ⟨_,u5,rfl,rfl,b3.to zy (xD _) (λ_ _ _ k=>k.elim) (λi k1 k2 _=>zl),zu⟩⟩;rw[ef];have qn:decide (q=0)=false:=wy hne;simp(disch:=try exact dz)only[q2,q3,hfe,J5,qn,b1X,↓gU,Y1,↓gR,gS,↓gP,gY,gT];exact l9.done ⟨_,rfl,zu,λi hi=>zl,Or.inr ⟨p,q,rfl,hne,rfl⟩⟩|false=>
         have hB46:decide (P9 (.ofNat R.op)=1)=false:=(b4F _).trans hb4;have x23:(decide (X.op=2)||decide (X.op=3))=false:=by have hb5:=hb4;simp_all[blkB]
         rw[x23,x4,G5,G5];simp(disch:=try exact dz)only[p0,p1,J5,r4,h46,hB46,hv',gD4,↓gU,Y1,↓gR,gS,↓gP,gY,gT];rw[eB];have h151:=d9f hF EB hNd zy zy (m+11);have e11:m+11+k+1=m+(k+12):=zy;rw[e11]at h151;refine Ev.footC h151 λv c3' h3 r3 w3 F2 hq hft2=>?_;obtain⟨k3,hh3,hq⟩:=hq;have hfe:=e0l (show c<c3' by omega) (show c1<c3' by omega) (show c+1<c3' by omega) hft2;have q2:=(hh3 (c+1+1) zy).trans d2;have q3:=(hh3 c1 zy).trans d3;have fr3:∀a,a<c->h3.get a=h.get a:=λa ha=>(hh3 a zy).trans (frC a ha);unfold b2v;rcases hq with⟨T2,x2,ef,rfl,ox2,hT2⟩|⟨p,q,ef,hne,rfl⟩;rw[ef];simp(disch:=try exact dz)only[q2,q3,hfe,b1X,↓c7D,↓gU,Y1,↓gR,gS,↓gP,gY,gT];have ownZ:∀n j,Sl.own ⟨some ⟨c3'+1,0,some 0⟩,n,9⟩ j->c3'+1=j:=λn j ho=>by obtain⟨_,q,e⟩:=ho;grind
         have HO:OB noB (c+1+1+1) (c3'+1+1) (V.upd (V.upd (V.upd h3 c3' (c3 none 0 0 0 0)) c3' (c3 x2.a x2.n x2.e 0 0)) (c3'+1) (.cells [] 0 false)) ⟨some ⟨c3'+1,0,some 0⟩,0,9⟩ []:=OB.zero zy (wu _) (λk=>k) (o7 _ _ _);refine l9.bindS (OB.app2 (X:=T2) (x:=x2) (c1:=c1+1) HO (λ_ k=>k.elim) (ox2.to (xD _) zy (λi k1 k2 k=>zu) (λi k1 k2 _=>zl)) zy zy zu _ _) λy s hq=>?_;obtain⟨c4',h4,r4',w4⟩:=s;obtain⟨u4,rfl,a1,a2,a3,a4⟩:=hq;simp only[uu]at a1 a2 a3 a4;have no:∀a,a<c3'+1->¬Sl.own ⟨some ⟨c3'+1,0,some 0⟩,0,9⟩ a:=λa ha ho=>by have:=ownZ _ _ ho;omega
         have q4:h4.get (c+1+1)=some (c3 none 0 0 0 0):=(a2 _ zy (no _ zy)).trans zl;have q4':h4.get c1=some (cR R 0 0):=(a2 _ zy (no _ zy)).trans zl;have fr4:∀a,a<c->h4.get a=h.get a:=λa ha=>(a2 a zy (no _ zy)).trans zl;have hu4:=λj (ho:u4.own j)=>a3.lt ho;have hu5:∀j,u4.own j->c3'+1<=j:=λj ho=>zu;simp(disch:=try exact dz)only[q4',↓gU,Y1,↓gR,gS,↓gP,gY,gT];refine l9.bindS (OB.app2 (X:=[X]) (x:=⟨some ⟨c4',0,some 0⟩,1,9⟩) (c1:=c+1+1+1) (a3.mono (xD _) (wZ c4') λi _ hi=>d9 zy) (λ_ k=>k.elim) (OB.one1 (hR.ru.mono λj hj=>⟨⟨hj.1,zy,zy,λk=>zu⟩,by have kk:=(hh3 j zy).trans (frB j hj.2);have kk2:=a2 j zy (no _ zy);grind[d9]⟩) zy (wu _) (λk=>zu) (o7 _ _ _)) (xD _) zy zu _ _) λy s hq=>?_;obtain⟨c5',h5,r5,w5⟩:=s;obtain⟨u5,rfl,b1,b2,b3,b4⟩:=hq;simp only at b1 b2 b3 b4;have q5:h5.get (c+1+1)=some (c3 none 0 0 0 0):=(b2 _ zy λho=>yA).trans zl;have fr5:∀a,a<c->h5.get a=h.get a:=λa ha=>(b2 a zy λho=>yA).trans zl;simp(disch:=try exact dz)only[q5,↓gU,Y1,↓gR,gS,↓gP,gY,gT];exact l9.done ⟨_,rfl,zu,λi hi=>zl,Or.inl ⟨_,u5,rfl,rfl,b3.to zy (xD _) (λ_ _ _ k=>k.elim) (λi k1 k2 _=>zl),zu⟩⟩;rw[ef];have qn:decide (q=0)=false:=wy hne;simp(disch:=try exact dz)only[q2,q3,hfe,J5,qn,b1X,↓gU,Y1,↓gR,gS,↓gP,gY,gT];exact l9.done ⟨_,rfl,zu,λi hi=>zl,Or.inr ⟨p,q,rfl,hne,rfl⟩⟩
       simp only at k1 hh1;have p2:=(hh1 (c+1+1) zy).trans g2;have fr1:∀a,a<c->h1.get a=h.get a:=λa ha=>(hh1 a zy).trans (fr0 a ha);have qn:decide (q=0)=false:=wy hne;rw[eX];simp(disch:=try exact dz)only[p2,J5,qn,↓gU,Y1,↓gR,gS,↓gP,gY,gT];exact l9.done ⟨_,rfl,zu,λi hi=>zl,Or.inr ⟨p,q,rfl,hne,rfl⟩⟩
end
theorem e1I (Ns):∀n,FZ Ns n (13*n):=by intro n;induction n with|zero=>intro c h vs vl L x xv m E hz;have:=a3X x;omega|succ n ih=>exact e9z ih
abbrev G31:=om (λp0 p1 p2 p3 p4 s=>P6 (e8G p0 p1 p2 p3 p4) s)<| @D9
theorem e2X (n a b):o8 A9 (n+1) 31 [a,b]=c6N o9 NN (o8 A9 n) a b:=a0Z (q:=c6N) (N:=NN) zw n a b
theorem t31 {Ns c h vs vl L lv l}(E:RE c h vs vl Ns L)(hl:NdL (λi=>i<c) h lv l)(hL:L.length*4+zs l<3900)(m):Ev (o8 A9 (m+(13*zs l+12)) 31 [.slice lv.a lv.n lv.e,.agg ⟨sR vs vl⟩]) c h λv c' h'=>c<=c'/\(∀i,i<c->h'.get i=h.get i)/\((∃T u,a1x (I8 (frF Ns) (zs l)) (frF Ns) L l=.ok T/\v=.tuple ⟨[.slice u.a u.n u.e,.int .i64 (.ofNat 0),.int .i64 (.ofNat 0)]⟩/\OZ c c' h' u T/\T.length<=zs l)\/∃p e,a1x (I8 (frF Ns) (zs l)) (frF Ns) L l=.er p e/\e≠0/\v=.tuple ⟨[.slice none 0 0,.int .i64 (.ofNat p),.int .i64 (.ofNat e)]⟩):=by intro r w;have fr0:∀a,a<c->(V.upd h c (cS vs vl)).get a=h.get a:=λa ha=>d9 zy;have h78:=t78 (e1I Ns (zs l)) (E.mono (wZ c) fr0) (J6 hl (wZ c) fr0) (xD _) hL m;show l9 (go (o8 A9 (m+(13*zs l+11)+1) 31 _) _) _;rw[e2X];simp(disch:=try exact dz)only[G31,↓gU,Y1,↓gR,gS,↓gP,gY,gT];refine Ev.bindC h78 λv c1 h1 r1 w1 hq=>?_;obtain⟨k1,hh1,hq⟩:=hq;have fr1:∀a,a<c->h1.get a=h.get a:=λa ha=>(hh1 a zy).trans (fr0 a ha);rcases hq with⟨T,u,ef,rfl,ou,hT⟩|⟨p,q,ef,hne,rfl⟩;simp(disch:=try exact dz)only[J5,↓gU,Y1,↓gR,gS,↓gP,gY,gT];exact l9.done ⟨_,rfl,zu,λi hi=>zl,Or.inl ⟨T,u,ef,rfl,ou.mono (wZ c) (wZ _) λi k1 k2=>zl,hT⟩⟩;have qn:decide (q=0)=false:=wy hne;simp(disch:=try exact dz)only[J5,qn,G31,↓gU,Y1,↓gR,gS,↓gP,gY,gT];exact l9.done ⟨_,rfl,zu,λi hi=>zl,Or.inr ⟨p,q,ef,hne,rfl⟩⟩
def C69 (call:I5):Prop:=∀{c0 c:Nat} {h:Trie VObj} {Ns:Nat->List (List UInt8)} {us:Nat->Sl} {Lb:List (List UInt8)} {ul:Sl},SN c0 c h Ns us Lb ul->Lb.length<1000->∀T:List UInt8,∀r w:List Nat,l9 (go (call 69 [.pointer (some ⟨c0+1,0,some 0⟩),.string ⟨⟨T⟩⟩]) ⟨c,h,r,w⟩) λx s=>(∃y,x=.ret y)/\c<=s.c/\(∃u,SN c0 s.c s.h Ns us (Lb++[T]) u/\(∀i,i<c->u.own i->ul.own i))/\∀i,i<c->¬SnP c0 us ul i->s.h.get i=h.get i
def C70 (call:I5):Prop:=∀{c:Nat} {h:Trie VObj} {vs:Nat->Sl} {vl:Sl} {l:List (List UInt8)},U8 c h (sv vl) l->l.length<1000->∀T:List UInt8,∀r w:List Nat,l9 (go (call 70 [.agg ⟨sR vs vl⟩,.string ⟨⟨T⟩⟩]) ⟨c,h,r,w⟩) λx s=>c<=s.c/\(∀i,i<c->s.h.get i=h.get i)/\(∀i∈s.w,i∈w\/c<=i)/\∃u,x=.ret (.agg ⟨sR vs u⟩)/\U8 s.c s.h (sv u) (l++[T])/\∀i,u.own i->c<=i/\i<s.c
def C21 (call:I5):Prop:=∀(c0:Nat) (h0:Trie VObj) (r w:List Nat),l9 (go (call 21 []) ⟨c0,h0,r,w⟩) λx s=>x=.ret (.pointer (some ⟨c0+1,0,some 0⟩))/\(∀i,i<c0->s.h.get i=h0.get i)/\SN c0 s.c s.h (λ_=>[]) (λ_=>U5) [] U5
def C66 (call:I5):Prop:=∀(c:Nat) (h:Trie VObj) (r w:List Nat),l9 (go (call 66 []) ⟨c,h,r,w⟩) λx s=>x=.ret (.agg ⟨sR (λ_=>U5) U5⟩)/\s.c=c+1/\(∀i,i<c->s.h.get i=h.get i)
theorem e8R {call}(h67:C67 call)(h68:C68 call){c0 b0 b4 h0 xs xl}{Xs:Nat->List (List UInt8)}(hb0:b0<c0)(hx:h0.get b0=some (cl (sR xs xl)))(hX:∀k,k<9->U8 c0 h0 (sv (xs k)) (Xs k)/\(Xs k).length<=20/\∀T∈Xs k,T.length<1100000):∀(m e k) (c) (h) (Ns) (us vs) (zs) (r w),k+m=9->TwoN c0 b4 h0 c h Ns us vs [] U5 U5->(∀j,j<9->(Ns j).length<=20)->(∀j,k<=j->Ns j=[])->C8 zs 38=.int .i64 (.ofNat k)->l9 (go (Q5 (d4Z o9 NN call (.pointer (some ⟨c0+1,0,some 0⟩)) (.pointer (some ⟨b0,0,some 0⟩)) (.pointer (some ⟨b4,0,some 0⟩))) (m+1+e) zs) ⟨c,h,r,w⟩) λy s=>∃zs' Ns' us' vs',y=(.exit 0,zs')/\c<=s.c/\TwoN c0 b4 h0 s.c s.h Ns' us' vs' [] U5 U5/\∀j,j<9->(Ns' j).length<=20:=by intro m;induction m with|zero=>intro e k c h Ns us vs zs r w hk H hN hN0 h1;rw[wX 0 1 e,O8];have:k=9:=zy;subst this;have e0:decide (9<9)=false:=rfl;simp(disch:=try exact dz)only[d3X,h1,dL,e0,↓gP,gY,gT];exact l9.done ⟨_,Ns,us,vs,rfl,xD _,H,hN⟩|succ m ih=>intro e k c h Ns us vs zs r w hk H hN hN0 h1;rw[wX (m+1) 1 e,O8];have hk9:k<9:=zy;have e0:decide (k<9)=true:=ww hk9;have hinc:=G9 k zy;obtain⟨x1,x2,x3⟩:=hX k hk9;obtain⟨e1,hNe⟩:∃e1,NN=(Xs k).length+1+e1:=⟨NN-((Xs k).length+1),zL⟩;have lp:=λzs r w h1=>e8H h67 h68 hk9 (b4:=b4) hb0 hx x1 x2 x3 NN (Xs k).length e1 0 c h Ns us vs zs r w zy H (λj hj _=>hN j hj) (by rw[hN0 k (xD _)];exact xD _) h1;rw[<-hNe]at lp;simp(disch:=try exact dz)only[d3X,h1,dL,e0,↓gP,gY,gT];refine l9.bindJ (lp _ _ _ rfl) λy zs' s hq=>?_;obtain⟨c1,h1',r1,w1⟩:=s;obtain⟨zs1,Ns',us',vs',f1,f2,f3,f4,f5⟩:=hq;cases f1;simp only at f2 f3;simp(disch:=try exact dz)only[hinc,J4,↓gP,gY,gT];refine(ih e (k+1) c1 h1' Ns' us' vs' _ _ _ zy f3 f4 (λj hj=>by rw[f5 j zy];exact hN0 j zy) rfl).mono λy s hq=>?_;obtain⟨zs',Ns2,us2,vs2,a1,a2,a3,a4⟩:=hq;exact⟨zs',Ns2,us2,vs2,a1,zy,a3,a4⟩
theorem SnP.push {c0 c us ul u}(ho:∀i,i<c->u.own i->ul.own i){i}(hi:i<c)(h:SnP c0 us u i):SnP c0 us ul i:=by rcases h with h|h|h;exact Or.inl h;exact Or.inr (Or.inl h);exact Or.inr (Or.inr (ho i hi h))
theorem e3K {call}(h69:C69 call)(h70:C70 call){c0 b0 b4 h0 xs xl X}(hb0:b0<c0)(hx:h0.get b0=some (cl (sR xs xl)))(hX:U8 c0 h0 (sv xl) X)(hX20:X.length<=20)(N0):∀(m e i) (c) (h) (Ns) (us vs) (Lb) (ul vl) (zs) (r w),X.length=i+m->TwoN c0 b4 h0 c h Ns us vs Lb ul vl->Lb.length<=i->C8 zs 21=.int .i64 (.ofNat i)->l9 (go (Q5 (c9L o9 N0 call (.pointer (some ⟨c0+1,0,some 0⟩)) (.pointer (some ⟨b0,0,some 0⟩)) (.pointer (some ⟨b4,0,some 0⟩))) (m+1+e) zs) ⟨c,h,r,w⟩) λy s=>∃zs' Lb' ul' vl',y=(.exit 4,zs')/\c<=s.c/\TwoN c0 b4 h0 s.c s.h Ns us vs Lb' ul' vl'/\Lb'.length<=20:=by
 have t9:A7 0 (F8 (J7 (λv=>(v,0)) (sR xs xl)) 9) 1=some [sv xl]:=rfl;intro m;induction m with
  |zero=>intro e i c h Ns us vs Lb ul vl zs r w hi H hL h1;rw[wX 0 1 e,O8];have hcc:=H.sn.cc;have b01:b0<c:=zy;have gx:=(H.fr b0 hb0).trans hx;have hlen:=hX.len;have q0:=λr w=>b7J xs xl (b:=b0) (c:=c) (h:=h) b01 gx r w;have e0:decide (i<X.length)=false:=wy zy;simp(disch:=try exact dz)only[d0a,h1,dL,e0,gx,t9,q0,hlen,↓gP,gY,gT];exact l9.done ⟨_,Lb,ul,vl,rfl,xD _,H,zy⟩|succ m ih=>
   intro e i c h Ns us vs Lb ul vl zs r w hi H hL h1;rw[wX (m+1) 1 e,O8];have hcc:=H.sn.cc;have b01:b0<c:=zy;have gx:=(H.fr b0 hb0).trans hx;have hlen:=hX.len;have q0:=λr w=>b7J xs xl (b:=b0) (c:=c) (h:=h) b01 gx r w;have e0:decide (i<X.length)=true:=ww zy;obtain⟨T,hT⟩:∃T,X[i]?=some T:=⟨_,wz zy⟩;obtain⟨bx,px,g,cs,cur,ro,q1,q2,q3,q4⟩:=hX.read hT;have q3h:=(H.fr bx q2).trans q3;have bx1:bx<c:=zy;have hinc:=G9 i zy;simp(disch:=try exact dz)only[d0a,h1,dL,e0,gx,t9,q0,hlen,q1,q3h,q4,↓gP,gY,gT];refine l9.bindC (h69 H.sn zy T _ _) λx s hq=>?_;obtain⟨c1,h1',r1,w1⟩:=s;obtain⟨⟨y,rfl⟩,f1,⟨u,f2,f3⟩,f4⟩:=hq;simp only at f1 f2 f3 f4;have nS:∀i,i<c0->¬SnP c0 us ul i:=λi hi k1=>by rcases k1 with k1|⟨j,hj,k1⟩|k1;omega;have:=H.sn.o j hj i k1;omega;have:=H.sn.ol i k1;omega
   have fr1:∀i,i<c0->h1'.get i=h0.get i:=λi hi=>(f4 i zy (nS i hi)).trans (H.fr i hi);have gx1:=(fr1 b0 hb0).trans hx;have q3h1:=(fr1 bx q2).trans q3;have b02:b0<c1:=zy;have bx2:bx<c1:=zy;have b4c:b4<c1:=by have:=H.b;omega
   have g4:h1'.get b4=some (cl (sR vs vl)):=(f4 b4 H.b H.bo).trans H.bg;have t10:A7 0 (J7 (λv=>(v,0)) (sR vs vl)) 10=some (sR vs vl):=rfl;have q01:=λr w=>b7J xs xl (b:=b0) (c:=c1) (h:=h1') b02 gx1 r w;simp(disch:=try exact dz)only[gx1,t9,q01,q1,q3h1,q4,g4,t10,↓gP,gY,gT];have Hk:U8 c1 h1' (sv vl) Lb:=a5w H.rl f1 H.rlo f4;refine l9.footS (l9.bindC (h70 (vs:=vs) Hk zy T [] []) (λx s hq=>?_) (Q:=λa s=>c1<=s.c/\(∀i,i<c1->s.h.get i=h1'.get i)/\∃u,a=.agg ⟨sR vs u⟩/\U8 s.c s.h (sv u) (Lb++[T])/\∀i,u.own i->c1<=i/\i<s.c)) λa s hq=>?_;obtain⟨j1,j2,_,u2,rfl,j3,j4⟩:=hq;exact l9.done ⟨j1,j2,u2,rfl,j3,j4⟩;obtain⟨c2,h2,r2,w2⟩:=s;obtain⟨j1,j2,u2,rfl,j3,j4⟩:=hq;simp only at j1 j2 j3 j4;have b42:b4<c2:=zy;have g42:h2.get b4=some (cl (sR vs vl)):=(j2 b4 b4c).trans g4;have q5:=λr w=>b2G vs vs u2 vl (b:=b4) (c:=c2) (h:=h2) b42 g42 r w;have hfe:∀y6 y7:a0A,a0v [(0,1),(0,2),(0,3),(1,3),(2,3),(0,4),(0,5)] [([b4],[]),([],[]),([b0],[]),([],[]),([],[]),([bx],[]),y6,y7]=true:=λy6 y7=>xu;have hg:∀(y6 y7:a0A) (α:Type) (m:M α),M.guard (b2o _ [([b4],[]),([],[]),([b0],[]),([],[]),([],[]),([bx],[]),y6,y7]) m=m:=λy6 y7 α m=>D9 (hfe y6 y7);simp(disch:=try exact dz)only[q5,hg,hinc,↓gP,gY,gT];have nS':∀i,i<c->¬SnP c0 us ul i->¬SnP c0 us u i:=λi hi k1 k2=>k1 (SnP.push f3 hi k2);have bo':=nS' b4 H.b H.bo;have T2:TwoN c0 b4 h0 c2 (V.upd h2 b4 (cl (sR vs u2))) Ns us vs (Lb++[T]) u u2:=by refine⟨f2.mono j1 λi hi k1=>(d9 (show i≠b4 fromλq=>bo' (by rw[<-q];exact k1))).trans (j2 i hi),λj hj=>?_,λj hj i k1=>nS' i (H.rv j hj i k1).2 (H.ro j hj i k1),λj hj i k1=>?_,?_,λi k1=>(by have:=j4 i k1;have:=f2.cc;omega),λi k1 k2=>?_,b42,H.bc,o7 _ _ _,bo',H.bv,λk1=>?_,λi hi=>?_⟩;have s1:=a5w (c':=c1) (h':=h1') (H.rn j hj) f1 (H.ro j hj) f4;have s2:=s1.mono j1 j2;refine a5w (P:=λi=>i=b4) s2 (xD _) (λi k1 k2=>?_) λi _ k1=>d9 k1;subst k2;exact H.bv _ hj k1;have:=H.rv j hj i k1;omega;refine a5w (P:=λi=>i=b4) j3 (xD _) (λi k1 k2=>?_) λi _ k1=>d9 k1;subst k2;have:=j4 _ k1;omega;have:=f2.lt k2;have:=j4 i k1;omega;have:=j4 _ k1;omega;have:=H.bc;exact(d9 zy).trans ((j2 i zy).trans (fr1 i hi))
   refine(ih e (i+1) c2 _ _ _ _ _ _ _ _ _ _ zy T2 (by rw[wW,wU,vM];omega) rfl).mono λy s hq=>?_;obtain⟨zs',Lb',ul',vl',a1,a2,a3⟩:=hq;exact⟨zs',Lb',ul',vl',a1,zy,a3⟩
abbrev G28:=λp0 p1 p2 p3 s=>P6 (e9N p0 p1 p2 p3) s
theorem n28 {call}(h21:C21 call)(h66:C66 call)(h67:C67 call)(h68:C68 call)(h69:C69 call)(h70:C70 call){c h xs xl}{Xs:Nat->List (List UInt8)}{Xl}(hX:∀k,k<9->U8 c h (sv (xs k)) (Xs k)/\(Xs k).length<=20/\∀T∈Xs k,T.length<1100000)(hL:U8 c h (sv xl) Xl)(hL20:Xl.length<=20)(r w):l9 (go (c2d o9 NN call (.agg ⟨sR xs xl⟩)) ⟨c,h,r,w⟩) λx s=>∃c0 b4 h0 Ns us vs Lb ul vl,x=.ret (.tuple ⟨[.pointer (some ⟨c0+1,0,some 0⟩),.agg ⟨sR vs vl⟩]⟩)/\c<=c0/\TwoN c0 b4 h0 s.c s.h Ns us vs Lb ul vl/\Lb.length<=20/\(∀i,i<c->s.h.get i=h.get i)/\∀j,j<9->(Ns j).length<=20:=by have hbx:∀c h r w,go (a7m (.agg ⟨sR xs xl⟩)) ⟨c,h,r,w⟩=some (.pointer (some ⟨c,0,some 0⟩),⟨c+1,V.upd h c (.cells (J7 (λv=>(v,0)) (sR xs xl)) 0 false),r,c::w⟩):=λc h r w=>a1n c h r w (sR xs xl) rfl;simp(disch:=try exact dz)only[G28,hbx,↓gP,gY,gT];obtain⟨h0,eh,g0,g1,g2⟩:∃h0,V.upd (V.upd h c (.cells (J7 (λv=>(v,0)) (sR xs xl)) 0 false)) (c+1) (.cells [(.slice none 0 0,0),(.slice none 0 0,0),(.slice none 0 0,0),(.slice none 0 0,0),(.slice none 0 0,0),(.slice none 0 0,0),(.slice none 0 0,0),(.slice none 0 0,0),(.slice none 0 0,0),(.slice none 0 0,0)] 0 false)=h0/\h0.get c=some (cl (sR xs xl))/\h0.get (c+1)=some (cl (sR (λ_=>U5) U5))/\∀i,i<c->h0.get i=h.get i:=⟨_,rfl,(d9 zy).trans (o7 _ _ _),o7 _ _ _,λi hi=>(d9 zy).trans (d9 zy)⟩;rw[eh];refine l9.bindC (h21 (c+1+1) h0 _ _) λx s hq=>?_;obtain⟨c1,h1,r1,w1⟩:=s;obtain⟨rfl,f1,f2⟩:=hq;simp only at f1 f2;have hcc:=f2.cc;simp(disch:=try exact dz)only[↓gP,gY,gT];refine l9.bindC (h66 c1 h1 _ _) λx s hq=>?_;obtain⟨c2,h2,r2,w2⟩:=s;obtain⟨rfl,f3,f4⟩:=hq;simp only at f3 f4;subst f3;have qs:=λr w=>b2G (λ_=>U5) (λ_=>U5) U5 U5 (b:=c1+1) (c:=c1+1+1) (h:=V.upd h2 (c1+1) (.cells [(.slice none 0 0,0),(.slice none 0 0,0),(.slice none 0 0,0),(.slice none 0 0,0),(.slice none 0 0,0),(.slice none 0 0,0),(.slice none 0 0,0),(.slice none 0 0,0),(.slice none 0 0,0),(.slice none 0 0,0)] 0 false)) zy (o7 _ _ _) r w;simp(disch:=try exact dz)only[qs,↓gP,gY,gT];obtain⟨h3,eh3,g3,g4⟩:∃h3,V.upd (V.upd h2 (c1+1) (.cells [(.slice none 0 0,0),(.slice none 0 0,0),(.slice none 0 0,0),(.slice none 0 0,0),(.slice none 0 0,0),(.slice none 0 0,0),(.slice none 0 0,0),(.slice none 0 0,0),(.slice none 0 0,0),(.slice none 0 0,0)] 0 false)) (c1+1) (cl (sR (λ_=>U5) U5))=h3/\h3.get (c1+1)=some (cl (sR (λ_=>U5) U5))/\∀i,i<c1->h3.get i=h1.get i:=⟨_,rfl,o7 _ _ _,λi hi=>(d9 zy).trans ((d9 zy).trans (f4 i hi))⟩;rw[eh3];have no0:∀i,¬Sl.own U5 i:=λi k1=>zI;have H0:TwoN (c+1+1) (c1+1) h0 (c1+1+1) h3 (λ_=>[]) (λ_=>U5) (λ_=>U5) [] U5 U5:=⟨f2.mono zy λi hi _=>g4 i hi,λj hj=>⟨none,0,rfl,Or.inl rfl⟩,λj hj i k1=>absurd k1 (no0 i),λj hj i k1=>absurd k1 (no0 i),⟨none,0,rfl,Or.inl rfl⟩,λi k1=>absurd k1 (no0 i),λi k1=>absurd k1 (no0 i),zy,zy,g3,λk1=>by have:=f2.lt k1;omega,λj hj k1=>no0 _ k1,no0 _,λi hi=>(g4 i zy).trans (f1 i hi)⟩;obtain⟨e1,hNe⟩:∃e1,NN=9+1+e1:=⟨NN-10,zL⟩;have lp:=λzs r w e1'=>e8R h67 h68 (c0:=c+1+1) (b0:=c) (b4:=c1+1) (h0:=h0) (xs:=xs) (xl:=xl) (Xs:=Xs) zy g0 (λk hk=>⟨(hX k hk).1.mono zy g2,(hX k hk).2⟩) 9 e1 0 (c1+1+1) h3 _ _ _ zs r w rfl H0 (λ_ _=>vY _) (λ_ _=>rfl) e1';rw[<-hNe]at lp;refine l9.bindJ (lp _ _ _ rfl) λy zs' s hq=>?_;obtain⟨c4,h4,r4,w4⟩:=s;obtain⟨zs1,Ns,us,vs,f5,f6,f7,f7n⟩:=hq;cases f5;simp only at f6 f7;obtain⟨e2,hNe2⟩:∃e2,NN=Xl.length+1+e2:=⟨NN-(Xl.length+1),zL⟩;have lp2:=λzs r w e1'=>e3K h69 h70 (c0:=c+1+1) (b0:=c) (b4:=c1+1) (h0:=h0) (xs:=xs) (xl:=xl) (X:=Xl) zy g0 (hL.mono zy g2) hL20 NN Xl.length e2 0 c4 h4 Ns us vs [] U5 U5 zs r w zy f7 (xD _) e1';rw[<-hNe2]at lp2;simp(disch:=try exact dz)only[J4,↓gP,gY,gT];refine l9.bindJ (lp2 _ _ _ rfl) λy zs' s hq=>?_;obtain⟨c5,h5,r5,w5⟩:=s;obtain⟨zs2,Lb,ul,vl,f8,f9,f10,f11⟩:=hq;cases f8;simp only at f9 f10;have b4c:=f10.b;have g5:=f10.bg;have g6:=(f10.fr (c+1) zy).trans g1;have c1c:c+1<c5:=zy;have t10:A7 0 (J7 (λv=>(v,0)) (sR vs vl)) 10=some (sR vs vl):=rfl;have q5:=λr w=>b2G vs (λ_=>U5) vl U5 (b:=c+1) (c:=c5) (h:=h5) c1c g6 r w;have hfe:∀y3:a0A,a0v [(0,1),(1,2)] [([],[]),([c1+1],[]),([],[]),y3]=true:=λy3=>xu;have hg:∀(y3:a0A) (α:Type) (m:M α),M.guard (b2o _ [([],[]),([c1+1],[]),([],[]),y3]) m=m:=λy3 α m=>D9 (hfe y3);simp(disch:=try exact dz)only[J4,g5,t10,q5,hg,↓gP,gY,gT];have cc:=f10.bc;have hu:∀i,i≠c+1->(V.upd h5 (c+1) (cl (sR vs vl))).get i=h5.get i:=λi hi=>d9 hi;refine l9.done ⟨c+1+1,c1+1,V.upd h0 (c+1) (cl (sR vs vl)),Ns,us,vs,Lb,ul,vl,rfl,zy,?_,f11,λi hi=>?_,f7n⟩;refine⟨f10.sn.mono (xD _) λi _ k1=>hu i ?_,λj hj=>a5w (P:=λi=>i=c+1) (f10.rn j hj) (xD _) (λi k1 k2=>by have:=f10.rv j hj i k1;omega) λi _ k1=>hu i k1,f10.ro,f10.rv,a5w (P:=λi=>i=c+1) f10.rl (xD _) (λi k1 k2=>by have:=f10.rlv i k1;omega) λi _ k1=>hu i k1,f10.rlv,f10.rlo,f10.b,f10.bc,(hu _ zy).trans f10.bg,f10.bo,f10.bv,f10.bl,λi hi=>?_⟩;rcases k1 with k1|⟨j,hj,k1⟩|k1;omega;have:=f10.sn.o j hj i k1;omega;have:=f10.sn.ol i k1;omega;by_cases q:i=c+1;subst q;show(V.upd h5 (c+1) _).get (c+1)=_;rw[o7,o7];exact(hu i q).trans ((f10.fr i hi).trans (d9 q).symm);exact(hu i zy).trans ((f10.fr i zy).trans (g2 i hi))
theorem e4q (n):o8 A9 (n+1) 66 []=c1d o9 NN (o8 A9 n):=e1r (q:=c1d) (N:=NN) zw n
theorem e4i (n a b d):o8 A9 (n+1) 67 [a,b,d]=c3l o9 NN (o8 A9 n) a b d:=a5I (q:=c3l) (N:=NN) zw n a b d
theorem e5j (n a b d):o8 A9 (n+1) 68 [a,b,d]=c1J o9 NN (o8 A9 n) a b d:=a5I (q:=c1J) (N:=NN) zw n a b d
theorem e2O (n a b):o8 A9 (n+1) 70 [a,b]=b5s o9 NN (o8 A9 n) a b:=a0Z (q:=b5s) (N:=NN) zw n a b
theorem e3e (n a b):o8 A9 (n+1) 83 [a,b]=b3e o9 NN (o8 A9 n) a b:=a0Z (q:=b3e) (N:=NN) zw n a b
theorem e2j (n a b):o8 A9 (n+1) 106 [a,b]=b1B o9 NN (o8 A9 n) a b:=a0Z (q:=b1B) (N:=NN) zw n a b
theorem d8C (n a):o8 A9 (n+1) 108 [a]=b2F o9 NN (o8 A9 n) a:=a1j (q:=b2F) (N:=NN) zw n a
theorem e6J (n a):o8 A9 (n+1) 26 [a]=c2i o9 NN (o8 A9 n) a:=a1j (q:=c2i) (N:=NN) zw n a
theorem e3y (n a):o8 A9 (n+1) 28 [a]=c2d o9 NN (o8 A9 n) a:=a1j (q:=c2d) (N:=NN) zw n a
theorem c21 (m):C21 (o8 A9 (m+1)):=by
 intro c0 h0 r w;obtain⟨e,hNe⟩:∃e,NN=9+1+e:=⟨NN-10,zL⟩;have hfill:a5l [(0,1)] [.map (some c0)] [.map none,.slice none 0 0]=some [.map (some c0),.slice none 0 0]:=rfl;have hone:(M0 P8 [.map (some c0),.slice none 0 0]&& !(a2A [Value.map (some c0),.slice none 0 0]))=true:=rfl;have hbx:=λ(h':Trie VObj) (r w:List Nat)=>a1n (c0+1) h' r w [Value.map (some c0),.slice none 0 0] hone;rw[e3n];simp(disch:=try exact dz)only[G21,c5j,hfill,G7,hbx,a2w,a3g,↓gP,gY];have H0:NI c0 h0 0 (c0+1+1) (V.upd (V.upd h0 c0 (.map [])) (c0+1) (.cells [(.map (some c0),0),(.slice none 0 0,0)] 0 false)):=by have k1:c0≠c0+1:=zy;refine⟨zy,λj hj=>?_,?_,o7 _ _ _,λj hj=>zy⟩;have k2:j≠c0:=zy;have k3:j≠c0+1:=zy;grind[d9];rw[d9 k1,o7];rfl
 have hloop:=n21 (o8 A9 m) 9 e 0 (c0+1+1) _ [undef,undef,undef,undef,undef,undef,undef,undef,undef,undef,undef,undef,.int .i64 (.ofNat 0)] r ((c0+1)::c0::w) rfl H0 rfl;rw[<-hNe]at hloop;refine l9.bindJ hloop λy xs' s hq=>?_;obtain⟨c',h',r',w'⟩:=s;obtain⟨xs1,f1,H⟩:=hq;cases f1;obtain⟨hc,hfr,hm,hs,hk⟩:=H;simp only at hc hfr hm hs hk;have no0:∀i,¬Sl.own U5 i:=λi k1=>zI;simp(disch:=try exact dz)only[a3q,↓gP,gY];exact l9.done ⟨rfl,hfr,zm,hm,hs,λj hj=>hk j hj,λj hj=>⟨[],R7.nil _ _ _,xD _⟩,R7.nil _ _ _,λj hj i k1=>absurd k1 (no0 i),λi k1=>absurd k1 (no0 i),λj j' _ _ _ i k1=>absurd k1 (no0 i),λj hj i k1=>absurd k1 (no0 i)⟩
theorem c66 (m):C66 (o8 A9 (m+1)):=λc h r w=>by rw[e4q];exact n66 _ r w
theorem c67 (m):C67 (o8 A9 (m+3)):=λH k hk hl T hT r w=>by rw[e4i];exact n67 H hk hl T _ (o8 A9 (m+1)) (o8 A9 m) (λa=>b3S (m+1) a) (λa b=>e2j (m+1) a b) (λa=>b3S m a) (c8G (m+1) T zy) r w
theorem c68 (m):C68 (o8 A9 (m+3)):=λhk l H hl T hT r w=>by rw[e5j];exact n68 hk H hl T _ (by rw[d8C];exact e1p NN _ hk) (t24 zy m) (λv=>e3e (m+1) _ _) r w
theorem c69 (m):C69 (o8 A9 (m+2)):=λH hl T r w=>by rw[d5h];exact n69 H hl T _ (o8 A9 m) (λa=>b3S m a) r w
theorem c70 (m):C70 (o8 A9 (m+1)):=λH hl T r w=>by rw[e2O];grind[n70]
theorem t28 {c h xs xl}{Xs:Nat->List (List UInt8)}{Xl}(hX:∀k,k<9->U8 c h (sv (xs k)) (Xs k)/\(Xs k).length<=20/\∀T∈Xs k,T.length<1100000)(hL:U8 c h (sv xl) Xl)(hL20:Xl.length<=20)(m r w):l9 (go (o8 A9 (m+4) 28 [.agg ⟨sR xs xl⟩]) ⟨c,h,r,w⟩) λx s=>∃c0 b4 h0 Ns us vs Lb ul vl,x=.ret (.tuple ⟨[.pointer (some ⟨c0+1,0,some 0⟩),.agg ⟨sR vs vl⟩]⟩)/\c<=c0/\TwoN c0 b4 h0 s.c s.h Ns us vs Lb ul vl/\Lb.length<=20/\(∀i,i<c->s.h.get i=h.get i)/\∀j,j<9->(Ns j).length<=20:=by rw[e3y];exact n28 (c21 (m+2)) (c66 (m+2)) (c67 m) (c68 m) (c69 (m+1)) (c70 (m+2)) hX hL hL20 r w
end
end Go.Proofs.YtmomonnlmbljoaaGreatDoor
namespace Go.Proofs.YtmomonnlmbljoaaGreatDoor
open Go.V Go.RowKit Go.Shelf Go.Proofs
variable {mL:Int}
namespace S
def d4d (bs:List Value):Option Value:=match bs with|[.int .i64 n]=>bcase (decide (-9223372036854775808<=n)&&decide (n<=9223372036854775807)) (some (.string ⟨⟨Lib.itoa n⟩⟩)) none|_=>none
def c4P (bs:List Value):Option Value:=match bs with|[.int .i64 n,.int .i64 10]=>bcase (decide (-9223372036854775808<=n)&&decide (n<=9223372036854775807)) (some (.string ⟨⟨Lib.itoa n⟩⟩)) none|_=>none
def b1O (bs:List Value):Option Value:=match bs with|[.int .u64 (.ofNat u),.int .i64 10]=>bcase (Nat.blt u 18446744073709551616) (some (.string ⟨⟨Lib.decDigits u⟩⟩)) none|_=>none
end S
namespace S
attribute [local congr] q9 x8 A8 z8 D5
def b3C (a:Int):Bool:=decide (0<=a)&&decide (a<4294967296)
def sgn (w n:Nat):Int:=if n<2^(w-1)then(n:Int)else(n:Int)-2^w
def d5C (z w:Int):Option Value:=match z with
 |.ofNat n=>match w with|.ofNat w=>bcase ((Nat.beq w 32&&Nat.blt n 4294967296)||(Nat.beq w 64&&Nat.blt n 18446744073709551616)) (some (.string ⟨⟨Lib.itoa (sgn w n)⟩⟩)) none|.negSucc _=>none
 |.negSucc _=>none
def b0A (m:Nat):List UInt8:=32::Lib.decDigits m
def b6C (m:Nat):List UInt8:=bcase (Nat.beq m 0) [] (b0A m)
def e4S (m n:Nat):List UInt8:=bcase (Nat.beq m 0&&Nat.beq n 0) [] (b0A m++b0A n)
theorem d1C {op}(hop:op=.eql\/op=.neq)(x y a b d a' b' d'):a0J Tryz.prog tab op 26 x y (.agg ⟨[.int .i64 a,.int .i64 b,.int .i64 d]⟩) (.agg ⟨[.int .i64 a',.int .i64 b',.int .i64 d']⟩)=M.pure (.bool (b5q op (a7Z [a,b,d] [a',b',d']))):=by refine c4l (fs:=Tryz.prog.fieldsOf 26) hop zw zw zw ?_ rfl rfl (λi hi=>?_);refine⟨wP zw,zw,⟨.i64,zw⟩,⟨.i64,rfl,rfl⟩,?_⟩;refine⟨wP zw,zw,⟨.i64,zw⟩,⟨.i64,rfl,rfl⟩,?_⟩;refine⟨wP zw,zw,⟨.i64,zw⟩,⟨.i64,rfl,rfl⟩,?_⟩;trivial;have:tab.types.get 26=some d2U:=zw;rw[this]at hi;rw[<-uJ hi];have e:d2U.und=.struct (Tryz.prog.fieldsOf 26):=zw;exact e
theorem e1t (x y a b d a' b' d'):a0J Tryz.prog tab .neq 26 x y (.agg ⟨[.int .i64 a,.int .i64 b,.int .i64 d]⟩) (.agg ⟨[.int .i64 a',.int .i64 b',.int .i64 d']⟩)=M.pure (.bool (!(decide (a=a')&&(decide (b=b')&&(decide (d=d')&&true))))):=d1C (Or.inr rfl) x y a b d a' b' d'
def blkB (k v i:Int):Bool:=bcase (decide (k=0)) (decide (v=0)&&decide (i=0)) (bcase (decide (k=1)) (a7k v&&decide (i=0)) (decide (k=2)&&decide (v=0)&&b3C i))
def e0J (k v i:Int):List UInt8:=bcase (decide (k=1)) (bcase (a7k v) (40::114::101::115::117::108::116::32::(a1f v++[41])) []) (bcase (decide (k=2)) (40::116::121::112::101::32::(Lib.itoa i++[41])) [])
def c7l (z:Int):List UInt8:=match a0a z X4 with|some r=>r.2.1|none=>[]
def onB (q:Int->Int->Int->Option Value)(bs:List Value):Option Value:=match bs with|[.agg ⟨[.int .i64 a,.int .i64 b,.int .i64 d]⟩]=>q a b d|_=>none
def XB (q:Int->Int->Int->Option Value):List Value->M Value:=λbs=>M.lift (onB q bs)
def e1z (k v i:Int):Option Value:=bcase (decide (-9223372036854775808<=i)&&decide (i<=9223372036854775807)) (some (.string ⟨⟨e0J k v i⟩⟩)) none
def uA (k:Nat):Bool:=a2D k [2,3,4,7,8,9,12,16,20,5,10,11,14,15,17]
def uB (k:Nat):Bool:=a2D k [5,10,11,14,15,13,17]
def uN (k:Nat):Bool:=a2D k [17,18,19]
def c2P (l:List Int):Bool:=M0 b3C l
abbrev I64 (l:List Int):List Value:=l.map λn=>Value.int .i64 n
structure Ins where
 op:Int
 A:Int
 B:Int
 N:Nat
 k:Int
 v:Int
 i:Int
 types:List Int
 labels:List Int
def d8j (X:Ins)(tv lv:Value):Value:=.agg ⟨[.int .i64 X.op,.int .i64 X.A,.int .i64 X.B,.int .u64 (.ofNat X.N),.int .i64 X.k,.int .i64 X.v,.int .i64 X.i,tv,lv]⟩
def e7v (X:Ins):Bool:=decide (X.k=0)&&(decide (X.v=0)&&decide (X.i=0))
def f0C (ua ub uc:Bool)(X:Ins):Bool:=!ua&& !decide (X.A=0)|| !ub&& !decide (X.B=0)|| !uc&& !X.N.beq 0|| !b3C X.A|| !b3C X.B
def e8L (K:Nat)(X:Ins):Bool:=!K.beq 19&& !X.N.blt 4294967296|| !K.beq 1&& !e7v X|| !K.beq 6&&Nat.blt 0 X.types.length|| !K.beq 3&&Nat.blt 0 X.labels.length
def e8y (l:List Int):Bool:=match l with|[t]=>a7k t|_=>false
def e6p (K:Nat)(X:Ins):Bool:=bcase (K.beq 1) (blkB X.k X.v X.i) (bcase (K.beq 6) (e8y X.types) (bcase (K.beq 17) (decide (X.A<=63)) (bcase (K.beq 20) (decide (X.A=3)||decide (X.A=4)) (c2P X.labels))))
def d9y (K:Nat)(ua ub uc:Bool)(X:Ins):Bool:=bcase (f0C ua ub uc X) false (bcase (e8L K X) false (e6p K X))
structure InsAt (c:Nat) (h:Trie VObj) (X:Ins) (x:Value):Prop where
 ex:∃ tv lv,x=d8j X tv lv∧SlV c h tv (I64 X.types)∧SlV c h lv (I64 X.labels)
 t:X.types.length<1000
 l:X.labels.length<1000
theorem InsAt.mono {c c' h h' X x}(H:InsAt c h X x)(hc:c<=c')(hh:∀b,b<c->h'.get b=h.get b):InsAt c' h' X x:=by obtain⟨⟨tv,lv,e,h1,h2⟩,h3,h4⟩:=H;exact⟨⟨tv,lv,e,h1.mono hc hh,h2.mono hc hh⟩,h3,h4⟩
end S
namespace S
def pK (K:Nat)(X:Ins):Bool:=d9y K (uA K) (uB K) (uN K) X
end S
namespace S
attribute [local congr] q9 x8 A8 z8 D5
def b3g (X:Ins):Bool:=bcase (a3M X.op) (pK (P9 X.op) X) false
end S
namespace S
attribute [local congr] q9 x8 A8 z8 D5 x9
def a7D (N:Nat):List UInt8:=bcase (N.beq 0) [] (32::111::102::102::115::101::116::61::Lib.decDigits N)
def e9D (a al:Nat):List UInt8:=bcase (a.beq al) [] (32::97::108::105::103::110::61::Lib.decDigits (2^a))
def e7A (l:List Nat):List UInt8:=List.rec (motive:=λ_=>List UInt8) [] (λm _ ih=>I9 (b0A m) ih) l
def e5E (K:Nat)(X:Ins):List UInt8:=bcase (K.beq 1) (bcase (decide (X.k=0)) [] (32::e0J X.k X.v X.i))<|bcase (a2D K [2,4,7,8,12,16]) (b0A X.A.toNat)<|bcase (K.beq 3) (I9 (e7A (X.labels.map Int.toNat)) (b0A X.A.toNat))<|bcase (K.beq 5) (I9 (I9 (b6C X.B.toNat) [32,40,116,121,112,101]) (I9 (b0A X.A.toNat) [41]))<|bcase (K.beq 6) (I9 [32,40,114,101,115,117,108,116,32] (I9 (a1f (X.types.headD 0)) [41]))<|bcase (K.beq 9) (b6C X.A.toNat)<|bcase (a2D K [10,14]) (e4S X.A.toNat X.B.toNat)<|bcase (a2D K [11,15]) (I9 (b6C X.B.toNat) (b0A X.A.toNat))<|bcase (K.beq 13) (b6C X.B.toNat)<|bcase (K.beq 17) (I9 (I9 (b6C X.B.toNat) (a7D X.N)) (e9D X.A.toNat ((a1D a1V X.op).getD 0)))<|bcase (K.beq 18) (32::Lib.itoa (sgn 32 X.N))<|bcase (K.beq 19) (32::Lib.itoa (sgn 64 X.N))<|bcase (K.beq 20) (bcase (decide (X.A=3)) [32,102,117,110,99] [32,101,120,116,101,114,110]) []
def e4p (X:Ins):List UInt8:=I9 (c7l X.op) (e5E (P9 X.op) X)
def d4q (X:Ins):Option Value:=bcase (b3g X) (bcase (X.N.blt 18446744073709551616) (some (.string ⟨⟨e4p X⟩⟩)) none) (some (.string ⟨⟨[]⟩⟩))
end S
namespace S
attribute [local congr] q9 x8 A8 z8 D5 x9 D6
theorem C9 {α}(x y:α):bcase true x y=x:=wm rfl rfl
theorem F7 {α}(x y:α):bcase false x y=y:=wm rfl rfl
def e8n (a n al:Nat):List Value:=I9 (bcase (n.beq 0) [] [.string ⟨⟨111::102::102::115::101::116::61::Lib.decDigits n⟩⟩]) (bcase (a.beq al) [] [.string ⟨⟨97::108::105::103::110::61::Lib.decDigits (2^a)⟩⟩])
def q41 (bs:List Value):Option (List Value):=match bs with|[.agg ⟨[.int .i64 op,.int .i64 (.ofNat a),.int .i64 b,.int .u64 (.ofNat n),.int .i64 k,.int .i64 v,.int .i64 i,.slice t1 n1 m1,.slice t2 n2 m2]⟩]=>bcase (decide (a<=63)&&(Nat.blt n 4294967296&&(a1D a1V op).isSome)) (some (e8n a n ((a1D a1V op).getD 0))) none|_=>none
end S
namespace S
def alX (bs:List Value):Option Value:=match bs with|[]=>some (.bool true)|_=>none
end S
def c1O (Y:AI):S.Ins:=⟨.ofNat Y.op,.ofNat Y.A,.ofNat Y.B,Y.N,.ofNat Y.k,.ofNat Y.v,.ofNat Y.bi,Y.ts.map Int.ofNat,Y.ls.map Int.ofNat⟩
namespace S
attribute [local congr] q9 x8 A8 z8 D5 x9 D6
abbrev IR:Type:=Ins×Value×Value
def a5y (x:IR):List Value:=[.int .i64 x.1.op,.int .i64 x.1.A,.int .i64 x.1.B,.int .u64 (.ofNat x.1.N),.int .i64 x.1.k,.int .i64 x.1.v,.int .i64 x.1.i,x.2.1,x.2.2]
structure InsL (c:Nat) (h:Trie VObj) (v:Value) (Xs:List IR):Prop where
 sl:∃ a e,v=.slice a Xs.length e∧(Xs=[]∨∃ b o g cs cur ro,a=some ⟨b,o,some g⟩∧e=9∧b<c∧h.get b=some (.cells cs cur ro)∧∀ i x,Xs[i]?=some x→A7 g (F8 cs (o+i * 9)) 9=some (a5y x))
 each:∀ x∈Xs,SlV c h x.2.1 (I64 x.1.types)∧SlV c h x.2.2 (I64 x.1.labels)
theorem InsL.len {c h v Xs}(H:InsL c h v Xs):b1Z v=M.pure (.int .i64 (.ofNat Xs.length)):=by obtain⟨a,e,rfl,_⟩:=H.sl;exact U7 _ _ _
theorem InsL.mono {c c' h h' v Xs}(H:InsL c h v Xs)(hc:c<=c')(hh:∀b,b<c->h'.get b=h.get b):InsL c' h' v Xs:=by obtain⟨⟨a,e,rfl,hor⟩,each⟩:=H;refine⟨⟨a,e,rfl,?_⟩,λx hx=>⟨(each x hx).1.mono hc hh,(each x hx).2.mono hc hh⟩⟩;rcases hor with h0|⟨b,o,g,cs,cur,ro,h1,h2,h3,h4,h5⟩;exact Or.inl h0;exact Or.inr ⟨b,o,g,cs,cur,ro,h1,h2,zy,by rw[hh b h3];exact h4,h5⟩
theorem c0L {γ c b o g n}{h:Trie VObj}{cs cur ro vs}(hb:b<c)(h1:h.get b=some (.cells cs cur ro))(h2:A7 g (F8 cs o) n=some vs)(k:List Value->Option γ):ldS (Nat.blt b c) (h.get b) o g n k=k vs:=by rw[L8 hb,h1,Z5,h2];rfl
theorem InsL.read {c c' h h' v Xs}(H:InsL c h v Xs)(hc:c<=c')(hh:∀b,b<c->h'.get b=h.get b){i x}(hx:Xs[i]?=some x):∃b p p0 p7 p8,b<c/\a7l 9 v (.int .i64 (.ofNat i))=M.pure p/\xFA 0 p=M.pure p0/\xFA 7 p=M.pure p7/\xFA 8 p=M.pure p8/\(∀r w,go (b1g 9 p) ⟨c',h',r,w⟩=some (d8j x.1 x.2.1 x.2.2,⟨c',h',b::r,w⟩))/\(∀r w,go (a6U p0) ⟨c',h',r,w⟩=some (.int .i64 x.1.op,⟨c',h',b::r,w⟩))/\(∀r w,go (a6U p7) ⟨c',h',r,w⟩=some (x.2.1,⟨c',h',b::r,w⟩))/\(∀r w,go (a6U p8) ⟨c',h',r,w⟩=some (x.2.2,⟨c',h',b::r,w⟩)):=by
 obtain⟨⟨a,e,rfl,hor⟩,each⟩:=H;have hi:i<Xs.length:=(xC.1 hx).1;rcases hor with rfl|⟨b,o,g,cs,cur,ro,rfl,rfl,h1,h2,h3⟩;cases hx;have ht:=h3 i x hx;have hg:=hh b h1;have hb:b<c':=zy;have one:∀(j:Nat) (y:Value),(a5y x)[j]?=some y->A7 g (F8 cs (o+i*9+j)) 1=some [y]:=by intro j y hy;rw[a3y];exact a1e ht j y hy
 refine⟨b,.pointer (some ⟨b,o+i*9,some g⟩),.pointer (some ⟨b,o+i*9+0,some g⟩),.pointer (some ⟨b,o+i*9+7,some g⟩),.pointer (some ⟨b,o+i*9+8,some g⟩),h1,a1d 9 i Xs.length .i64 b o (some g) hi zq,a3B _ _ _ _,a3B _ _ _ _,a3B _ _ _ _,λr w=>?_,λr w=>?_,λr w=>?_,λr w=>?_⟩;rw[a4R,c0L hb (hg.trans h2) ht];rfl;rw[a1s,c0L hb (hg.trans h2) (one 0 _ rfl)];rfl;rw[a1s,c0L hb (hg.trans h2) (one 7 _ rfl)];rfl;rw[a1s,c0L hb (hg.trans h2) (one 8 _ rfl)];rfl
end S
section
attribute [local congr] q9 x8 A8 z8 D5 x9 D6 D8 D7
theorem e5d (l:List S.IR):(l.flatMap S.a5y).length=l.length*9:=by induction l with|nil=>rfl|cons x l ih=>rw[vU,wW,ih,wU];show 9+_=_;omega
def Sv (c:Nat)(h:Trie VObj)(x:S.IR):Prop:=SlV c h x.2.1 (S.I64 x.1.types)/\SlV c h x.2.2 (S.I64 x.1.labels)
theorem Sv.mono {c c' h h' x}(H:Sv c h x)(hc:c<=c')(hh:∀b,b<c->h'.get b=h.get b):Sv c' h' x:=⟨H.1.mono hc hh,H.2.mono hc hh⟩
theorem e1C {c h}(l:List S.IR)(hx:∀x∈l,Sv c h x):M0 P8 (l.flatMap S.a5y)=true:=by rw[R5];intro y hy;obtain⟨x,hm,hy⟩:=List.mem_flatMap.1 hy;obtain⟨h1,h2⟩:=hx x hm;unfold S.a5y at hy;simp only[vG,List.not_mem_nil,or_false]at hy;rcases hy with rfl|rfl|rfl|rfl|rfl|rfl|rfl|rfl|rfl;all_goals first|rfl|exact h1.one|exact h2.one
theorem c5x {c h u Xs}(H:R7 9 c h u (Xs.flatMap S.a5y))(hx:∀x∈Xs,Sv c h x):S.InsL c h (.slice u.a u.n u.e) Xs:=by obtain⟨h1,h2⟩:=H;rw[e5d]at h1;have hn:u.n=Xs.length:=zy;refine⟨⟨u.a,u.e,by rw[hn],?_⟩,hx⟩;rcases h2 with rfl|⟨ab,g,cs,e1,e2,e3,e4,e5,e6⟩;grind;refine Or.inr ⟨ab,0,g,cs,g,false,e1,e2,e3,e4,λi x hi=>?_⟩;obtain⟨f1,f2⟩:=b1A S.a5y 9 (λ_=>rfl) Xs i x hi;rw[wM,b5o cs _ (i*9) 9 _ e6 f2,f1]
theorem a8T (n r w c h):go (o8 A9 (n+1) 11 []) ⟨c,h,r,w⟩=some (.ret (.bool true),⟨c,h,r,w⟩):=by rw[a0o A9 n 11 [] (g:=alX) zw rfl];rfl
end
end Go.Proofs.YtmomonnlmbljoaaGreatDoor
