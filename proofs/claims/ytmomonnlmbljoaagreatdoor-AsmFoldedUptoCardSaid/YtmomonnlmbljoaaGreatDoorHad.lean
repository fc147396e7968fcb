import Derived.Test.YtmomonnlmbljoaaGreatDoorHac
set_option maxRecDepth 1000000
set_option maxHeartbeats 4000000
set_option linter.unusedVariables false
set_option linter.unusedSimpArgs false
section
namespace Go.V
open Go.RowKit (Below)
section
variable {P:Program}{T:Tab}{B0:Nat}{w0:Base}{w:World}{K:KM}{s s':S}{v:Value}
theorem VRL.two {l' x y l}(h:VRL K l' l)(h0:l[0]?=some x)(h1:l[1]?=some y):∃x' y' r,l'=x'::y'::r/\VR K x' x/\VR K y' y:=by match l',h with|[],h=>have:=h.len;simp_all|[x'],h=>have:=h.len;simp_all|x'::y'::r,h=>exact⟨x',y',r,rfl,h.at_ 0 _ _ rfl h0,h.at_ 1 _ _ rfl h1⟩
theorem c0r (hT:TabOk P T){argTypes ty st xt elem dx e vs x0 x0' x1 s1 n vs'}(h0:argTypes[0]?=some st)(h1:argTypes[1]?=some xt)(hst:∀w,(underlying st).run P w=.ok (.slice elem) w)(hxt:∀w,(underlying xt).run P w=.ok dx w)(hdx:b1t dx=false)(he:T.types.get elem=some e)(hpos:0<e.size)(h:X7 e x0 vs s1=some (v,s'))(S:Sim B0 w0 K s1.h w)(F:Q0 K s1 s')(r0:VR K x0' x0)(hn:(Builtin.lenOf x1).run P w=.ok n w)(hfc:(Builtin.firstCells e.size n x1).run P w=.ok vs'.toArray w)(hfc2:(Builtin.firstCells e.size n x1).run P w.drew=.ok vs'.toArray w.drew)(hvs:VRL K vs' vs)(hvl:vs'.length=n*e.size):∃v' w' K',(Builtin.append_ argTypes ty #[x0',x1]).run P w=.ok v' w'/\Step B0 w0 K s' w' K'/\VR K' v' v:=by
 obtain⟨info,g1,g2,g3,g4,g5,g6⟩:=hT.types elem e he;cases vs with
  |nil=>
   obtain⟨hsl,h2⟩:=y8 h;obtain⟨rfl,rfl⟩:=j7 h2;have hvs0:vs'=[]:=uT hvs.len;subst hvs0;have hn0:n=0:=by rcases uY n with q|q;exact q;have:=Nat.mul_pos q hpos;simp_all
   subst hn0;cases v with
    |slice o len es=>
     have hslice:∃b l c,x0'=.slice b l c/\l<=c:=by rcases a1H r0 with⟨_,ad',cap,_,p2,p3,_⟩|⟨_,_,_,p4⟩;grind;grind
     obtain⟨b,l,c,rfl,hlc⟩:=hslice;refine⟨.slice b l c,w,K,?_,Step.same S rfl,r0⟩;have:=b2c (ty:=ty) (w':=w) h0 h1 (hst w) (hxt w) hdx (T8 hT he w) hn hfc (base:=b) (len:=l) (cap:=c) zy (λ_=>rfl) (λad _=>rfl);omega|_=>cases hsl
  |cons u us=>
   cases x0 with
    |slice o len es=>
     have h2:M.guard (Nat.beq ((j9 us+1)/e.size*e.size) (j9 us+1)&&A9 D5 (u::us)&&Nat.blt ((len+(j9 us+1)/e.size)*4) a2J&&Nat.blt e.bytes 4096) (match o with|none=>M.guard (Nat.beq len 0)<|M.bind (M5 (u::us)) λa=>M.pure (.slice (some a) ((j9 us+1)/e.size) e.size)|some a=>M.guard (Nat.beq es e.size)<|appendAt e a len (u::us) ((j9 us+1)/e.size)) s1=some (v,s'):=by have:=h;simp only[X7,a0C]at this;exact this
     obtain⟨hgd,h3⟩:=y8 h2;simp only[xM,y9]at hgd;obtain⟨⟨⟨q1,q2⟩,q3⟩,q4⟩:=hgd;rw[y9]at h3;generalize hm:(us.length+1)/e.size=m at*;have q1:=xS q1;have q3:(len+m)*4<4294967296:=by grind[Nat.blt_eq,a2J]
     have q4:e.bytes<4096:=zq;have hvl2:vs'.length=us.length+1:=by rw[hvs.len];rfl
     have hnm:n=m:=by have:n*e.size=m*e.size:=zy;grind[Nat.eq_of_mul_eq_mul_right]
     subst hnm;have hn1:0<n:=zr;cases o with
      |none=>
       obtain⟨hl0,h4⟩:=y8 h3;obtain⟨ad,s2,h5,h6⟩:=o7 h4;obtain⟨rfl,rfl⟩:=j7 h6;rcases a1H r0 with⟨_,_,_,p1,_⟩|⟨_,p2,p3,p4⟩;cases p1;subst p4 p2;obtain⟨nc,arr,c1,c2,c3⟩:=b0I (ty:=ty) (base:=none) (len:=0) (cap:=0) (olds:=[]) hT h0 h1 hst hxt hdx he hn hfc2 rfl zy q3 q4 hpos;obtain⟨K',k1,k2,rfl⟩:=a3T (w':=w.drew.alloc (.cells arr elem)) (arr:=arr) (e:=elem) (fz:=(0,0)) (rest:=a3D e.zero.cells.toList (nc-(0+n))) h5 S F hvs ((Grew.drew w).trans (Grew.alloc _ _)) yw (by rw[c2];simp) (λo _=>zu);refine⟨_,_,K',c3,k1,?_⟩;rw[wt];refine VR.slice (off:=0) k2 (wR _) hpos zy (Or.inr rfl) (Or.inr ⟨rfl,rfl,λ_=>?_⟩);dsimp only;have hsz:arr.size=n*e.size+(nc-n)*e.size:=by rw[<-vu,c2];grind[a6F]
       rw[hsz,<-vJ,wt,tL zy];omega|some ad=>
       obtain⟨hes,h4⟩:=y8 h3;have hes:=xS hes;subst hes;obtain⟨g,cs,cur,olds,z1,z2,z3,z4,z5,z6,rfl⟩:=b9g h4;rcases a1H r0 with⟨ad1,ad',cap,p1,rfl,p3,p4,p5,p6,p7⟩|⟨p1,_⟩;cases p1;obtain⟨hg1,_,hg3⟩:=S.gens _ cs cur false z2;have hget:∀j,(Trie.put (some (.cells (cs.take (ad.off+len*e.size)) cur false)) (ad.block+1) s1.h ad.block).get j=if j=ad.block then some (.cells (cs.take (ad.off+len*e.size)) cur false)else s1.h.get j:=λj=>Trie.get_put _ _ _ _ (xG _) j;generalize Trie.put (some (.cells (cs.take (ad.off+len*e.size)) cur false)) (ad.block+1) s1.h ad.block=ht at hget;have S1:=c7E S z2 hget;have hb1:ht.get ad.block=some (.cells (cs.take (ad.off+len*e.size)) cur false):=by rw[hget,wT rfl]
       have hlt:(cs.take (ad.off+len*e.size)).length=ad.off+len*e.size:=by simp[z3]
       have hh':∀j,s'.h.get j=if j=ad.block then some (.cells (cs.take (ad.off+len*e.size)++(u::us).map λv=>(v,cur+1)) (cur+1) false)else ht.get j:=zq;by_cases hfit:len+n<=cap;obtain⟨g',l,y1,y2,y3,y4⟩:=a6p (p7 zy);rw[z1]at y1;cases y1;have hown:l.own=true:=(hg1 _ _ y2).2 rfl;obtain⟨c,et,fz,c1,c2,c3⟩:=S.room _ _ l cs cur false y2 hown z2;have hroom:l.at_+(ad.off-l.lo)+cap*e.size<=l.sz:=by generalize hv1:Value.slice (some ad') len cap=z' at p4;generalize hv2:Value.slice (some ad) len e.size=z at p4;cases p4 with|plain hp=>grind| @slice b g2 off len' cap' es' l0 a0 k1 k2 k3 k4 k5 k6=>grind|_=>cases hv1
       have hmul:len*e.size+n*e.size<=cap*e.size:=by rw[<-vJ];exact Nat.mul_le_mul_right _ hfit
       obtain⟨w',u1,u2⟩:=a9J P l.blk vs' (l.at_+(ad.off-l.lo)+len*e.size) 0 w (λj hj=>by
        have hidx:l.at_+(ad.off-l.lo)+len*e.size+0+j<c.size:=zy;have hc:w.cell? ⟨l.blk,l.at_+(ad.off-l.lo)+len*e.size+0+j,none⟩=c[l.at_+(ad.off-l.lo)+len*e.size+0+j]?:=by grind[World.cell?]
        rw[hc,uk hidx];rfl) (λj hj=>c3 _ zy) (λx hx=>by
        obtain⟨j,hj,rfl⟩:=tM hx;have hj2:j<(u::us).length:=by rw[<-hvs.len];exact hj
        exact(hvs.at_ j _ _ (xP hj) (xP hj2)).oneCell ((C9 _ _).1 q2 _ (vo hj2)));have hrun:=b2c (ty:=ty) (w':=w') h0 h1 (hst w) (hxt w) hdx (T8 hT he w) hn hfc (base:=some ad') (len:=len) (cap:=cap) hfit (λq=>zk) (λad2 q=>by grind[a7b]);have S2:=c2G S1 hb1 y2 (by rw[hlt];omega) (o:=l.at_+(ad.off-l.lo)+len*e.size+0) (by rw[hlt];omega) u2;let l':Loc:=⟨l.blk,ad.off,l.at_+(ad.off-l.lo),l.sz,true⟩;have S3:=c2m (l:=l') (vs:=u::us) S2 hb1 hh' rfl (by show l.blk<_;rw[u2.size];grind) (by show B0<=l.blk;exact S.own _ _ _ y2 hown) (λg2 l2 k1 k2=>by have:=(S.same _ _ _ _ _ y2 k1).2 k2.symm;grind) (λb2 g2 l2 hne k1=>(S.apart _ _ _ _ _ _ y2 k1 (tJ hne) hown).symm) (by have:=u2.room ⟨c,et,fz,c1,c2,c3⟩ c1;exact this) (λoff x st k1 k2=>by show∃v',w'.cell? ⟨l.blk,l.at_+(ad.off-l.lo)+(off-ad.off),none⟩=some v'/\VR K v' x;have k1:ad.off<=off:=k1;by_cases hoff:off<ad.off+len*e.size;rw[wh (by rw[hlt];exact hoff),vY,wT hoff]at k2;obtain⟨t1,t2⟩:=a4v _ _ _ _ z4;obtain⟨x2,st2,t3,t4,t5⟩:=t2 (off-ad.off) zy;rw[vr,show ad.off+(off-ad.off)=off by omega,k2]at t3;cases t3;obtain⟨v',r1,r2⟩:=S.cells _ cs cur false _ l z2 y2 off x st k2 t4 zy;refine⟨v',?_,r2⟩;rw[u2.cell_other c1 _ (Or.inr zr),show l.at_+(ad.off-l.lo)+(off-ad.off)=l.at_+(off-l.lo) by omega];exact r1;rw[wo (by rw[hlt];omega),hlt,wc]at k2;cases hq:(u::us)[off-(ad.off+len*e.size)]? with|none=>rw[hq]at k2;cases k2|some y=>rw[hq]at k2;cases k2;obtain⟨y',r1,r2⟩:=hvs.get? hq;refine⟨y',?_,r2⟩;have:=u2.cell_new c1 (by rw[hvl];omega) _ _ r1;rw[show l.at_+(ad.off-l.lo)+(off-ad.off)=l.at_+(ad.off-l.lo)+len*e.size+0+(off-(ad.off+len*e.size)) by omega];exact this);refine⟨_,w',_,hrun,⟨S3.2,λi g2 hi=>?_,S3.1⟩,?_⟩;refine KM.put_other K _ (λq=>?_);have hx:ad.block<s1.c:=xV;omega;rw[y4];exact VR.slice (KM.put_same _ _ _ _) (xR _) hpos hfit (Or.inr rfl) (Or.inr ⟨rfl,zr,λ_=>hroom⟩);obtain⟨l,y2,y3⟩:∃l,K ad.block g=some l/\l.lo<=ad.off:=by generalize hv1:Value.slice (some ad') len cap=z' at p4;generalize hv2:Value.slice (some ad) len e.size=z at p4;cases p4 with|plain hp=>grind| @slice b g2 off len' cap' es' l0 a0 k1 k2 k3 k4 k5 k6=>simp_all|_=>cases hv1
       obtain⟨olds',o1,o2,o3⟩:=a6P S y2 y3 z2 z4;have hol:olds'.length=len*e.size:=by rw[o1.len,o2]
       have hrold:(Builtin.firstCells e.size len (.slice (some ad') len cap)).run P w.drew=.ok olds'.toArray w.drew:=by rcases uY len with q|q;simp_all[Builtin.firstCells,loadCells,loadCellsFrom];obtain⟨g',l2,x1,x2,x3,rfl⟩:=a6p (p7 zy);rw[z1]at x1;cases x1;rw[y2]at x2;cases x2;have:=tE (P:=P) w.drew (⟨l.blk,l.at_+(ad.off-l.lo),none⟩:Addr) olds' (λj v hj=>by rw[a7b];exact o3 j v hj);rw[hol]at this;exact this
       obtain⟨nc,arr,c1,c2,c3⟩:=b0I (ty:=ty) (base:=some ad') (len:=len) (cap:=cap) (olds:=olds') hT h0 h1 hst hxt hdx he hn hfc2 hrold zy q3 q4 hpos;have hsz:arr.size=len*e.size+n*e.size+(nc-(len+n))*e.size:=by rw[<-vu,c2];grind[a6F]
       have G:Grew w (w.drew.alloc (.cells arr elem)):=(Grew.drew w).trans (Grew.alloc _ _);have hblk:(w.drew.alloc (.cells arr elem)).heap[w.heap.size]?=some (.cells arr elem (0,0)):=yw;have S2:=a4h S1 G;let l':Loc:=⟨w.heap.size,ad.off,0,arr.size,true⟩;have S3:=c2m (l:=l') (vs:=u::us) S2 hb1 hh' rfl zr (by show B0<=w.heap.size;exact S.base) (λg2 l2 k1 k2=>by have:=S.dom _ _ _ k1;have k2:l2.blk=w.heap.size:=k2;omega) (λb2 g2 l2 hne k1=>by have:=S.dom _ _ _ k1;grind) ⟨arr,elem,(0,0),hblk,rfl,λo _=>by grind[World.frozen?]⟩ (λoff x st k1 k2=>by
        show∃v',(w.drew.alloc (.cells arr elem)).cell? ⟨w.heap.size,0+(off-ad.off),none⟩=some v'/\VR K v' x;have k1:ad.off<=off:=k1;have hcell:∀i y,(olds'++vs')[i]?=some y->(w.drew.alloc (.cells arr elem)).cell? ⟨w.heap.size,0+i,none⟩=some y:=by
         intro i y hy;have hi:i<(olds'++vs').length:=(xQ.1 hy).1;have:arr[i]?=some y:=by rw[<-tg,c2,wh hi];exact hy
         simp_all[World.cell?]
        by_cases hoff:off<ad.off+len*e.size;rw[wh (by rw[hlt];exact hoff),vY,wT hoff]at k2;obtain⟨t1,t2⟩:=a4v _ _ _ _ z4;obtain⟨x2,st2,t3,t4,t5⟩:=t2 (off-ad.off) zy;rw[vr,show ad.off+(off-ad.off)=off by omega,k2]at t3;cases t3;obtain⟨v',r1,r2⟩:=o1.get? t5;grind;rw[wo (by rw[hlt];omega),hlt,wc]at k2;cases hq:(u::us)[off-(ad.off+len*e.size)]? with|none=>rw[hq]at k2;cases k2|some y=>rw[hq]at k2;cases k2;obtain⟨y',r1,r2⟩:=hvs.get? hq;grind);refine⟨_,_,_,c3,⟨S3.2,λi g2 hi=>?_,S3.1⟩,?_⟩;refine KM.put_other K _ (λq=>?_);have hx:ad.block<s1.c:=xV;omega;refine VR.slice (KM.put_same _ _ _ _) (xR _) hpos c1 (Or.inr rfl) (Or.inr ⟨rfl,zr,λ_=>?_⟩);grind[Nat.add_mul,Nat.add_sub_cancel'];cases p1
    |_=>exact absurd h zp
end
end Go.V
end
section
namespace Go.V
open Go.RowKit (Below)
section
variable {P:Program}{T:Tab}{B0:Nat}{w0:Base}{w:World}{K:KM}{s s':S}{a:Act}{fr:List Value}{v:Value}
theorem a5H {α:Type}(x:Array α)(i:Nat):x.toList[i]?=x[i]?:=zu
theorem c4q (hT:TabOk P T){ts ty vs vs'}(hl:vs'.length=2)(h:appendV T ts vs s=some (v,s'))(S:Sim B0 w0 K s.h w)(F:Q0 K s s')(r:VRL K vs' vs):∃v' w' K',(Builtin.append_ ts ty vs'.toArray).run P w=.ok v' w'/\Step B0 w0 K s' w' K'/\VR K' v' v:=by
 obtain⟨st,e1,h1⟩:=x8 h;obtain⟨xt,e2,h2⟩:=x8 h1;obtain⟨d,hd,h3⟩:=J8 h2;obtain⟨dx,hdx,h4⟩:=J8 h3;rw[a0J,a5H]at e1 e2;generalize hu:d.und=u at h4;cases u with
  |slice elem=>
   obtain⟨x0,e3,h5⟩:=x8 h4;obtain⟨x1,e4,h6⟩:=x8 h5;obtain⟨e,he,h7⟩:=J8 h6;obtain⟨hgd,h8⟩:=y8 h7;obtain⟨us,s1,h9,h10⟩:=o7 h8;rw[M4]at h10;rw[a0J]at e3 e4;obtain⟨x0',x1',rest,rfl,r0,r1⟩:=r.two e3 e4;have hrest:rest=[]:=zq;subst hrest;simp only[xM,vS]at hgd;have hpos:0<e.size:=Nat.pos_of_ne_zero (b4p (by rw[hgd.2];rfl));obtain⟨n,us',c1,c2,c3,c4,c5,c6⟩:=b3t (P:=P) h9 hpos S r1;have S1:Sim B0 w0 K s1.h w:=by rw[c5];exact S
   have F1:Q0 K s1 s':=by intro i hi;rw[c6]at hi;rw[c5];exact F i hi
   exact c0r hT e1 e2 (λw=>by rw[M8 hT hd,hu]) (λw=>M8 hT hdx w) zq he hpos h10 S1 F1 r0 (c1 w) (c2 w (λ_=>rfl)) (c2 w.drew (λ_=>rfl)) c3 c4|_=>exact absurd h4 zp
end
end Go.V
end
section
namespace Go.V
open Go.RowKit (Below)
theorem a9N {B0 w0 K h h' w w'}(S:Sim B0 w0 K h w){b l o o' ob}(hk:K b 0=some l)(hown:l.own=true)(ho:h.get b=some o)(hnc:∀cs cur ro,o≠.cells cs cur ro)(hnc':∀cs cur ro,o'≠.cells cs cur ro)(hh:∀j,h'.get j=if j=b then some o' else h.get j)(hw:w'={w with heap:=w.heap.setIfInBounds l.blk ob})(hmap:∀es,o'=.map es->∃es' clock,ob=.map es' clock/\MR K es'.toList es)(hiter:∀x pos,o'=.siter x pos->l.lo=0/\l.at_=0/\ob=.stringIter x pos):Sim B0 w0 K h' w':=by
 have hb:h'.get b=some o':=yC;have hn:∀j,j≠b->h'.get j=h.get j:=λj hj=>yA;have hother:∀k,k≠l.blk->w'.heap[k]?=w.heap[k]?:=λk hkk=>by rw[hw];grind
 have hsize:w'.heap.size=w.heap.size:=by rw[hw];simp
 have hat:w'.heap[l.blk]?=some ob:=by rw[hw];simp only[tI];rw[wT trivial,wT (S.dom _ _ _ hk)]
 have hbk:∀b2 g l2,b2≠b->K b2 g=some l2->l2.blk≠l.blk:=λb2 g l2 hne q=>(S.apart _ _ _ _ _ _ hk q (tJ hne) hown).symm;refine⟨S.size0,S.below.trans ⟨by rw[hw],by rw[hw],by rw[hw],by rw[hsize];omega,λk hkk=>hother k (by have:=S.own _ _ _ hk hown;omega)⟩,λb2 g l2 q=>by rw[hsize];exact S.dom' b2 g l2 q,λb2 g2 l2 q=>yG,S.own,S.apart,S.same,?_,?_,?_,?_,?_,(λb2 g2 l2 q hnq=>by by_cases hx:b2=b;exact S.gen0 b2 g2 l2 q (λcs cur ro e=>by rw[hx]at e;rw[ho]at e;simp_all);exact S.gen0 b2 g2 l2 q (λcs cur ro e=>hnq cs cur ro (by rw[hn b2 hx];exact e)))⟩;intro b2 g l2 cs cur ro q1 q2 q3;have hne:b2≠b:=λe=>by rw[e,hb]at q3;simp_all
 rw[hn b2 hne]at q3;obtain⟨c,e,fz,r1,r2,r3⟩:=S.room b2 g l2 cs cur ro q1 q2 q3;have hx:=hother _ (hbk b2 g l2 hne q1);grind[World.frozen?_of_block];intro b2 cs cur ro q;have hne:b2≠b:=λe=>by rw[e,hb]at q;simp_all
 rw[hn b2 hne]at q;exact S.gens b2 cs cur ro q;intro b2 cs cur ro g l2 q1 q2 off v st q3 q4 q5;have hne:b2≠b:=λe=>by rw[e,hb]at q1;simp_all
 rw[hn b2 hne]at q1;obtain⟨v',r1,r2⟩:=S.cells b2 cs cur ro g l2 q1 q2 off v st q3 q4 q5;have hx:=hother _ (hbk b2 g l2 hne q2);grind[World.cell?_of_block];intro b2 es q;by_cases hne:b2=b;simp_all;rw[hn b2 hne]at q;obtain⟨l2,es',clock,r1,r2,r3,r4⟩:=S.map b2 es q;grind;intro b2 x pos q;by_cases hne:b2=b;simp_all;rw[hn b2 hne]at q;obtain⟨l2,r1,r2,r3,r4,r5⟩:=S.siter b2 x pos q;grind
theorem a0j:∀(x y),beqBytes x y=(x==y):=by
 intro x;induction x with
  |nil=>intro y;cases y<;>rfl|cons a x ih=>
   intro y;cases y with
    |nil=>rfl|cons b y=>
     show Bool.rec (motive:=λ_=>Bool) false (beqBytes x y) (Nat.beq a.toNat b.toNat)=_;rw[ih];by_cases h:a=b;subst h;simp;have:a.toNat≠b.toNat:=λe=>h (sf.1 e);have h2:Nat.beq a.toNat b.toNat=false:=by grind[Nat.eq_of_beq_eq_true]
     rw[h2];simp[h]
theorem b6i (x y:ByteArray):(x==y)=beqBytes x.data.toList y.data.toList:=by rw[a0j];obtain⟨⟨x⟩⟩:=x;obtain⟨⟨y⟩⟩:=y;have:(({data:=⟨x⟩}:ByteArray)=={data:=⟨y⟩})=((⟨x⟩:Array UInt8)==⟨y⟩):=rfl;rw[this];simp_all
section
variable {P:Program}{T:Tab}{B0:Nat}{w0:Base}{w:World}{K:KM}{s s':S}{a:Act}{fr:List Value}{v:Value}
theorem c2y {d k x}(hf:a6g d k=true){b}(h:V4 k x=some b):Instr.sameNow d k x=some b:=by
 cases k with
  |int k1 n1=>
   cases d with
    |int kd=>cases x with|int k2 n2=>have h':(match decide (k1=k2)with|true=>some (decide (n1=n2))|false=>none)=some b:=h;show(if k1=k2 then some (n1==n2)else none)=some b;grind|_=>cases h
    |_=>cases hf
  |string s1=>
   cases d with
    |string=>cases x with|string s2=>have h':some (beqBytes s1.data.toList s2.data.toList)=some b:=h;show some (s1==s2)=some b;rw[b6i];exact h'|_=>cases h
    |_=>cases hf
  |bool b1=>
   cases d with
    |bool=>cases x with|bool b2=>exact h|_=>cases h
    |_=>cases hf
  |_=>cases h
theorem b1X {d k}(hf:a6g d k=true):∀(es) (es') (i) (r),U6 k es=some r->MR K es' es->∃r',Instr.findNow d k es' i=some r'/\((r=none/\r'=none/\∀e∈es,V4 k e.1=some false)\/∃j x x',r=some x/\r'=some (i+j,x')/\VR K x' x/\j<es.length/\(∀(m) e,m<j->es[m]?=some e->V4 k e.1=some false)/\∃e,es[j]?=some e/\V4 k e.1=some true):=by intro es;induction es with|nil=>intro es' i r h hm;cases h;have:es'=[]:=uT hm.len;subst this;exact⟨none,rfl,Or.inl ⟨rfl,rfl,zu⟩⟩|cons e es ih=>intro es' i r h hm;cases es' with|nil=>have:=hm.len;simp at this|cons e' es'=>obtain⟨hkey,hval⟩:=hm.key 0 e' e rfl rfl;have hmt:MR K es' es:=⟨by have:=hm.len;simp_all,λj x y q q'=>hm.key (j+1) x y zr zr⟩;have h':(match V4 k e.1 with|none=>none|some true=>some (some e.2)|some false=>U6 k es)=some r:=h;cases hs:V4 k e.1 with|none=>rw[hs]at h';cases h'|some b=>rw[hs]at h';have hn:=c2y hf hs;cases b with|true=>cases h';refine⟨some (i,e'.val),?_,Or.inr ⟨0,e.2,e'.val,rfl,rfl,hval,zu,λm x hm _=>zy,e,rfl,hs⟩⟩;grind[Instr.findNow]|false=>obtain⟨r',h1,h2⟩:=ih es' (i+1) r h' hmt;refine⟨r',by grind[Instr.findNow],?_⟩;rcases h2 with⟨e1,e2,e3⟩|⟨j,x,x',e1,e2,e3,e4,e5,e6⟩;grind;refine Or.inr ⟨j+1,x,x',e1,by rw[e2];grind,e3,zr,λm y hm hy=>?_,zr⟩;grind
theorem b1h (hT:TabOk P T){key:TypeId}{kd k}(hk:T.types.get key=some kd)(hf:a6g kd.und k=true)(empty n w):(Instr.checkKey empty (n+1) key k).run P w=.ok () w:=by unfold Instr.checkKey;simp only[wv,M8 hT hk,xD];cases hu:kd.und<;>cases k<;>first|rfl|(rw[hu]at hf;cases hf)
theorem a8O {x x' es s1}(h:a8U x s=some (es,s1))(S:Sim B0 w0 K s.h w)(r:VR K x' x):s1.h=s.h/\s1.c=s.c/\((x'=.map none/\es=[])\/∃b l es' clock,x=.map (some b)/\x'=.map (some l.blk)/\K b 0=some l/\l.own=true/\s.h.get b=some (.map es)/\w.heap[l.blk]?=some (.map es' clock)/\MR K es'.toList es):=by
 cases x with
  |map o=>
   cases o with
    |none=>obtain⟨rfl,rfl⟩:=j7 h;exact⟨rfl,rfl,Or.inl ⟨r.eq_of_plain rfl,rfl⟩⟩|some b=>
     have h':M.bind (rd b) (λo=>c4U o M.pure) s=some (es,s1):=h;obtain⟨ob,s2,h1,h2⟩:=o7 h';obtain⟨q1,q2,q3,q4⟩:=a7T h1;cases ob with
      |map es2=>obtain⟨rfl,rfl⟩:=j7 h2;obtain⟨l,es',clock,r1,r2,r3,r4⟩:=S.map b _ q2;refine⟨q4,q3,Or.inr ⟨b,l,es',clock,rfl,?_,r1,r2,q2,r3,r4⟩⟩;generalize hv:Value.map (some b)=z at r;cases r with|plain hp=>grind[V.plain]|map hk=>simp_all|_=>cases hv
      |_=>exact absurd h2 zp
  |_=>exact absurd h zp
theorem a4u {r o}(h:w.heap[r]?=some o)(hn:∀c e f,o≠.cells c e f):(getObj r).run P w=.ok o w:=by cases o with|cells c e f=>simp_all|_=>simp only[getObj,Sem.run,h]
theorem c2v (hT:TabOk P T){t key elem:TypeId}{d kd ed:TI}{X Y:Value}{ok:Bool}{es':Array MapEntry}{r':Option (Nat×Value)}(hd:T.types.get t=some d)(hu:d.und=.map key elem)(hk:T.types.get key=some kd)(he:T.types.get elem=some ed)(hfit:a6g kd.und Y=true)(hx:(X=.map none/\es'=#[])\/∃r clock,X=.map (some r)/\w.heap[r]?=some (.map es' clock)) (hn:Instr.findNow kd.und Y es'.toList 0=some r'):(Instr.lookup t X Y ok).run P w=.ok (a8R ok (match r' with|some x=>x.2|none=>ed.zero) r'.isSome) w:=by
 have hfk:(Instr.findKey key Y es'.toList).run P w=.ok r' w:=xZ;have hck:=b1h (P:=P) hT hk hfit es'.isEmpty 9999 w;unfold Instr.lookup;simp only[wv,M8 hT hd,hu,xD];rcases hx with⟨rfl,rfl⟩|⟨r,clock,rfl,hr⟩;simp only[wv,wb,xD,hck,hfk];cases r' with|none=>simp only[wv,a7I hT he,wb,xD];cases ok<;>rfl|some x=>simp only[];cases ok<;>rfl
 simp only[wv,a4u hr zq,wb,xD,hck,hfk];cases r' with|none=>simp only[wv,a7I hT he,wb,xD];cases ok<;>rfl|some x=>simp only[];cases ok<;>rfl
theorem VR.withOk {z' z:Value}(ok b:Bool)(q:VR K z' z):VR K (a8R ok z' b) (a8R ok z b):=by cases ok with|true=>exact .tuple rfl (by intro i x' x e e';match i with|0=>simp_all|1=>simp at e e';subst e e';exact .plain rfl|i+2=>simp at e)|false=>exact q
theorem b0r {d k}(h:a6g d k=true):plain k=true:=by cases d<;>cases k<;>first|rfl|cases h
theorem c6n (hT:TabOk P T){t x y ok}(h:a5c T fr t x y ok s=some (v,s'))(S:Sim B0 w0 K s.h w)(hf:VRL K a.tmps.toList fr)(hg:GK T K):G9 P B0 w0 K s' (do pure (Next.value (<-Instr.lookup t (a.eval x) (a.eval y) ok))) w v:=by
 obtain⟨vx,e1,h1⟩:=N6 h;obtain⟨vy,e2,h2⟩:=N6 h1;obtain⟨d,hd,h3⟩:=J8 h2;generalize hu:d.und=u at h3;cases u with
  |map key elem=>
   obtain⟨kd,hk,h4⟩:=J8 h3;obtain⟨ed,he,h5⟩:=J8 h4;obtain⟨hfit,h6⟩:=y8 h5;obtain⟨es,s1,h7,h8⟩:=o7 h6;obtain⟨o,ho,h9⟩:=x8 h8;have ey:a.eval y=vy:=(E3 hf hg e2).eq_of_plain (b0r hfit);obtain⟨c1,c2,c3⟩:=a8O h7 S (E3 hf hg e1);obtain⟨es',m1,m2⟩:∃es':Array MapEntry,MR K es'.toList es/\((a.eval x=.map none/\es'=#[])\/∃r clock,a.eval x=.map (some r)/\w.heap[r]?=some (.map es' clock)):=by rcases c3 with⟨q1,rfl⟩|⟨b,l,es',clock,_,q2,q3,q4,q5,q6,q7⟩;exact⟨#[],⟨rfl,λi e' e q=>by simp at q⟩,Or.inl ⟨q1,rfl⟩⟩;simp_all
   obtain⟨r',n1,n2⟩:=b1X (K:=K) hfit es es'.toList 0 o ho m1;have hrun:=c2v (ok:=ok) (X:=a.eval x) (Y:=a.eval y) hT hd hu hk he (by rw[ey];exact hfit) m2 (by rw[ey];exact n1);cases o with|some z=>obtain⟨rfl,rfl⟩:=j7 h9;rcases n2 with⟨q,_⟩|⟨j,z1,z1',q1,q2,q3,_⟩;cases q;cases q1;subst q2;exact G9.quiet S c1 hrun (q3.withOk ok true)|none=>obtain⟨hz,h10⟩:=y8 h9;obtain⟨rfl,rfl⟩:=j7 h10;rcases n2 with⟨_,q2,_⟩|⟨j,z1,z1',q1,_⟩;subst q2;exact G9.quiet S c1 hrun ((T5 (K:=K) _ _ hz).withOk ok false);cases q1
  |_=>exact absurd h3 zp
end
end Go.V
end
section
namespace Go.V
open Go.RowKit (Below)
theorem b6g (k v):∀(es),(∀e∈es,V4 k e.1=some false)->a3e k v es=es++[(k,v)]|[],_=>rfl|e::es,h=>by have h1:=h e (wH ..);show(match V4 k e.1 with|some true=>(k,v)::es|_=>e::a3e k v es)=_;rw[h1,b6g k v es (λx hx=>h x (wY _ hx))];rfl
theorem b3o (k v):∀(es) (j),(∀(m) e,m<j->es[m]?=some e->V4 k e.1=some false)->(∃e,es[j]?=some e/\V4 k e.1=some true)->a3e k v es=es.set j (k,v)|[],j,_,⟨e,h,_⟩=>by simp at h|e::es,0,_,⟨e',h,h2⟩=>by grind[a3e]|e::es,j+1,h,⟨e',h1,h2⟩=>by have h0:=h 0 e zy rfl;show(match V4 k e.1 with|some true=>(k,v)::es|_=>e::a3e k v es)=_;rw[h0];show e::a3e k v es=_;rw[b3o k v es j (λm x hm hx=>h (m+1) x zy zr) ⟨e',zr,h2⟩];rfl
theorem b9P {k x}(h:V4 k x=some true):k=x/\∀n,Instr.sameBits n x k=true:=by
 cases k with
  |int k1 n1=>cases x with|int k2 n2=>have h':(match decide (k1=k2)with|true=>some (decide (n1=n2))|false=>none)=some true:=h;by_cases hk:k1=k2;rw[xL hk]at h';have:n1=n2:=zr;subst hk this;exact⟨rfl,λn=>by cases n<;>simp[Instr.sameBits]⟩;simp_all|_=>cases h
  |string s1=>
   cases x with
    |string s2=>
     have h':some (beqBytes s1.data.toList s2.data.toList)=some true:=h;rw[a0j]at h';have:s1=s2:=by have:s1.data.toList=s2.data.toList:=zr;cases s1;simp_all
     subst this;refine⟨rfl,λn=>?_⟩;have hb:(s1==s1)=true:=by rw[b6i,a0j];simp
     cases n<;>simp[Instr.sameBits,hb]|_=>cases h
  |bool b1=>cases x with|bool b2=>have h':some (b1==b2)=some true:=h;have:b1=b2:=zr;subst this;exact⟨rfl,λn=>by cases n<;>simp[Instr.sameBits]⟩|_=>cases h
  |_=>cases h
section
variable {P:Program}{T:Tab}{B0:Nat}{w0:Base}{w:World}{K:KM}{s s':S}{a:Act}{fr:List Value}{v:Value}
theorem a9I {r o o'}(h:w.heap[r]?=some o)(hn:∀c e f,o≠.cells c e f):(setObj r o').run P w=.ok () {w with heap:=w.heap.setIfInBounds r o'}:=by cases o with|cells c e f=>simp_all|_=>simp only[setObj,Sem.run,h]
theorem c3v (hT:TabOk P T){t m k x m' k' x' un}(h:a5z T t m k x s=some (un,s'))(S:Sim B0 w0 K s.h w)(rm:VR K m' m)(rk:VR K k' k)(rx:VR K x' x):∃w',(Instr.mapUpdate t m' k' x').run P w=.ok () w'/\Sim B0 w0 K s'.h w'/\s'.c=s.c:=by
 obtain⟨d,hd,h1⟩:=J8 h;generalize hu:d.und=u at h1;cases u with
  |map key elem=>
   cases m with
    |map o=>
     obtain⟨r,rfl,h2⟩:=x8 h1;obtain⟨kd,hk,h3⟩:=J8 h2;obtain⟨hfit,h4⟩:=y8 h3;obtain⟨es,s1,h5,h6⟩:=o7 h4;obtain⟨fo,ho,h7⟩:=x8 h6;rw[M4]at h7;have ek:k'=k:=rk.eq_of_plain (b0r hfit);subst ek;obtain⟨c1,c2,c3⟩:=a8O (x:=.map (some r)) h5 S rm;rcases c3 with⟨q1,_⟩|⟨b,l,es',clock,q0,q2,q3,q4,q5,q6,q7⟩;exfalso;subst q1;generalize hv:Value.map (some r)=z at rm;cases rm with|plain hp=>cases hv|_=>cases hv
     cases q0;subst q2;obtain⟨w1,w2,w3⟩:=b3Z h7;obtain⟨r',n1,n2⟩:=b1X (K:=K) hfit es es'.toList 0 fo ho q7;have hfk:(Instr.findKey key k' es'.toList).run P w=.ok r' w:=xZ;have hck:=b1h (P:=P) hT hk hfit false 9999 w;have hget:∀j,s'.h.get j=if j=r then some (.map (a3e k' x es))else s.h.get j:=zq;rcases n2 with⟨_,rfl,hall⟩|⟨j,z,z',_,rfl,hz,hj,hbefore,e,he,hsame⟩;refine⟨{w with heap:=w.heap.setIfInBounds l.blk (.map (es'.push {key:=k',val:=x',born:=clock}) (clock+1))},?_,?_,by rw[w2,c2]⟩;unfold Instr.mapUpdate;simp only[wv,M8 hT hd,hu,xD,a4u q6 zq,hck,hfk,a9I q6 zq];refine a9N S q3 q4 q5 zq zq hget rfl (λes2 q=>?_) (λx pos q=>zk);cases q;refine⟨_,_,rfl,?_⟩;rw[b6g k' x es hall];refine⟨by simp[q7.len],λi e' e p1 p2=>?_⟩;have hlen:es'.toList.length=es.length:=q7.len;simp only[Array.toList_push]at p1;by_cases hi:i<es.length;rw[wh (by rw[hlen];exact hi)]at p1;rw[wh hi]at p2;exact q7.key i e' e p1 p2;grind;obtain⟨hkeq,hbits⟩:=b9P hsame;have hlen:es'.toList.length=es.length:=q7.len;have hj':j<es'.size:=by rw[<-vu,hlen];exact hj
     obtain⟨e0,he0⟩:∃e0,es'.toList[j]?=some e0:=⟨es'.toList[j]' zy,xP zy⟩;have hek:=(q7.key j e0 e he0 he).1;refine⟨{w with heap:=w.heap.setIfInBounds l.blk (.map (es'.modify j λe=>{e with key:=k',val:=x'}) clock)},?_,?_,by rw[w2,c2]⟩;unfold Instr.mapUpdate;rw[wt]at hfk;have hstay:(Instr.keyThatStays (((es'[j]?).map (·.key)).getD k') k').run P w=.ok k' w:=by have:es'[j]?=some e0:=zr;rw[this];simp_all[Instr.keyThatStays]
     simp only[wv,M8 hT hd,hu,xD,a4u q6 zq,hck,hfk,hstay,a9I q6 zq];refine a9N S q3 q4 q5 zq zq hget rfl (λes2 q=>?_) (λx pos q=>zk);cases q;refine⟨_,_,rfl,?_⟩;rw[b3o k' x es j hbefore ⟨e,he,hsame⟩];refine⟨by simp[hlen],λi e' e2 p1 p2=>?_⟩;have p1':(es'.modify j λe=>{e with key:=k',val:=x'})[i]?=some e':=by rw[<-tg];exact p1
     rw[uS]at p1';rw[uH]at p2;by_cases hij:j=i;grind;rw[wX hij]at p1' p2;exact q7.key i e' e2 zr p2|_=>exact absurd h1 zp
  |_=>exact absurd h1 zp
theorem b5Y (hT:TabOk P T){t m k x}(h:a1R T fr t m k x s=some (v,s'))(S:Sim B0 w0 K s.h w)(hf:VRL K a.tmps.toList fr)(hg:GK T K):G9 P B0 w0 K s' (do Instr.mapUpdate t (a.eval m) (a.eval k) (a.eval x);pure Next.skip) w v:=by obtain⟨vm,e1,h1⟩:=N6 h;obtain⟨vk,e2,h2⟩:=N6 h1;obtain⟨vx,e3,h3⟩:=N6 h2;obtain⟨un,s1,h4,h5⟩:=o7 h3;obtain⟨rfl,rfl⟩:=j7 h5;obtain⟨w',r1,r2,r3⟩:=c3v (P:=P) hT h4 S (E3 hf hg e1) (E3 hf hg e2) (E3 hf hg e3);exact⟨.skip,w',K,by simp[r1],⟨KM.le_refl K,λ_ _ _=>rfl,r2⟩,Or.inr ⟨rfl,rfl⟩⟩
theorem b4Y {o b s1 ob}(h:new o s=some (b,s1))(S:Sim B0 w0 K s.h w)(F:Q0 K s s1)(hn:∀cs cur ro,o≠.cells cs cur ro)(hmap:∀es,o=.map es->∃es' clock,ob=.map es' clock/\MR K es'.toList es)(hiter:∀x pos,o=.siter x pos->ob=.stringIter x pos):∃K',Step B0 w0 K s1 (w.alloc ob) K'/\K' s.c 0=some ⟨w.heap.size,0,0,0,true⟩/\b=s.c:=by rw[b1v]at h;cases h;have hK:∀g,K s.c g=none:=S.none (F s.c (xR _) zq);have hblk:(w.alloc ob).heap[w.heap.size]?=some ob:=yw;refine⟨K.put s.c 0 ⟨w.heap.size,0,0,0,true⟩,⟨KM.le_put K _ (hK 0),λi g hi=>KM.put_other K _ (λq=>by have hi:s.c+1<=i:=hi;omega),?_⟩,KM.put_same _ _ _ _,rfl⟩;refine b5h (o:=o) (a4h S (Grew.alloc _ _)) hK (λj=>Trie.get_put _ _ _ _ (xG _) j) zq S.base rfl (λb g l q=>by have:=S.dom b g l q;grind) (λcs cur ro q=>absurd q (hn _ _ _)) (λes q=>?_) (λx pos q=>⟨rfl,rfl,?_⟩);simp_all;simp_all
theorem d4h (hT:TabOk P T){t r}(h:a9X T fr t r s=some (v,s'))(S:Sim B0 w0 K s.h w)(F:Q0 K s s')(hf:VRL K a.tmps.toList fr)(hg:GK T K):G9 P B0 w0 K s' (do pure (Next.value (<-Instr.makeMap t (r.map a.eval)))) w v:=by
 have hmr:∀es,VObj.map []=.map es->∃es' clock,Obj.map #[] 0=.map es' clock/\MR K es'.toList es:=by intro es q;cases q;exact⟨#[],0,rfl,⟨rfl,λi e' e q=>by simp at q⟩⟩
 cases r with
  |none=>have h':M.bind (new (.map [])) (λb=>M.pure (.map (some b))) s=some (v,s'):=h;obtain⟨b,s1,h1,h2⟩:=o7 h';obtain⟨rfl,rfl⟩:=j7 h2;obtain⟨K',k1,k2,rfl⟩:=b4Y (ob:=.map #[] 0) h1 S F zq hmr zq;refine G9.step (v':=.map (some w.heap.size)) (w':=w.alloc (.map #[] 0)) ?_ k1 (VR.map k2);rfl|some x=>
   have h':ev T fr x (λv=>ti T t λd=>M.guard (b7W d.und&&b4a v)<|M.bind (new (.map [])) λb=>M.pure (.map (some b))) s=some (v,s'):=h;obtain⟨vx,e1,h1⟩:=N6 h';obtain⟨d,hd,h2⟩:=J8 h1;obtain⟨hgd,h3⟩:=y8 h2;obtain⟨b,s1,h4,h5⟩:=o7 h3;obtain⟨rfl,rfl⟩:=j7 h5;simp only[xM]at hgd;obtain⟨K',k1,k2,rfl⟩:=b4Y (ob:=.map #[] 0) h4 S F zq hmr zq;refine G9.step (v':=.map (some w.heap.size)) (w':=w.alloc (.map #[] 0)) ?_ k1 (VR.map k2);cases vx with
    |int kk n=>have ex:a.eval x=.int kk n:=(E3 hf hg e1).eq_of_plain rfl;cases hu:d.und with|map k1 k2=>simp[Instr.makeMap,ex,M8 hT hd,hu,asInt,asIntOf]|_=>rw[hu]at hgd;cases hgd.1
    |_=>cases hgd.2
theorem c9a (hT:TabOk P T){t x}(h:a6h T fr t x s=some (v,s'))(S:Sim B0 w0 K s.h w)(F:Q0 K s s')(hf:VRL K a.tmps.toList fr)(hg:GK T K):G9 P B0 w0 K s' (do pure (Next.value (<-Instr.range t (a.eval x)))) w v:=by
 obtain⟨vx,e1,h1⟩:=N6 h;obtain⟨d,hd,h2⟩:=J8 h1;generalize hu:d.und=u at h2;cases u with
  |string=>cases vx with|string b=>obtain⟨n,s1,h3,h4⟩:=o7 h2;obtain⟨rfl,rfl⟩:=j7 h4;have ex:a.eval x=.string b:=(E3 hf hg e1).eq_of_plain rfl;obtain⟨K',k1,k2,rfl⟩:=b4Y (ob:=.stringIter b 0) h3 S F zq zq zq;refine G9.step (v':=.pointer (some ⟨w.heap.size,0,none⟩)) (w':=w.alloc (.stringIter b 0)) ?_ k1 (VR.ptr (off:=0) k2 (wR _));simp[Instr.range,M8 hT hd,hu,ex]|_=>exact absurd h2 zp
  |_=>exact absurd h2 zp
theorem d2X {x str ty}(h:a7L T fr x str s=some (v,s'))(S:Sim B0 w0 K s.h w)(hf:VRL K a.tmps.toList fr)(hg:GK T K):G9 P B0 w0 K s' (do pure (Next.value (<-Instr.next (a.eval x) str ty))) w v:=by
 obtain⟨rfl,h1⟩:=y8 h;obtain⟨vx,e1,h2⟩:=N6 h1;obtain⟨ad,rfl,h3⟩:=a0S h2;obtain⟨h0,h4⟩:=y8 h3;obtain⟨o,s1,h5,h6⟩:=o7 h4;obtain⟨q1,q2,q3,q4⟩:=a7T h5;simp only[xM]at h0;have h00:=xS h0.1;cases o with
  |siter b pos=>
   obtain⟨l,r1,r2,r3,r4,r5⟩:=S.siter _ b pos q2;obtain⟨ad',e2,r⟩:=a6Z (E3 hf hg e1);obtain⟨g,l',f1,f2,f3,rfl⟩:=a6p r;have hg0:g=0:=by have:=h0.2;rw[f1]at this;exact xS this
   subst hg0;rw[r1]at f2;cases f2;have ead:(⟨l.blk,l.at_+(ad.off-l.lo),none⟩:Addr)=⟨l.blk,0,none⟩:=by rw[r3,r4,h00]
   rw[ead]at e2;have h6':b0T ad.block b pos s1=some (v,s'):=h6;unfold b0T at h6';have hsz:j9 b.data.toList=b.size:=by rw[y9];rfl
   rw[hsz]at h6';cases hlt:Nat.blt pos b.size with
    |true=>rw[hlt]at h6';simp only[a0C]at h6';obtain⟨un,s2,h7,h8⟩:=o7 h6';obtain⟨rfl,rfl⟩:=j7 h8;obtain⟨_,w2,w3⟩:=b3Z h7;have hlt':pos<b.size:=zq;refine G9.step (v':=.tuple #[.bool true,goInt pos,.int .i32 (Utf8.decode b pos).1]) (w':={w with heap:=w.heap.setIfInBounds l.blk (.stringIter b (pos+(Utf8.decode b pos).2))}) (K':=K) ?_ ⟨KM.le_refl K,λ_ _ _=>rfl,?_⟩ (T5 3 _ rfl);rw[e2];simp_all[Instr.next,a4u,a9I];refine a9N (o:=.siter b pos) (o':=.siter b (pos+(Utf8.decode b pos).2)) S r1 r2 q2 zq zq (λj=>by rw[w3 j,q4]) rfl (λes q=>zk) (λx p q=>zr)|false=>
     rw[hlt]at h6';obtain⟨rfl,rfl⟩:=j7 h6';have hlt':¬pos<b.size:=by grind[Nat.blt_eq]
     refine G9.quiet S q4 (v':=.tuple #[.bool false]) ?_ (T5 3 _ rfl);rw[e2];unfold Instr.next;simp only[wv,a4u r5 zq,xD,hlt',vN,wb]
  |_=>exact absurd h6 zp
end
end Go.V
end
section
namespace Go.V
open Go.RowKit (Below)
theorem a9Z (k:IntKind)(M H)(hM:(2^k.bits:Int)=M)(hH:(2^(k.bits-1):Int)=H)(hs:k.signed=true)(hMH:M=2*H)(m:Nat)(h:(m:Int)<H):k.wrap (-((m:Int)+1))=-((m:Int)+1):=by
 unfold IntKind.wrap;rw[hM,hH,hs];have e:(-((m:Int)+1))%M=-((m:Int)+1)+M:=by rw[<-Int.add_emod_right];exact Int.emod_eq_of_lt zy zy
 rw[e];grind
theorem a2y (k n):G8 k n=k.wrap n:=by
 cases n with
  |ofNat m=>show(match Nat.blt m (a1s k)with|true=>Int.ofNat m|false=>k.wrap (.ofNat m))=_;cases h:Nat.blt m (a1s k)with|false=>rfl|true=>have hm:m<a1s k:=zq;show Int.ofNat m=k.wrap (Int.ofNat m);simp only[wz];cases k<;>simp only[a1s]at hm<;>simp only[IntKind.wrap,IntKind.bits,IntKind.signed,Int.reducePow,Nat.reduceSub,vj,vg,wa,ge_iff_le,wL,vN]<;>(try split)<;>omega
  |negSucc m=>show(match k.signed&&Nat.blt m (a1s k)with|true=>Int.negSucc m|false=>k.wrap (.negSucc m))=_;cases h:k.signed&&Nat.blt m (a1s k)with|false=>rfl|true=>simp only[xM]at h;have hm:m<a1s k:=zq;have hs:=h.1;show Int.negSucc m=k.wrap (Int.negSucc m);rw[Int.negSucc_eq];symm;cases k with|i8=>exact a9Z .i8 256 128 rfl rfl rfl rfl m (by have hm:m<128:=hm;omega)|i16=>exact a9Z .i16 65536 32768 rfl rfl rfl rfl m (by have hm:m<32768:=hm;omega)|i32=>exact a9Z .i32 4294967296 2147483648 rfl rfl rfl rfl m (by have hm:m<2147483648:=hm;omega)|i64=>exact a9Z .i64 18446744073709551616 9223372036854775808 rfl rfl rfl rfl m (by have hm:m<9223372036854775808:=hm;omega)|_=>cases hs
theorem a5J:∀(x y),a5q x y=Op.bytesLess x y:=by
 intro x;induction x with
  |nil=>intro y;cases y<;>rfl|cons a x ih=>
   intro y;cases y with
    |nil=>rfl|cons b y=>
     show(match Nat.blt a.toNat b.toNat with|true=>true|false=>match Nat.beq a.toNat b.toNat with|true=>a5q x y|false=>false)=(decide (a<b)||(a==b&&Op.bytesLess x y));rw[ih];by_cases h:a<b;have:Nat.blt a.toNat b.toNat=true:=by rw[wB];exact UInt8.lt_iff_toNat_lt.1 h
     rw[this];simp[h];have h1:Nat.blt a.toNat b.toNat=false:=by grind[Nat.blt_eq,UInt8.lt_iff_toNat_lt]
     rw[h1];by_cases h2:a=b;subst h2;simp;grind[UInt8.toNat_inj,Nat.eq_of_beq_eq_true]
section
variable {P:Program}{T:Tab}{B0:Nat}{w0:Base}{w:World}{K:KM}{s s':S}{a:Act}{fr:List Value}{v:Value}
theorem c7c {op k n m}(h:b1S op k n m=some v)(t w):(binOp op t (.int k n) (.int k m)).run P w=.ok v w:=by cases op<;>first|(cases h;done)|(cases h;simp[binOp,Op.intArith,Op.intCmp,a2y];done)|(cases h;simp[binOp,Op.intCmp];rfl)
theorem a2t {k k'}(h:Q7 k k'=true):k=k':=by cases k<;>cases k'<;>first|rfl|cases h
theorem b8P (k m):a8z k m=min m k.bits:=by grind[a8z,Nat.le_of_ble_eq_true,Nat.ble_eq_true_of_le]
theorem b8m {op k k' n m}(h:a2Z op k n m=some v)(t w):(binOp op t (.int k (.ofNat n)) (.int k' (.ofNat m))).run P w=.ok v w:=by
 have hneg:¬(Int.ofNat m<0):=zu;have htn:(Int.ofNat m).toNat=m:=rfl;cases op with
  |shl=>cases h;show(Op.shift .shl k (.ofNat n) k' (.ofNat m)).run P w=_;simp_all[Op.shift,wX,a2y,b8P]|shr=>
   cases h;show(Op.shift .shr k (.ofNat n) k' (.ofNat m)).run P w=_;unfold Op.shift;rw[wX hneg];simp only[htn,wb,b8P];have:(Int.ofNat n).fdiv (2^min m k.bits)=Int.ofNat (Nat.div n (Nat.pow 2 (min m k.bits))):=by
    show((n:Int)).fdiv (2^min m k.bits)=((n/2^min m k.bits:Nat):Int);have:(2^min m k.bits:Int)=((2^min m k.bits:Nat):Int):=by rfl
    rw[this];grind
   rw[this]|_=>cases h
theorem c6G {op k n m}(h:b7C op k n m=some v)(t w):(binOp op t (.int k (.ofNat n)) (.int k (.ofNat m))).run P w=.ok v w:=by
 have hbv:∀n:Nat,(BitVec.ofInt k.bits (Int.ofNat n)).toNat=n%2^k.bits:=λn=>by rfl
 cases op with
  |quo=>cases m with|zero=>cases h|succ m=>cases h;show(if k≠k then _ else Op.intDiv .quo k (.ofNat n) (.ofNat (m+1))).run P w=_;rw[wX zu];unfold Op.intDiv;rw[wX (show¬Int.ofNat (m+1)=0 fromλq=>zk)];simp only[wb,a2y];rfl
  |rem=>cases m with|zero=>cases h|succ m=>cases h;show(if k≠k then _ else Op.intDiv .rem k (.ofNat n) (.ofNat (m+1))).run P w=_;rw[wX zu];rfl
  |and=>cases h;show(if k≠k then _ else Op.intBits .and k (.ofNat n) (.ofNat m)).run P w=_;rw[wX zu];unfold Op.intBits;simp only[wb,a2y,BitVec.toNat_and,hbv];rfl|or=>cases h;show(if k≠k then _ else Op.intBits .or k (.ofNat n) (.ofNat m)).run P w=_;rw[wX zu];unfold Op.intBits;simp only[wb,a2y,BitVec.toNat_or,hbv];rfl|xor=>cases h;show(if k≠k then _ else Op.intBits .xor k (.ofNat n) (.ofNat m)).run P w=_;rw[wX zu];unfold Op.intBits;simp only[wb,a2y,BitVec.toNat_xor,hbv];rfl|_=>cases h
theorem b3g {f a b}(h:a3W f a b=some v):∃n m,a=.ofNat n/\b=.ofNat m/\f n m=some v:=by
 unfold a3W at h;cases a with
  |ofNat n=>cases b with|ofNat m=>grind|negSucc m=>cases h
  |negSucc n=>cases h
theorem b4k {op k k' n m}(h:a1n op k k' n m=some v)(t w):(binOp op t (.int k n) (.int k' m)).run P w=.ok v w/\plain v=true:=by
 have pl:∀{o:BinOp} {a b:Nat} {u:Value},a2Z o k a b=some u->plain u=true:=λ{o a b u} q=>by cases o<;>first|(cases q;rfl)|cases q
 have pl2:∀{o:BinOp} {a b:Nat} {u:Value},b7C o k a b=some u->plain u=true:=λ{o a b u} q=>by
  cases o with
   |quo=>cases b with|zero=>cases q|succ b=>cases q;rfl
   |rem=>cases b with|zero=>cases q|succ b=>cases q;rfl
   |and=>cases q;rfl|or=>cases q;rfl|xor=>cases q;rfl|_=>cases q
 have pl3:∀{o:BinOp} {a b:Int} {u:Value},b1S o k a b=some u->plain u=true:=λ{o a b u} q=>by cases o<;>first|(cases q;rfl)|cases q
 unfold a1n at h;cases h1:a3W (a2Z op k) n m with|some u=>rw[h1]at h;cases h;obtain⟨a,b,rfl,rfl,q⟩:=b3g h1;grind[b8m]|none=>rw[h1]at h;simp only at h;cases hk:Q7 k k' with|false=>rw[hk]at h;cases h|true=>rw[hk]at h;have:=a2t hk;subst this;simp only at h;cases h2:b1S op k n m with|some u=>rw[h2]at h;grind[c7c]|none=>rw[h2]at h;simp only at h;obtain⟨a,b,rfl,rfl,q⟩:=b3g h;grind[c6G]
theorem c0x {op t x y k k' n m}(w):(eqGuard op t x y (.int k n) (.int k' m)).run P w=.ok () w:=by simp_all[eqGuard]
theorem c1h {op t x y p q}(w):(eqGuard op t x y (.string p) (.string q)).run P w=.ok () w:=by simp_all[eqGuard]
theorem c7x {op x y}(h:b1K op x.data.toList y.data.toList=some v)(t w):(binOp op t (.string x) (.string y)).run P w=.ok v w:=by
 have hx:x.toList=x.data.toList:=ByteArray.toList_eq x;have hy:y.toList=y.data.toList:=ByteArray.toList_eq y;cases op with
  |add=>
   have h':(match Nat.blt (j9 x.data.toList+j9 y.data.toList) a2J with|true=>fList (m9 x.data.toList y.data.toList) λl=>some (Value.string ⟨⟨l⟩⟩)|false=>none)=some v:=h;rw[M4]at h';split at h';rename_i hb;cases h';have hb:x.size+y.size<4294967296:=by have:j9 x.data.toList+j9 y.data.toList<a2J:=zq;rw[y9,y9]at this;exact this
   have hm:¬(((x.size+y.size:Nat):Int)>IntKind.i64.max):=by have:IntKind.i64.max=9223372036854775807:=rfl;rw[this];omega
   show(Op.stringOp .add x y).run P w=_;unfold Op.stringOp;simp only[wX hm,wb];congr 2;rw[v8];have:(x++y).data=x.data++y.data:=zu;rfl;cases h'|eql=>cases h;show(Op.stringOp .eql x y).run P w=_;simp[Op.stringOp,hx,hy,a0j]|neq=>cases h;show(Op.stringOp .neq x y).run P w=_;simp[Op.stringOp,hx,hy,a0j]|lss=>cases h;show(Op.stringOp .lss x y).run P w=_;simp[Op.stringOp,hx,hy,a5J]|leq=>cases h;show(Op.stringOp .leq x y).run P w=_;simp[Op.stringOp,hx,hy,a5J,a0j]|gtr=>cases h;show(Op.stringOp .gtr x y).run P w=_;simp[Op.stringOp,hx,hy,a5J,a0j]|geq=>cases h;show(Op.stringOp .geq x y).run P w=_;simp[Op.stringOp,hx,hy,a5J]|_=>cases h
end
end Go.V
end
section
namespace Go.V
open Go.RowKit (Below)
section
variable {P:Program}{T:Tab}{B0:Nat}{w0:Base}{w:World}{K:KM}{s s':S}{a:Act}{fr:List Value}{v:Value}
theorem a8t {o}(h:pureV o s=some (v,s')):∃z,o=some z/\C1 3 z=true/\v=z/\s'=s:=by obtain⟨z,hz,h1⟩:=x8 h;obtain⟨hg,h2⟩:=y8 h1;obtain⟨rfl,rfl⟩:=j7 h2;simp_all
theorem b4h {d x' x p}(h:a1W d x=some p)(r:VR K x' x):a1W d x'=some p:=by
 cases r with
  |plain _=>exact h|ptr _ _=>cases d<;>first|exact h|cases h
  |slice _ _ _ _ _ _=>cases d<;>first|exact h|cases h
  |map _=>cases d<;>first|exact h|cases h
  |agg _ _=>cases d<;>cases h|tuple _ _=>cases d<;>cases h|func _ _ _ _=>cases d<;>first|exact h|cases h
  |iface _=>cases d<;>first|exact h|cases h
theorem c7G (hT:TabOk P T){t:TypeId}{d}(hd:T.types.get t=some d){x y p q}(h1:a1W d.und x=some p)(h2:a1W d.und y=some q)(h3:(p||q)=true)(w):(Op.equal t x y).run P w=.ok (p&&q) w:=by
 have hu:=M8 hT hd w;unfold Op.equal Op.maxDepth Op.equalIn;simp only[wv,hu,xD];generalize d.und=u at*;cases u with
  |pointer e=>
   cases x with
    |pointer o1=>
     cases y with
      |pointer o2=>cases o1<;>cases o2<;>cases h1<;>cases h2<;>first|rfl|cases h3
      |_=>cases h2
    |_=>cases h1
  |slice e=>
   cases x with
    |slice o1 _ _=>
     cases y with
      |slice o2 _ _=>cases o1<;>cases o2<;>cases h1<;>cases h2<;>first|rfl|cases h3
      |_=>cases h2
    |_=>cases h1
  |map e f=>
   cases x with
    |map o1=>
     cases y with
      |map o2=>cases o1<;>cases o2<;>cases h1<;>cases h2<;>first|rfl|cases h3
      |_=>cases h2
    |_=>cases h1
  |func e f g=>cases x<;>first|(cases h1;done)|(cases y<;>first|(cases h2;done)|(cases h1;cases h2;first|rfl|cases h3))
  |interface e=>cases x<;>first|(cases h1;done)|(cases y<;>first|(cases h2;done)|(cases h1;cases h2;first|rfl|cases h3))
  |_=>cases h1
theorem c1d {d x y p q}(h1:a1W d x=some p)(h2:a1W d y=some q)(t):binOp .eql t x y=(do pure (.bool (<-Op.equal t x y)))/\binOp .neq t x y=(do pure (.bool (!(<-Op.equal t x y)))):=by cases x<;>first|(cases d<;>cases h1;done)|(cases y<;>first|(cases d<;>cases h2;done)|exact⟨rfl,rfl⟩)
theorem b6B {d x y p q op X Y}(h1:a1W d x=some p)(h2:a1W d y=some q)(hc:(isConstO X||isConstO Y)=true)(t w):(eqGuard op t X Y x y).run P w=.ok () w:=by cases op<;>first|rfl|(cases x<;>first|(cases d<;>cases h1;done)|(cases y<;>first|(cases d<;>cases h2;done)|rfl|(cases X<;>cases Y<;>first|rfl|(cases hc;done))))
theorem d2H (hT:TabOk P T){t:TypeId}{d op X Y}(hop:c9C op=true)(hd:T.types.get t=some d){x y p q}(h1:a1W d.und x=some p)(h2:a1W d.und y=some q)(h3:(p||q)=true)(hc:(isConstO X||isConstO Y)=true)(w):(do eqGuard op t X Y x y;binOp op t x y).run P w=.ok (.bool (b2B op (p&&q))) w:=by obtain⟨b1,b2⟩:=c1d h1 h2 t;have he:=c7G hT hd h1 h2 h3 w;simp only[wv,b6B h1 h2 hc t w,xD];cases op<;>first|(cases hop;done)|(rw[b1];simp[he,b2B];done)|(rw[b2];simp[he,b2B];done)
theorem c9R (hT:TabOk P T){op t X Y x y x' y'}(h:a7n P T op t X Y x y s=some (v,s'))(rx:VR K x' x)(ry:VR K y' y)(w):∃v',(do eqGuard op t X Y x' y';binOp op t x' y').run P w=.ok v' w/\VR K v' v/\s'=s:=by unfold a7n at h;cases hn:a9n T op t X Y x y with|some r=>rw[hn]at h;obtain⟨rfl,rfl⟩:=j7 h;unfold a9n at hn;split at hn;rename_i hc;simp only[xM]at hc;split at hn;rename_i d hd;split at hn;rename_i p hp;split at hn;rename_i q hq;split at hn;rename_i hpq;cases hn;exact⟨_,d2H hT hc.1 hd (b4h hp rx) (b4h hq ry) hpq hc.2 w,.plain rfl,rfl⟩;cases hn;cases hn;cases hn;cases hn;cases hn|none=>rw[hn]at h;obtain⟨hg,h1⟩:=y8 h;obtain⟨z,hz,hna,rfl,rfl⟩:=a8t h1;simp only[xM]at hg;rw[rx.eq_of_noAddr 8 hg.1,ry.eq_of_noAddr 8 hg.2];exact⟨v,a4K hz w,T5 _ _ hna,rfl⟩
theorem d7B (hT:TabOk P T){op t x y}(h:b0i P T fr op t x y s=some (v,s'))(S:Sim B0 w0 K s.h w)(hf:VRL K a.tmps.toList fr)(hg:GK T K):G9 P B0 w0 K s' (do pure (Next.value (<-(do eqGuard op t x y (a.eval x) (a.eval y);binOp op t (a.eval x) (a.eval y))))) w v:=by
 obtain⟨vx,e1,h1⟩:=N6 h;obtain⟨vy,e2,h2⟩:=N6 h1;have rx:=E3 hf hg e1;have ry:=E3 hf hg e2;have hbin:a7n P T op t x y vx vy s=some (v,s')->G9 P B0 w0 K s' (do pure (Next.value (<-(do eqGuard op t x y (a.eval x) (a.eval y);binOp op t (a.eval x) (a.eval y))))) w v:=by intro hb;obtain⟨v',q1,q2,rfl⟩:=c9R hT hb rx ry w;exact G9.quiet S rfl q1 q2
 cases vx with
  |int k n=>
   cases vy with
    |int k' m=>have h3:(match a1n op k k' n m with|some v=>M.pure v|none=>a7n P T op t x y (.int k n) (.int k' m)) s=some (v,s'):=h2;cases hi:a1n op k k' n m with|none=>rw[hi]at h3;grind|some z=>rw[hi]at h3;obtain⟨rfl,rfl⟩:=j7 h3;have ex:=rx.eq_of_plain rfl;have ey:=ry.eq_of_plain rfl;refine G9.quiet S rfl (v':=v) ?_ (.plain (b4k (P:=P) hi t w).2);rw[ex,ey];grind[Sem.run_bind,c0x,Result.andThen_ok,b4k]
    |_=>exact absurd h2 zp
  |string p=>
   cases vy with
    |string q=>have h3:M.lift (b1K op p.data.toList q.data.toList) s=some (v,s'):=h2;obtain⟨h4,rfl⟩:=a1j h3;have ex:=rx.eq_of_plain rfl;have ey:=ry.eq_of_plain rfl;refine G9.quiet S rfl (v':=v) ?_ ?_;rw[ex,ey];grind[Sem.run_bind,c1h,Result.andThen_ok,c7x];refine .plain ?_;cases op<;>first|(cases h4;done)|(have h5:(match Nat.blt (j9 p.data.toList+j9 q.data.toList) a2J with|true=>fList (m9 p.data.toList q.data.toList) λl=>some (Value.string ⟨⟨l⟩⟩)|false=>none)=some v:=h4;rw[M4]at h5;split at h5<;>cases h5;rfl)|(cases h4;rfl)
    |_=>exact absurd h2 zp
  |_=>exact hbin h2
theorem e0Z {op x}(h:b2W P T fr op x s=some (v,s'))(S:Sim B0 w0 K s.h w)(hf:VRL K a.tmps.toList fr)(hg:GK T K):G9 P B0 w0 K s' (do pure (Next.value (<-Op.unary op (a.eval x)))) w v:=by obtain⟨vx,e1,h1⟩:=N6 h;obtain⟨hgd,h2⟩:=y8 h1;obtain⟨z,hz,hna,rfl,rfl⟩:=a8t h2;have ex:=(E3 hf hg e1).eq_of_plain hgd;rw[ex];exact G9.quiet S rfl (a4K hz w) (T5 _ _ hna)
theorem c8w (hT:TabOk P T){t x y}(h:a6j T fr t x y s=some (v,s'))(S:Sim B0 w0 K s.h w)(hf:VRL K a.tmps.toList fr)(hg:GK T K):G9 P B0 w0 K s' (do pure (Next.value (<-Instr.index t (a.eval x) (a.eval y)))) w v:=by
 obtain⟨vx,e1,h1⟩:=N6 h;obtain⟨vy,e2,h2⟩:=N6 h1;obtain⟨j,hj,h3⟩:=x8 h2;obtain⟨d,hd,h4⟩:=J8 h3;obtain⟨k,rfl⟩:=a5p hj;have ey:=(E3 hf hg e2).eq_of_plain rfl;have rx:=E3 hf hg e1;generalize hu:d.und=u at h4;cases u with
  |string=>
   cases vx with
    |string b=>
     obtain⟨c,hc,h5⟩:=x8 h4;obtain⟨rfl,rfl⟩:=j7 h5;have ex:=rx.eq_of_plain rfl;rw[a0J]at hc;have hc':b[j]?=some c:=by have hlt:j<b.data.toList.length:=(xQ.1 hc).1;have hlt':j<b.size:=hlt;rw[getElem?_pos b j hlt'];rw[xP hlt]at hc;exact hc
     refine G9.quiet S rfl (v':=a4T c) ?_ (.plain rfl);rw[ex,ey];simp only[Instr.index,wv,asIntOf,wb,xD,M8 hT hd,hu];simp[hc',a4T]|_=>exact absurd h4 zp
  |array len elem=>cases vx with|agg cs=>obtain⟨e,he,h5⟩:=J8 h4;obtain⟨hlt,h6⟩:=y8 h5;obtain⟨cs',ex,r⟩:=c7B rx;obtain⟨u',q1,q2,rfl⟩:=b9J hT h6 r w;have hlt:j<len:=zq;refine G9.quiet S rfl ?_ q2;rw[ex,ey];simp only[Instr.index,wv,asIntOf,wb,xD,M8 hT hd,hu];simp[hlt,T8 hT he]at q1⊢;exact q1|_=>exact absurd h4 zp
  |_=>exact absurd h4 zp
end
end Go.V
end
