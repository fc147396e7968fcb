import Derived.Test.YtmomonnlmbljoaaGreatDoorKab
set_option maxRecDepth 1000000
set_option maxHeartbeats 4000000
set_option linter.unusedVariables false
set_option linter.unusedSimpArgs false
section
namespace Go.V
open Go.RowKit (Below)
section
variable {P:Program}{T:Tab}{B0:Nat}{w0:Base}{w:World}{K:KM}{s s':S}{v:Value}
theorem VRL.two {l' x y l}(h:VRL K l' l)(h0:l[0]?=some x)(h1:l[1]?=some y):∃x' y' r,l'=x'::y'::r/\VR K x' x/\VR K y' y:=by match l',h with|[],h=>have:=h.len;simp_all|[x'],h=>have:=h.len;simp_all|x'::y'::r,h=>exact⟨x',y',r,rfl,h.at_ 0 _ _ rfl h0,h.at_ 1 _ _ rfl h1⟩
theorem c2a (hT:TabOk P T){argTypes ty st xt elem dx e vs x0 x0' x1 s1 n vs'}(h0:argTypes[0]?=some st)(h1:argTypes[1]?=some xt)(hst:∀w,(underlying st).run P w=.ok (.slice elem) w)(hxt:∀w,(underlying xt).run P w=.ok dx w)(hdx:b3Y dx=false)(he:T.types.get elem=some e)(hpos:0<e.size)(h:a1P e x0 vs s1=some (v,s'))(S:Sim B0 w0 K s1.h w)(F:a0t K s1 s')(r0:VR K x0' x0)(hn:(Builtin.lenOf x1).run P w=.ok n w)(hfc:(Builtin.firstCells e.size n x1).run P w=.ok vs'.toArray w)(hfc2:(Builtin.firstCells e.size n x1).run P w.drew=.ok vs'.toArray w.drew)(hvs:VRL K vs' vs)(hvl:vs'.length=n*e.size):∃v' w' K',(Builtin.append_ argTypes ty #[x0',x1]).run P w=.ok v' w'/\Step B0 w0 K s' w' K'/\VR K' v' v:=by
 obtain⟨info,g1,g2,g3,g4,g5,g6⟩:=hT.types elem e he;cases vs with
  |nil=>
   obtain⟨hsl,h2⟩:=I4 h;obtain⟨rfl,rfl⟩:=x8 h2;have hvs0:vs'=[]:=rQ hvs.len;subst hvs0;have hn0:n=0:=by rcases rq n with q|q;exact q;have:=Nat.mul_pos q hpos;simp_all
   subst hn0;cases v with
    |slice o len es=>
     have hslice:∃b l c,x0'=.slice b l c/\l<=c:=by rcases a3Y r0 with⟨_,ad',cap,_,p2,p3,_⟩|⟨_,_,_,p4⟩;grind;grind
     obtain⟨b,l,c,rfl,hlc⟩:=hslice;refine⟨.slice b l c,w,K,?_,Step.same S rfl,r0⟩;have:=b4Y (ty:=ty) (w':=w) h0 h1 (hst w) (hxt w) hdx (a0Z hT he w) hn hfc (base:=b) (len:=l) (cap:=c) zy (λ_=>rfl) (λad _=>rfl);omega|_=>cases hsl
  |cons u us=>
   cases x0 with
    |slice o len es=>
     have h2:M.guard (Nat.beq ((z8 us+1)/e.size*e.size) (z8 us+1)&&J7 N8 (u::us)&&Nat.blt ((len+(z8 us+1)/e.size)*4) a4i&&Nat.blt e.bytes 4096) (match o with|none=>M.guard (Nat.beq len 0)<|M.bind (Y9 (u::us)) λa=>M.pure (.slice (some a) ((z8 us+1)/e.size) e.size)|some a=>M.guard (Nat.beq es e.size)<|appendAt e a len (u::us) ((z8 us+1)/e.size)) s1=some (v,s'):=by have:=h;simp only[a1P,a2U]at this;exact this
     obtain⟨hgd,h3⟩:=I4 h2;simp only[wI,G8]at hgd;obtain⟨⟨⟨q1,q2⟩,q3⟩,q4⟩:=hgd;rw[G8]at h3;generalize hm:(us.length+1)/e.size=m at*;have q1:=wK q1;have q3:(len+m)*4<4294967296:=by grind[Nat.blt_eq,a4i]
     have q4:e.bytes<4096:=zn;have hvl2:vs'.length=us.length+1:=by rw[hvs.len];rfl
     have hnm:n=m:=by have:n*e.size=m*e.size:=zy;grind[Nat.eq_of_mul_eq_mul_right]
     subst hnm;have hn1:0<n:=zo;cases o with
      |none=>
       obtain⟨hl0,h4⟩:=I4 h3;obtain⟨ad,s2,h5,h6⟩:=D6 h4;obtain⟨rfl,rfl⟩:=x8 h6;rcases a3Y r0 with⟨_,_,_,p1,_⟩|⟨_,p2,p3,p4⟩;cases p1;subst p4 p2;obtain⟨nc,arr,c1,c2,c3⟩:=b3U (ty:=ty) (base:=none) (len:=0) (cap:=0) (olds:=[]) hT h0 h1 hst hxt hdx he hn hfc2 rfl zy q3 q4 hpos;obtain⟨K',k1,k2,rfl⟩:=a6i (w':=w.drew.alloc (.cells arr elem)) (arr:=arr) (e:=elem) (fz:=(0,0)) (rest:=a5P e.zero.cells.toList (nc-(0+n))) h5 S F hvs ((Grew.drew w).trans (Grew.alloc _ _)) yZ (by rw[c2];simp) (λo _=>zq);refine⟨_,_,K',c3,k1,?_⟩;rw[vY];refine VR.slice (off:=0) k2 (vH _) hpos zy (Or.inr rfl) (Or.inr ⟨rfl,rfl,λ_=>?_⟩);dsimp only;have hsz:arr.size=n*e.size+(nc-n)*e.size:=by rw[<-uT,c2];grind[a9g]
       rw[hsz,<-sI,vY,pI zy];omega|some ad=>
       obtain⟨hes,h4⟩:=I4 h3;have hes:=wK hes;subst hes;obtain⟨g,cs,cur,olds,z1,z2,z3,z4,z5,z6,rfl⟩:=c2b h4;rcases a3Y r0 with⟨ad1,ad',cap,p1,rfl,p3,p4,p5,p6,p7⟩|⟨p1,_⟩;cases p1;obtain⟨hg1,_,hg3⟩:=S.gens _ cs cur false z2;have hget:∀j,(Trie.put (some (.cells (cs.take (ad.off+len*e.size)) cur false)) (ad.block+1) s1.h ad.block).get j=if j=ad.block then some (.cells (cs.take (ad.off+len*e.size)) cur false)else s1.h.get j:=λj=>Trie.get_put _ _ _ _ (wG _) j;generalize Trie.put (some (.cells (cs.take (ad.off+len*e.size)) cur false)) (ad.block+1) s1.h ad.block=ht at hget;have S1:=c9y S z2 hget;have hb1:ht.get ad.block=some (.cells (cs.take (ad.off+len*e.size)) cur false):=by rw[hget,vG rfl]
       have hlt:(cs.take (ad.off+len*e.size)).length=ad.off+len*e.size:=by simp[z3]
       have hh':∀j,s'.h.get j=if j=ad.block then some (.cells (cs.take (ad.off+len*e.size)++(u::us).map λv=>(v,cur+1)) (cur+1) false)else ht.get j:=zn;by_cases hfit:len+n<=cap;obtain⟨g',l,y1,y2,y3,y4⟩:=a8F (p7 zy);rw[z1]at y1;cases y1;have hown:l.own=true:=(hg1 _ _ y2).2 rfl;obtain⟨c,et,fz,c1,c2,c3⟩:=S.room _ _ l cs cur false y2 hown z2;have hroom:l.at_+(ad.off-l.lo)+cap*e.size<=l.sz:=yJ;have hmul:len*e.size+n*e.size<=cap*e.size:=by rw[<-sI];exact Nat.mul_le_mul_right _ hfit
       obtain⟨w',u1,u2⟩:=b2P P l.blk vs' (l.at_+(ad.off-l.lo)+len*e.size) 0 w (λj hj=>by
        have hidx:l.at_+(ad.off-l.lo)+len*e.size+0+j<c.size:=zy;have hc:w.cell? ⟨l.blk,l.at_+(ad.off-l.lo)+len*e.size+0+j,none⟩=c[l.at_+(ad.off-l.lo)+len*e.size+0+j]?:=by grind[World.cell?]
        rw[hc,sK hidx];rfl) (λj hj=>c3 _ zy) (λx hx=>by
        obtain⟨j,hj,rfl⟩:=pJ hx;have hj2:j<(u::us).length:=by rw[<-hvs.len];exact hj
        exact(hvs.at_ j _ _ (wO hj) (wO hj2)).oneCell ((M5 _ _).1 q2 _ (uO hj2)));have hrun:=b4Y (ty:=ty) (w':=w') h0 h1 (hst w) (hxt w) hdx (a0Z hT he w) hn hfc (base:=some ad') (len:=len) (cap:=cap) hfit (λq=>ze) (λad2 q=>by grind[a9u]);have S2:=c6z S1 hb1 y2 (by rw[hlt];omega) (o:=l.at_+(ad.off-l.lo)+len*e.size+0) (by rw[hlt];omega) u2;let l':Loc:=⟨l.blk,ad.off,l.at_+(ad.off-l.lo),l.sz,true⟩;have S3:=c5e (l:=l') (vs:=u::us) S2 hb1 hh' rfl (by show l.blk<_;rw[u2.size];grind) (by show B0<=l.blk;exact S.own _ _ _ y2 hown) (λg2 l2 k1 k2=>by have:=(S.same _ _ _ _ _ y2 k1).2 k2.symm;grind) (λb2 g2 l2 hne k1=>(S.apart _ _ _ _ _ _ y2 k1 (pF hne) hown).symm) (by have:=u2.room ⟨c,et,fz,c1,c2,c3⟩ c1;exact this) (λoff x st k1 k2=>by show∃v',w'.cell? ⟨l.blk,l.at_+(ad.off-l.lo)+(off-ad.off),none⟩=some v'/\VR K v' x;have k1:ad.off<=off:=k1;by_cases hoff:off<ad.off+len*e.size;rw[vQ (by rw[hlt];exact hoff),tJ,vG hoff]at k2;obtain⟨t1,t2⟩:=a6H _ _ _ _ z4;obtain⟨x2,st2,t3,t4,t5⟩:=t2 (off-ad.off) zy;rw[uG,show ad.off+(off-ad.off)=off by omega,k2]at t3;cases t3;obtain⟨v',r1,r2⟩:=S.cells _ cs cur false _ l z2 y2 off x st k2 t4 zy;refine⟨v',?_,r2⟩;rw[u2.cell_other c1 _ (Or.inr zo),show l.at_+(ad.off-l.lo)+(off-ad.off)=l.at_+(off-l.lo) by omega];exact r1;rw[vV (by rw[hlt];omega),hlt,vW]at k2;cases hq:(u::us)[off-(ad.off+len*e.size)]? with|none=>rw[hq]at k2;cases k2|some y=>rw[hq]at k2;cases k2;obtain⟨y',r1,r2⟩:=hvs.get? hq;refine⟨y',?_,r2⟩;have:=u2.cell_new c1 (by rw[hvl];omega) _ _ r1;rw[show l.at_+(ad.off-l.lo)+(off-ad.off)=l.at_+(ad.off-l.lo)+len*e.size+0+(off-(ad.off+len*e.size)) by omega];exact this);refine⟨_,w',_,hrun,⟨S3.2,λi g2 hi=>?_,S3.1⟩,?_⟩;refine KM.put_other K _ (λq=>?_);have hx:ad.block<s1.c:=wX;omega;rw[y4];exact VR.slice (KM.put_same _ _ _ _) (wP _) hpos hfit (Or.inr rfl) (Or.inr ⟨rfl,zo,λ_=>hroom⟩);obtain⟨l,y2,y3⟩:∃l,K ad.block g=some l/\l.lo<=ad.off:=yJ;obtain⟨olds',o1,o2,o3⟩:=a9j S y2 y3 z2 z4;have hol:olds'.length=len*e.size:=by rw[o1.len,o2]
       have hrold:(Builtin.firstCells e.size len (.slice (some ad') len cap)).run P w.drew=.ok olds'.toArray w.drew:=by rcases rq len with q|q;simp_all[Builtin.firstCells,loadCells,loadCellsFrom];obtain⟨g',l2,x1,x2,x3,rfl⟩:=a8F (p7 zy);rw[z1]at x1;cases x1;rw[y2]at x2;cases x2;have:=oh (P:=P) w.drew (⟨l.blk,l.at_+(ad.off-l.lo),none⟩:Addr) olds' (λj v hj=>by rw[a9u];exact o3 j v hj);rw[hol]at this;exact this
       obtain⟨nc,arr,c1,c2,c3⟩:=b3U (ty:=ty) (base:=some ad') (len:=len) (cap:=cap) (olds:=olds') hT h0 h1 hst hxt hdx he hn hfc2 hrold zy q3 q4 hpos;have hsz:arr.size=len*e.size+n*e.size+(nc-(len+n))*e.size:=by rw[<-uT,c2];grind[a9g]
       have G:Grew w (w.drew.alloc (.cells arr elem)):=(Grew.drew w).trans (Grew.alloc _ _);have hblk:(w.drew.alloc (.cells arr elem)).heap[w.heap.size]?=some (.cells arr elem (0,0)):=yZ;have S2:=a6k S1 G;let l':Loc:=⟨w.heap.size,ad.off,0,arr.size,true⟩;have S3:=c5e (l:=l') (vs:=u::us) S2 hb1 hh' rfl zo (by show B0<=w.heap.size;exact S.base) (λg2 l2 k1 k2=>by have:=S.dom _ _ _ k1;have k2:l2.blk=w.heap.size:=k2;omega) (λb2 g2 l2 hne k1=>by have:=S.dom _ _ _ k1;grind) ⟨arr,elem,(0,0),hblk,rfl,λo _=>by grind[World.frozen?]⟩ (λoff x st k1 k2=>by
        show∃v',(w.drew.alloc (.cells arr elem)).cell? ⟨w.heap.size,0+(off-ad.off),none⟩=some v'/\VR K v' x;have k1:ad.off<=off:=k1;have hcell:∀i y,(olds'++vs')[i]?=some y->(w.drew.alloc (.cells arr elem)).cell? ⟨w.heap.size,0+i,none⟩=some y:=by
         intro i y hy;have hi:i<(olds'++vs').length:=(wM.1 hy).1;have:arr[i]?=some y:=by rw[<-qE,c2,vQ hi];exact hy
         simp_all[World.cell?]
        by_cases hoff:off<ad.off+len*e.size;rw[vQ (by rw[hlt];exact hoff),tJ,vG hoff]at k2;obtain⟨t1,t2⟩:=a6H _ _ _ _ z4;obtain⟨x2,st2,t3,t4,t5⟩:=t2 (off-ad.off) zy;rw[uG,show ad.off+(off-ad.off)=off by omega,k2]at t3;cases t3;obtain⟨v',r1,r2⟩:=o1.get? t5;grind;rw[vV (by rw[hlt];omega),hlt,vW]at k2;cases hq:(u::us)[off-(ad.off+len*e.size)]? with|none=>rw[hq]at k2;cases k2|some y=>rw[hq]at k2;cases k2;obtain⟨y',r1,r2⟩:=hvs.get? hq;grind);refine⟨_,_,_,c3,⟨S3.2,λi g2 hi=>?_,S3.1⟩,?_⟩;refine KM.put_other K _ (λq=>?_);have hx:ad.block<s1.c:=wX;omega;refine VR.slice (KM.put_same _ _ _ _) (wP _) hpos c1 (Or.inr rfl) (Or.inr ⟨rfl,zo,λ_=>?_⟩);grind[Nat.add_mul,Nat.add_sub_cancel'];cases p1
    |_=>exact absurd h zm
end
end Go.V
end
section
namespace Go.V
open Go.RowKit (Below)
section
variable {P:Program}{T:Tab}{B0:Nat}{w0:Base}{w:World}{K:KM}{s s':S}{a:Act}{fr:List Value}{v:Value}
theorem a8q {α:Type}(x:Array α)(i:Nat):x.toList[i]?=x[i]?:=zq
theorem c7n (hT:TabOk P T){ts ty vs vs'}(hl:vs'.length=2)(h:appendV T ts vs s=some (v,s'))(S:Sim B0 w0 K s.h w)(F:a0t K s s')(r:VRL K vs' vs):∃v' w' K',(Builtin.append_ ts ty vs'.toArray).run P w=.ok v' w'/\Step B0 w0 K s' w' K'/\VR K' v' v:=by
 obtain⟨st,e1,h1⟩:=H9 h;obtain⟨xt,e2,h2⟩:=H9 h1;obtain⟨d,hd,h3⟩:=W9 h2;obtain⟨dx,hdx,h4⟩:=W9 h3;rw[a2T,a8q]at e1 e2;generalize hu:d.und=u at h4;cases u with
  |slice elem=>
   obtain⟨x0,e3,h5⟩:=H9 h4;obtain⟨x1,e4,h6⟩:=H9 h5;obtain⟨e,he,h7⟩:=W9 h6;obtain⟨hgd,h8⟩:=I4 h7;obtain⟨us,s1,h9,h10⟩:=D6 h8;rw[Y3]at h10;rw[a2T]at e3 e4;obtain⟨x0',x1',rest,rfl,r0,r1⟩:=r.two e3 e4;have hrest:rest=[]:=zn;subst hrest;simp only[wI,sw]at hgd;have hpos:0<e.size:=Nat.pos_of_ne_zero (b7v (by rw[hgd.2];rfl));obtain⟨n,us',c1,c2,c3,c4,c5,c6⟩:=b7b (P:=P) h9 hpos S r1;have S1:Sim B0 w0 K s1.h w:=by rw[c5];exact S
   have F1:a0t K s1 s':=by intro i hi;rw[c6]at hi;rw[c5];exact F i hi
   exact c2a hT e1 e2 (λw=>by rw[Z6 hT hd,hu]) (λw=>Z6 hT hdx w) zn he hpos h10 S1 F1 r0 (c1 w) (c2 w (λ_=>rfl)) (c2 w.drew (λ_=>rfl)) c3 c4|_=>exact absurd h4 zm
end
end Go.V
end
section
namespace Go.V
open Go.RowKit (Below)
theorem b1W {B0 w0 K h h' w w'}(S:Sim B0 w0 K h w){b l o o' ob}(hk:K b 0=some l)(hown:l.own=true)(ho:h.get b=some o)(hnc:∀cs cur ro,o≠.cells cs cur ro)(hnc':∀cs cur ro,o'≠.cells cs cur ro)(hh:∀j,h'.get j=if j=b then some o' else h.get j)(hw:w'={w with heap:=w.heap.setIfInBounds l.blk ob})(hmap:∀es,o'=.map es->∃es' clock,ob=.map es' clock/\MR K es'.toList es)(hiter:∀x pos,o'=.siter x pos->l.lo=0/\l.at_=0/\ob=.stringIter x pos):Sim B0 w0 K h' w':=by
 have hb:h'.get b=some o':=xQ;have hn:∀j,j≠b->h'.get j=h.get j:=λj hj=>xP;have hother:∀k,k≠l.blk->w'.heap[k]?=w.heap[k]?:=λk hkk=>by rw[hw];grind
 have hsize:w'.heap.size=w.heap.size:=by rw[hw];simp
 have hat:w'.heap[l.blk]?=some ob:=by rw[hw];simp only[pE];rw[vG trivial,vG (S.dom _ _ _ hk)]
 have hbk:∀b2 g l2,b2≠b->K b2 g=some l2->l2.blk≠l.blk:=λb2 g l2 hne q=>(S.apart _ _ _ _ _ _ hk q (pF hne) hown).symm;refine⟨S.size0,S.below.trans ⟨by rw[hw],by rw[hw],by rw[hw],by rw[hsize];omega,λk hkk=>hother k (by have:=S.own _ _ _ hk hown;omega)⟩,λb2 g l2 q=>by rw[hsize];exact S.dom' b2 g l2 q,λb2 g2 l2 q=>xS,S.own,S.apart,S.same,?_,?_,?_,?_,?_,(λb2 g2 l2 q hnq=>by by_cases hx:b2=b;exact S.gen0 b2 g2 l2 q (λcs cur ro e=>by rw[hx]at e;rw[ho]at e;simp_all);exact S.gen0 b2 g2 l2 q (λcs cur ro e=>hnq cs cur ro (by rw[hn b2 hx];exact e)))⟩;intro b2 g l2 cs cur ro q1 q2 q3;have hne:b2≠b:=λe=>by rw[e,hb]at q3;simp_all
 rw[hn b2 hne]at q3;obtain⟨c,e,fz,r1,r2,r3⟩:=S.room b2 g l2 cs cur ro q1 q2 q3;have hx:=hother _ (hbk b2 g l2 hne q1);grind[World.frozen?_of_block];intro b2 cs cur ro q;have hne:b2≠b:=λe=>by rw[e,hb]at q;simp_all
 rw[hn b2 hne]at q;exact S.gens b2 cs cur ro q;intro b2 cs cur ro g l2 q1 q2 off v st q3 q4 q5;have hne:b2≠b:=λe=>by rw[e,hb]at q1;simp_all
 rw[hn b2 hne]at q1;obtain⟨v',r1,r2⟩:=S.cells b2 cs cur ro g l2 q1 q2 off v st q3 q4 q5;have hx:=hother _ (hbk b2 g l2 hne q2);grind[World.cell?_of_block];intro b2 es q;by_cases hne:b2=b;simp_all;rw[hn b2 hne]at q;obtain⟨l2,es',clock,r1,r2,r3,r4⟩:=S.map b2 es q;grind;intro b2 x pos q;by_cases hne:b2=b;simp_all;rw[hn b2 hne]at q;obtain⟨l2,r1,r2,r3,r4,r5⟩:=S.siter b2 x pos q;grind
theorem a2p:∀(x y),beqBytes x y=(x==y):=by
 intro x;induction x with
  |nil=>intro y;cases y<;>rfl|cons a x ih=>
   intro y;cases y with
    |nil=>rfl|cons b y=>
     show Bool.rec (motive:=λ_=>Bool) false (beqBytes x y) (Nat.beq a.toNat b.toNat)=_;rw[ih];by_cases h:a=b;subst h;simp;have:a.toNat≠b.toNat:=λe=>h (nu.1 e);have h2:Nat.beq a.toNat b.toNat=false:=by cases q:Nat.beq a.toNat b.toNat<;>simp_all
     rw[h2];simp[h]
theorem b8S (x y:ByteArray):(x==y)=beqBytes x.data.toList y.data.toList:=by rw[a2p];obtain⟨⟨x⟩⟩:=x;obtain⟨⟨y⟩⟩:=y;have:(({data:=⟨x⟩}:ByteArray)=={data:=⟨y⟩})=((⟨x⟩:Array UInt8)==⟨y⟩):=rfl;rw[this];simp_all
section
variable {P:Program}{T:Tab}{B0:Nat}{w0:Base}{w:World}{K:KM}{s s':S}{a:Act}{fr:List Value}{v:Value}
theorem c6A {d k x}(hf:a8R d k=true){b}(h:a1v k x=some b):Instr.sameNow d k x=some b:=by
 cases k with
  |int k1 n1=>
   cases d with
    |int kd=>cases x with|int k2 n2=>have h':(match decide (k1=k2)with|true=>some (decide (n1=n2))|false=>none)=some b:=h;show(if k1=k2 then some (n1==n2)else none)=some b;grind|_=>cases h
    |_=>cases hf
  |string s1=>
   cases d with
    |string=>cases x with|string s2=>have h':some (beqBytes s1.data.toList s2.data.toList)=some b:=h;show some (s1==s2)=some b;rw[b8S];exact h'|_=>cases h
    |_=>cases hf
  |bool b1=>
   cases d with
    |bool=>cases x with|bool b2=>exact h|_=>cases h
    |_=>cases hf
  |_=>cases h
theorem b5j {d k}(hf:a8R d k=true):∀(es) (es') (i) (r),Z0 k es=some r->MR K es' es->∃r',Instr.findNow d k es' i=some r'/\((r=none/\r'=none/\∀e∈es,a1v k e.1=some false)\/∃j x x',r=some x/\r'=some (i+j,x')/\VR K x' x/\j<es.length/\(∀(m) e,m<j->es[m]?=some e->a1v k e.1=some false)/\∃e,es[j]?=some e/\a1v k e.1=some true):=by intro es;induction es with|nil=>intro es' i r h hm;cases h;have:es'=[]:=rQ hm.len;subst this;exact⟨none,rfl,Or.inl ⟨rfl,rfl,zq⟩⟩|cons e es ih=>intro es' i r h hm;cases es' with|nil=>have:=hm.len;simp at this|cons e' es'=>obtain⟨hkey,hval⟩:=hm.key 0 e' e rfl rfl;have hmt:MR K es' es:=⟨by have:=hm.len;simp_all,λj x y q q'=>hm.key (j+1) x y zo zo⟩;have h':(match a1v k e.1 with|none=>none|some true=>some (some e.2)|some false=>Z0 k es)=some r:=h;cases hs:a1v k e.1 with|none=>rw[hs]at h';cases h'|some b=>rw[hs]at h';have hn:=c6A hf hs;cases b with|true=>cases h';refine⟨some (i,e'.val),?_,Or.inr ⟨0,e.2,e'.val,rfl,rfl,hval,zq,λm x hm _=>zy,e,rfl,hs⟩⟩;grind[Instr.findNow]|false=>obtain⟨r',h1,h2⟩:=ih es' (i+1) r h' hmt;refine⟨r',by grind[Instr.findNow],?_⟩;rcases h2 with⟨e1,e2,e3⟩|⟨j,x,x',e1,e2,e3,e4,e5,e6⟩;grind;refine Or.inr ⟨j+1,x,x',e1,by rw[e2];grind,e3,zo,λm y hm hy=>?_,zo⟩;grind
theorem b3N (hT:TabOk P T){key:TypeId}{kd k}(hk:T.types.get key=some kd)(hf:a8R kd.und k=true)(empty n w):(Instr.checkKey empty (n+1) key k).run P w=.ok () w:=by unfold Instr.checkKey;simp only[vZ,Z6 hT hk,vz];cases hu:kd.und<;>cases k<;>first|rfl|(rw[hu]at hf;cases hf)
theorem b1e {x x' es s1}(h:b4Q x s=some (es,s1))(S:Sim B0 w0 K s.h w)(r:VR K x' x):s1.h=s.h/\s1.c=s.c/\((x'=.map none/\es=[])\/∃b l es' clock,x=.map (some b)/\x'=.map (some l.blk)/\K b 0=some l/\l.own=true/\s.h.get b=some (.map es)/\w.heap[l.blk]?=some (.map es' clock)/\MR K es'.toList es):=by
 cases x with
  |map o=>
   cases o with
    |none=>obtain⟨rfl,rfl⟩:=x8 h;exact⟨rfl,rfl,Or.inl ⟨r.eq_of_plain rfl,rfl⟩⟩|some b=>
     have h':M.bind (rd b) (λo=>c7d o M.pure) s=some (es,s1):=h;obtain⟨ob,s2,h1,h2⟩:=D6 h';obtain⟨q1,q2,q3,q4⟩:=b0L h1;cases ob with
      |map es2=>obtain⟨rfl,rfl⟩:=x8 h2;obtain⟨l,es',clock,r1,r2,r3,r4⟩:=S.map b _ q2;refine⟨q4,q3,Or.inr ⟨b,l,es',clock,rfl,?_,r1,r2,q2,r3,r4⟩⟩;generalize hv:Value.map (some b)=z at r;cases r<;>first|rfl|grind[V.plain]
      |_=>exact absurd h2 zm
  |_=>exact absurd h zm
theorem a6L {r o}(h:w.heap[r]?=some o)(hn:∀c e f,o≠.cells c e f):(getObj r).run P w=.ok o w:=by cases o with|cells c e f=>simp_all|_=>simp only[getObj,Sem.run,h]
theorem c6m (hT:TabOk P T){t key elem:TypeId}{d kd ed:TI}{X Y:Value}{ok:Bool}{es':Array MapEntry}{r':Option (Nat×Value)}(hd:T.types.get t=some d)(hu:d.und=.map key elem)(hk:T.types.get key=some kd)(he:T.types.get elem=some ed)(hfit:a8R kd.und Y=true)(hx:(X=.map none/\es'=#[])\/∃r clock,X=.map (some r)/\w.heap[r]?=some (.map es' clock)) (hn:Instr.findNow kd.und Y es'.toList 0=some r'):(Instr.lookup t X Y ok).run P w=.ok (b1F ok (match r' with|some x=>x.2|none=>ed.zero) r'.isSome) w:=by
 have hfk:(Instr.findKey key Y es'.toList).run P w=.ok r' w:=wu;have hck:=b3N (P:=P) hT hk hfit es'.isEmpty 9999 w;unfold Instr.lookup;simp only[vZ,Z6 hT hd,hu,vz];rcases hx with⟨rfl,rfl⟩|⟨r,clock,rfl,hr⟩;simp only[vZ,vM,vz,hck,hfk];cases r' with|none=>simp only[vZ,b0D hT he,vM,vz];cases ok<;>rfl|some x=>simp only[];cases ok<;>rfl
 simp only[vZ,a6L hr zn,vM,vz,hck,hfk];cases r' with|none=>simp only[vZ,b0D hT he,vM,vz];cases ok<;>rfl|some x=>simp only[];cases ok<;>rfl
theorem VR.withOk {z' z:Value}(ok b:Bool)(q:VR K z' z):VR K (b1F ok z' b) (b1F ok z b):=by cases ok with|true=>exact .tuple rfl (by intro i x' x e e';match i with|0=>simp_all|1=>simp at e e';subst e e';exact .plain rfl|i+2=>simp at e)|false=>exact q
theorem b3a {d k}(h:a8R d k=true):plain k=true:=by cases d<;>cases k<;>first|rfl|cases h
theorem c9J (hT:TabOk P T){t x y ok}(h:a7w T fr t x y ok s=some (v,s'))(S:Sim B0 w0 K s.h w)(hf:VRL K a.tmps.toList fr)(hg:GK T K):Q9 P B0 w0 K s' (do pure (Next.value (<-Instr.lookup t (a.eval x) (a.eval y) ok))) w v:=by
 obtain⟨vx,e1,h1⟩:=a0b h;obtain⟨vy,e2,h2⟩:=a0b h1;obtain⟨d,hd,h3⟩:=W9 h2;generalize hu:d.und=u at h3;cases u with
  |map key elem=>
   obtain⟨kd,hk,h4⟩:=W9 h3;obtain⟨ed,he,h5⟩:=W9 h4;obtain⟨hfit,h6⟩:=I4 h5;obtain⟨es,s1,h7,h8⟩:=D6 h6;obtain⟨o,ho,h9⟩:=H9 h8;have ey:a.eval y=vy:=(O3 hf hg e2).eq_of_plain (b3a hfit);obtain⟨c1,c2,c3⟩:=b1e h7 S (O3 hf hg e1);obtain⟨es',m1,m2⟩:∃es':Array MapEntry,MR K es'.toList es/\((a.eval x=.map none/\es'=#[])\/∃r clock,a.eval x=.map (some r)/\w.heap[r]?=some (.map es' clock)):=by rcases c3 with⟨q1,rfl⟩|⟨b,l,es',clock,_,q2,q3,q4,q5,q6,q7⟩;exact⟨#[],⟨rfl,λi e' e q=>by simp at q⟩,Or.inl ⟨q1,rfl⟩⟩;simp_all
   obtain⟨r',n1,n2⟩:=b5j (K:=K) hfit es es'.toList 0 o ho m1;have hrun:=c6m (ok:=ok) (X:=a.eval x) (Y:=a.eval y) hT hd hu hk he (by rw[ey];exact hfit) m2 (by rw[ey];exact n1);cases o with|some z=>obtain⟨rfl,rfl⟩:=x8 h9;rcases n2 with⟨q,_⟩|⟨j,z1,z1',q1,q2,q3,_⟩;cases q;cases q1;subst q2;exact Q9.quiet S c1 hrun (q3.withOk ok true)|none=>obtain⟨hz,h10⟩:=I4 h9;obtain⟨rfl,rfl⟩:=x8 h10;rcases n2 with⟨_,q2,_⟩|⟨j,z1,z1',q1,_⟩;subst q2;exact Q9.quiet S c1 hrun ((a0V (K:=K) _ _ hz).withOk ok false);cases q1
  |_=>exact absurd h3 zm
end
end Go.V
end
section
namespace Go.V
open Go.RowKit (Below)
theorem b9m (k v):∀(es),(∀e∈es,a1v k e.1=some false)->a1Z k v es=es++[(k,v)]|[],_=>rfl|e::es,h=>by have h1:=h e (um ..);show(match a1v k e.1 with|some true=>(k,v)::es|_=>e::a1Z k v es)=_;rw[h1,b9m k v es (λx hx=>h x (vJ _ hx))];rfl
theorem b6f (k v):∀(es) (j),(∀(m) e,m<j->es[m]?=some e->a1v k e.1=some false)->(∃e,es[j]?=some e/\a1v k e.1=some true)->a1Z k v es=es.set j (k,v)|[],j,_,⟨e,h,_⟩=>by simp at h|e::es,0,_,⟨e',h,h2⟩=>by grind[a1Z]|e::es,j+1,h,⟨e',h1,h2⟩=>by have h0:=h 0 e zy rfl;show(match a1v k e.1 with|some true=>(k,v)::es|_=>e::a1Z k v es)=_;rw[h0];show e::a1Z k v es=_;rw[b6f k v es j (λm x hm hx=>h (m+1) x zy zo) ⟨e',zo,h2⟩];rfl
theorem c2D {k x}(h:a1v k x=some true):k=x/\∀n,Instr.sameBits n x k=true:=by
 cases k with
  |int k1 n1=>cases x with|int k2 n2=>have h':(match decide (k1=k2)with|true=>some (decide (n1=n2))|false=>none)=some true:=h;by_cases hk:k1=k2;rw[wJ hk]at h';have:n1=n2:=zo;subst hk this;exact⟨rfl,λn=>by cases n<;>simp[Instr.sameBits]⟩;simp_all|_=>cases h
  |string s1=>
   cases x with
    |string s2=>
     have h':some (beqBytes s1.data.toList s2.data.toList)=some true:=h;rw[a2p]at h';have:s1=s2:=by have:s1.data.toList=s2.data.toList:=zo;cases s1;simp_all
     subst this;refine⟨rfl,λn=>?_⟩;have hb:(s1==s1)=true:=by rw[b8S,a2p];simp
     cases n<;>simp[Instr.sameBits,hb]|_=>cases h
  |bool b1=>cases x with|bool b2=>have h':some (b1==b2)=some true:=h;have:b1=b2:=zo;subst this;exact⟨rfl,λn=>by cases n<;>simp[Instr.sameBits]⟩|_=>cases h
  |_=>cases h
section
variable {P:Program}{T:Tab}{B0:Nat}{w0:Base}{w:World}{K:KM}{s s':S}{a:Act}{fr:List Value}{v:Value}
theorem b2C {r o o'}(h:w.heap[r]?=some o)(hn:∀c e f,o≠.cells c e f):(setObj r o').run P w=.ok () {w with heap:=w.heap.setIfInBounds r o'}:=by cases o with|cells c e f=>simp_all|_=>simp only[setObj,Sem.run,h]
theorem c7Y (hT:TabOk P T){t m k x m' k' x' un}(h:a6N T t m k x s=some (un,s'))(S:Sim B0 w0 K s.h w)(rm:VR K m' m)(rk:VR K k' k)(rx:VR K x' x):∃w',(Instr.mapUpdate t m' k' x').run P w=.ok () w'/\Sim B0 w0 K s'.h w'/\s'.c=s.c:=by
 obtain⟨d,hd,h1⟩:=W9 h;generalize hu:d.und=u at h1;cases u with
  |map key elem=>
   cases m with
    |map o=>
     obtain⟨r,rfl,h2⟩:=H9 h1;obtain⟨kd,hk,h3⟩:=W9 h2;obtain⟨hfit,h4⟩:=I4 h3;obtain⟨es,s1,h5,h6⟩:=D6 h4;obtain⟨fo,ho,h7⟩:=H9 h6;rw[Y3]at h7;have ek:k'=k:=rk.eq_of_plain (b3a hfit);subst ek;obtain⟨c1,c2,c3⟩:=b1e (x:=.map (some r)) h5 S rm;rcases c3 with⟨q1,_⟩|⟨b,l,es',clock,q0,q2,q3,q4,q5,q6,q7⟩;exfalso;subst q1;generalize hv:Value.map (some r)=z at rm;cases rm<;>simp_all;cases q0;subst q2;obtain⟨w1,w2,w3⟩:=b6B h7;obtain⟨r',n1,n2⟩:=b5j (K:=K) hfit es es'.toList 0 fo ho q7;have hfk:(Instr.findKey key k' es'.toList).run P w=.ok r' w:=wu;have hck:=b3N (P:=P) hT hk hfit false 9999 w;have hget:∀j,s'.h.get j=if j=r then some (.map (a1Z k' x es))else s.h.get j:=zn;rcases n2 with⟨_,rfl,hall⟩|⟨j,z,z',_,rfl,hz,hj,hbefore,e,he,hsame⟩;refine⟨{w with heap:=w.heap.setIfInBounds l.blk (.map (es'.push {key:=k',val:=x',born:=clock}) (clock+1))},?_,?_,by rw[w2,c2]⟩;unfold Instr.mapUpdate;simp only[vZ,Z6 hT hd,hu,vz,a6L q6 zn,hck,hfk,b2C q6 zn];refine b1W S q3 q4 q5 zn zn hget rfl (λes2 q=>?_) (λx pos q=>ze);cases q;refine⟨_,_,rfl,?_⟩;rw[b9m k' x es hall];refine⟨by simp[q7.len],λi e' e p1 p2=>?_⟩;have hlen:es'.toList.length=es.length:=q7.len;simp only[Array.toList_push]at p1;by_cases hi:i<es.length;rw[vQ (by rw[hlen];exact hi)]at p1;rw[vQ hi]at p2;exact q7.key i e' e p1 p2;grind;obtain⟨hkeq,hbits⟩:=c2D hsame;have hlen:es'.toList.length=es.length:=q7.len;have hj':j<es'.size:=by rw[<-uT,hlen];exact hj
     obtain⟨e0,he0⟩:∃e0,es'.toList[j]?=some e0:=⟨es'.toList[j]' zy,wO zy⟩;have hek:=(q7.key j e0 e he0 he).1;refine⟨{w with heap:=w.heap.setIfInBounds l.blk (.map (es'.modify j λe=>{e with key:=k',val:=x'}) clock)},?_,?_,by rw[w2,c2]⟩;unfold Instr.mapUpdate;rw[vY]at hfk;have hstay:(Instr.keyThatStays (((es'[j]?).map (·.key)).getD k') k').run P w=.ok k' w:=by have:es'[j]?=some e0:=zo;rw[this];simp_all[Instr.keyThatStays]
     simp only[vZ,Z6 hT hd,hu,vz,a6L q6 zn,hck,hfk,hstay,b2C q6 zn];refine b1W S q3 q4 q5 zn zn hget rfl (λes2 q=>?_) (λx pos q=>ze);cases q;refine⟨_,_,rfl,?_⟩;rw[b6f k' x es j hbefore ⟨e,he,hsame⟩];refine⟨by simp[hlen],λi e' e2 p1 p2=>?_⟩;have p1':(es'.modify j λe=>{e with key:=k',val:=x'})[i]?=some e':=by rw[<-qE];exact p1
     rw[rO]at p1';rw[qZ]at p2;by_cases hij:j=i;grind;rw[vN hij]at p1' p2;exact q7.key i e' e2 zo p2|_=>exact absurd h1 zm
  |_=>exact absurd h1 zm
theorem b9h (hT:TabOk P T){t m k x}(h:a4a T fr t m k x s=some (v,s'))(S:Sim B0 w0 K s.h w)(hf:VRL K a.tmps.toList fr)(hg:GK T K):Q9 P B0 w0 K s' (do Instr.mapUpdate t (a.eval m) (a.eval k) (a.eval x);pure Next.skip) w v:=by obtain⟨vm,e1,h1⟩:=a0b h;obtain⟨vk,e2,h2⟩:=a0b h1;obtain⟨vx,e3,h3⟩:=a0b h2;obtain⟨un,s1,h4,h5⟩:=D6 h3;obtain⟨rfl,rfl⟩:=x8 h5;obtain⟨w',r1,r2,r3⟩:=c7Y (P:=P) hT h4 S (O3 hf hg e1) (O3 hf hg e2) (O3 hf hg e3);exact⟨.skip,w',K,by simp[r1],⟨KM.le_refl K,λ_ _ _=>rfl,r2⟩,Or.inr ⟨rfl,rfl⟩⟩
theorem b8g {o b s1 ob}(h:new o s=some (b,s1))(S:Sim B0 w0 K s.h w)(F:a0t K s s1)(hn:∀cs cur ro,o≠.cells cs cur ro)(hmap:∀es,o=.map es->∃es' clock,ob=.map es' clock/\MR K es'.toList es)(hiter:∀x pos,o=.siter x pos->ob=.stringIter x pos):∃K',Step B0 w0 K s1 (w.alloc ob) K'/\K' s.c 0=some ⟨w.heap.size,0,0,0,true⟩/\b=s.c:=by rw[b3V]at h;cases h;have hK:∀g,K s.c g=none:=S.none (F s.c (wP _) zn);have hblk:(w.alloc ob).heap[w.heap.size]?=some ob:=yZ;refine⟨K.put s.c 0 ⟨w.heap.size,0,0,0,true⟩,⟨KM.le_put K _ (hK 0),λi g hi=>KM.put_other K _ (λq=>by have hi:s.c+1<=i:=hi;omega),?_⟩,KM.put_same _ _ _ _,rfl⟩;refine b8y (o:=o) (a6k S (Grew.alloc _ _)) hK (λj=>Trie.get_put _ _ _ _ (wG _) j) zn S.base rfl (λb g l q=>by have:=S.dom b g l q;grind) (λcs cur ro q=>absurd q (hn _ _ _)) (λes q=>?_) (λx pos q=>⟨rfl,rfl,?_⟩);simp_all;simp_all
theorem e3l (hT:TabOk P T){t r}(h:b2E T fr t r s=some (v,s'))(S:Sim B0 w0 K s.h w)(F:a0t K s s')(hf:VRL K a.tmps.toList fr)(hg:GK T K):Q9 P B0 w0 K s' (do pure (Next.value (<-Instr.makeMap t (r.map a.eval)))) w v:=by
 have hmr:∀es,VObj.map []=.map es->∃es' clock,Obj.map #[] 0=.map es' clock/\MR K es'.toList es:=by intro es q;cases q;exact⟨#[],0,rfl,⟨rfl,λi e' e q=>by simp at q⟩⟩
 cases r with
  |none=>have h':M.bind (new (.map [])) (λb=>M.pure (.map (some b))) s=some (v,s'):=h;obtain⟨b,s1,h1,h2⟩:=D6 h';obtain⟨rfl,rfl⟩:=x8 h2;obtain⟨K',k1,k2,rfl⟩:=b8g (ob:=.map #[] 0) h1 S F zn hmr zn;refine Q9.step (v':=.map (some w.heap.size)) (w':=w.alloc (.map #[] 0)) ?_ k1 (VR.map k2);rfl|some x=>
   have h':ev T fr x (λv=>ti T t λd=>M.guard (c3a d.und&&b6O v)<|M.bind (new (.map [])) λb=>M.pure (.map (some b))) s=some (v,s'):=h;obtain⟨vx,e1,h1⟩:=a0b h';obtain⟨d,hd,h2⟩:=W9 h1;obtain⟨hgd,h3⟩:=I4 h2;obtain⟨b,s1,h4,h5⟩:=D6 h3;obtain⟨rfl,rfl⟩:=x8 h5;simp only[wI]at hgd;obtain⟨K',k1,k2,rfl⟩:=b8g (ob:=.map #[] 0) h4 S F zn hmr zn;refine Q9.step (v':=.map (some w.heap.size)) (w':=w.alloc (.map #[] 0)) ?_ k1 (VR.map k2);cases vx with
    |int kk n=>have ex:a.eval x=.int kk n:=(O3 hf hg e1).eq_of_plain rfl;cases hu:d.und with|map k1 k2=>simp[Instr.makeMap,ex,Z6 hT hd,hu,asInt,asIntOf]|_=>rw[hu]at hgd;cases hgd.1
    |_=>cases hgd.2
theorem d3N (hT:TabOk P T){t x}(h:a8B T fr t x s=some (v,s'))(S:Sim B0 w0 K s.h w)(F:a0t K s s')(hf:VRL K a.tmps.toList fr)(hg:GK T K):Q9 P B0 w0 K s' (do pure (Next.value (<-Instr.range t (a.eval x)))) w v:=by
 obtain⟨vx,e1,h1⟩:=a0b h;obtain⟨d,hd,h2⟩:=W9 h1;generalize hu:d.und=u at h2;cases u with
  |string=>cases vx with|string b=>obtain⟨n,s1,h3,h4⟩:=D6 h2;obtain⟨rfl,rfl⟩:=x8 h4;have ex:a.eval x=.string b:=(O3 hf hg e1).eq_of_plain rfl;obtain⟨K',k1,k2,rfl⟩:=b8g (ob:=.stringIter b 0) h3 S F zn zn zn;refine Q9.step (v':=.pointer (some ⟨w.heap.size,0,none⟩)) (w':=w.alloc (.stringIter b 0)) ?_ k1 (VR.ptr (off:=0) k2 (vH _));simp[Instr.range,Z6 hT hd,hu,ex]|_=>exact absurd h2 zm
  |_=>exact absurd h2 zm
theorem d6Q {x str ty}(h:b0l T fr x str s=some (v,s'))(S:Sim B0 w0 K s.h w)(hf:VRL K a.tmps.toList fr)(hg:GK T K):Q9 P B0 w0 K s' (do pure (Next.value (<-Instr.next (a.eval x) str ty))) w v:=by
 obtain⟨rfl,h1⟩:=I4 h;obtain⟨vx,e1,h2⟩:=a0b h1;obtain⟨ad,rfl,h3⟩:=a3i h2;obtain⟨h0,h4⟩:=I4 h3;obtain⟨o,s1,h5,h6⟩:=D6 h4;obtain⟨q1,q2,q3,q4⟩:=b0L h5;simp only[wI]at h0;have h00:=wK h0.1;cases o with
  |siter b pos=>
   obtain⟨l,r1,r2,r3,r4,r5⟩:=S.siter _ b pos q2;obtain⟨ad',e2,r⟩:=a9x (O3 hf hg e1);obtain⟨g,l',f1,f2,f3,rfl⟩:=a8F r;have hg0:g=0:=by have:=h0.2;rw[f1]at this;exact wK this
   subst hg0;rw[r1]at f2;cases f2;have ead:(⟨l.blk,l.at_+(ad.off-l.lo),none⟩:Addr)=⟨l.blk,0,none⟩:=by rw[r3,r4,h00]
   rw[ead]at e2;have h6':b3k ad.block b pos s1=some (v,s'):=h6;unfold b3k at h6';have hsz:z8 b.data.toList=b.size:=by rw[G8];rfl
   rw[hsz]at h6';cases hlt:Nat.blt pos b.size with
    |true=>rw[hlt]at h6';simp only[a2U]at h6';obtain⟨un,s2,h7,h8⟩:=D6 h6';obtain⟨rfl,rfl⟩:=x8 h8;obtain⟨_,w2,w3⟩:=b6B h7;have hlt':pos<b.size:=zn;refine Q9.step (v':=.tuple #[.bool true,goInt pos,.int .i32 (Utf8.decode b pos).1]) (w':={w with heap:=w.heap.setIfInBounds l.blk (.stringIter b (pos+(Utf8.decode b pos).2))}) (K':=K) ?_ ⟨KM.le_refl K,λ_ _ _=>rfl,?_⟩ (a0V 3 _ rfl);rw[e2];simp_all[Instr.next,a6L,b2C];refine b1W (o:=.siter b pos) (o':=.siter b (pos+(Utf8.decode b pos).2)) S r1 r2 q2 zn zn (λj=>by rw[w3 j,q4]) rfl (λes q=>ze) (λx p q=>zo)|false=>
     rw[hlt]at h6';obtain⟨rfl,rfl⟩:=x8 h6';have hlt':¬pos<b.size:=by grind[Nat.blt_eq]
     refine Q9.quiet S q4 (v':=.tuple #[.bool false]) ?_ (a0V 3 _ rfl);rw[e2];unfold Instr.next;simp only[vZ,a6L r5 zn,vz,hlt',tN,vM]
  |_=>exact absurd h6 zm
end
end Go.V
end
section
namespace Go.V
open Go.RowKit (Below)
theorem b2v (k:IntKind)(M H)(hM:(2^k.bits:Int)=M)(hH:(2^(k.bits-1):Int)=H)(hs:k.signed=true)(hMH:M=2*H)(m:Nat)(h:(m:Int)<H):k.wrap (-((m:Int)+1))=-((m:Int)+1):=by
 unfold IntKind.wrap;rw[hM,hH,hs];have e:(-((m:Int)+1))%M=-((m:Int)+1)+M:=by rw[<-Int.add_emod_right];exact Int.emod_eq_of_lt zy zy
 rw[e];grind
theorem a4J (k n):Q0 k n=k.wrap n:=by
 cases n with
  |ofNat m=>show(match Nat.blt m (a3D k)with|true=>Int.ofNat m|false=>k.wrap (.ofNat m))=_;cases h:Nat.blt m (a3D k)with|false=>rfl|true=>have hm:m<a3D k:=zn;show Int.ofNat m=k.wrap (Int.ofNat m);simp only[vB];cases k<;>simp only[a3D]at hm<;>simp only[IntKind.wrap,IntKind.bits,IntKind.signed,Int.reducePow,Nat.reduceSub,uK,uR,vF,ge_iff_le,uo,tN]<;>(try split)<;>omega
  |negSucc m=>show(match k.signed&&Nat.blt m (a3D k)with|true=>Int.negSucc m|false=>k.wrap (.negSucc m))=_;cases h:k.signed&&Nat.blt m (a3D k)with|false=>rfl|true=>simp only[wI]at h;have hm:m<a3D k:=zn;have hs:=h.1;show Int.negSucc m=k.wrap (Int.negSucc m);rw[Int.negSucc_eq];symm;cases k with|i8=>exact b2v .i8 256 128 rfl rfl rfl rfl m (by have hm:m<128:=hm;omega)|i16=>exact b2v .i16 65536 32768 rfl rfl rfl rfl m (by have hm:m<32768:=hm;omega)|i32=>exact b2v .i32 4294967296 2147483648 rfl rfl rfl rfl m (by have hm:m<2147483648:=hm;omega)|i64=>exact b2v .i64 18446744073709551616 9223372036854775808 rfl rfl rfl rfl m (by have hm:m<9223372036854775808:=hm;omega)|_=>cases hs
theorem a7V:∀(x y),a7J x y=Op.bytesLess x y:=by
 intro x;induction x with
  |nil=>intro y;cases y<;>rfl|cons a x ih=>
   intro y;cases y with
    |nil=>rfl|cons b y=>
     show(match Nat.blt a.toNat b.toNat with|true=>true|false=>match Nat.beq a.toNat b.toNat with|true=>a7J x y|false=>false)=(decide (a<b)||(a==b&&Op.bytesLess x y));rw[ih];by_cases h:a<b;have:Nat.blt a.toNat b.toNat=true:=by rw[uZ];exact UInt8.lt_iff_toNat_lt.1 h
     rw[this];simp[h];have h1:Nat.blt a.toNat b.toNat=false:=by cases q:Nat.blt a.toNat b.toNat<;>first|rfl|grind[Nat.blt_eq,UInt8.lt_iff_toNat_lt]
     rw[h1];by_cases h2:a=b;subst h2;simp;grind[UInt8.toNat_inj,Nat.eq_of_beq_eq_true]
section
variable {P:Program}{T:Tab}{B0:Nat}{w0:Base}{w:World}{K:KM}{s s':S}{a:Act}{fr:List Value}{v:Value}
theorem c9d {op k n m}(h:b4R op k n m=some v)(t w):(binOp op t (.int k n) (.int k m)).run P w=.ok v w:=by cases op<;>first|(cases h;done)|(cases h;simp[binOp,Op.intArith,Op.intCmp,a4J];done)|(cases h;simp[binOp,Op.intCmp];rfl)
theorem a4D {k k'}(h:a0A k k'=true):k=k':=by cases k<;>cases k'<;>first|rfl|cases h
theorem c3t (k m):b0W k m=min m k.bits:=by grind[b0W,Nat.le_of_ble_eq_true,Nat.ble_eq_true_of_le]
theorem c1u {op k k' n m}(h:a5v op k n m=some v)(t w):(binOp op t (.int k (.ofNat n)) (.int k' (.ofNat m))).run P w=.ok v w:=by
 have hneg:¬(Int.ofNat m<0):=zq;have htn:(Int.ofNat m).toNat=m:=rfl;cases op with
  |shl=>cases h;show(Op.shift .shl k (.ofNat n) k' (.ofNat m)).run P w=_;simp_all[Op.shift,vN,a4J,c3t]|shr=>
   cases h;show(Op.shift .shr k (.ofNat n) k' (.ofNat m)).run P w=_;unfold Op.shift;rw[vN hneg];simp only[htn,vM,c3t];have:(Int.ofNat n).fdiv (2^min m k.bits)=Int.ofNat (Nat.div n (Nat.pow 2 (min m k.bits))):=by show((n:Int)).fdiv (2^min m k.bits)=((n/2^min m k.bits:Nat):Int);have:(2^min m k.bits:Int)=((2^min m k.bits:Nat):Int):=za;rw[this];grind
   rw[this]|_=>cases h
theorem c9a {op k n m}(h:c0f op k n m=some v)(t w):(binOp op t (.int k (.ofNat n)) (.int k (.ofNat m))).run P w=.ok v w:=by
 have hbv:∀n:Nat,(BitVec.ofInt k.bits (Int.ofNat n)).toNat=n%2^k.bits:=λn=>za;cases op with
  |quo=>cases m with|zero=>cases h|succ m=>cases h;show(if k≠k then _ else Op.intDiv .quo k (.ofNat n) (.ofNat (m+1))).run P w=_;rw[vN zq];unfold Op.intDiv;rw[vN (show¬Int.ofNat (m+1)=0 fromλq=>ze)];simp only[vM,a4J];rfl
  |rem=>cases m with|zero=>cases h|succ m=>cases h;show(if k≠k then _ else Op.intDiv .rem k (.ofNat n) (.ofNat (m+1))).run P w=_;rw[vN zq];rfl
  |and=>cases h;show(if k≠k then _ else Op.intBits .and k (.ofNat n) (.ofNat m)).run P w=_;rw[vN zq];unfold Op.intBits;simp only[vM,a4J,BitVec.toNat_and,hbv];rfl|or=>cases h;show(if k≠k then _ else Op.intBits .or k (.ofNat n) (.ofNat m)).run P w=_;rw[vN zq];unfold Op.intBits;simp only[vM,a4J,BitVec.toNat_or,hbv];rfl|xor=>cases h;show(if k≠k then _ else Op.intBits .xor k (.ofNat n) (.ofNat m)).run P w=_;rw[vN zq];unfold Op.intBits;simp only[vM,a4J,BitVec.toNat_xor,hbv];rfl|_=>cases h
theorem b6C {f a b}(h:a6o f a b=some v):∃n m,a=.ofNat n/\b=.ofNat m/\f n m=some v:=by unfold a6o at h;cases a with|ofNat n=>cases b<;>grind|negSucc n=>cases h
theorem b6z {op k k' n m}(h:a3w op k k' n m=some v)(t w):(binOp op t (.int k n) (.int k' m)).run P w=.ok v w/\plain v=true:=by
 have pl:∀{o:BinOp} {a b:Nat} {u:Value},a5v o k a b=some u->plain u=true:=λ{o a b u} q=>by cases o<;>first|(cases q;rfl)|cases q
 have pl2:∀{o:BinOp} {a b:Nat} {u:Value},c0f o k a b=some u->plain u=true:=λ{o a b u} q=>by
  cases o with
   |quo=>cases b with|zero=>cases q|succ b=>cases q;rfl
   |rem=>cases b with|zero=>cases q|succ b=>cases q;rfl
   |and=>cases q;rfl|or=>cases q;rfl|xor=>cases q;rfl|_=>cases q
 have pl3:∀{o:BinOp} {a b:Int} {u:Value},b4R o k a b=some u->plain u=true:=λ{o a b u} q=>by cases o<;>first|(cases q;rfl)|cases q
 unfold a3w at h;cases h1:a6o (a5v op k) n m with|some u=>rw[h1]at h;cases h;obtain⟨a,b,rfl,rfl,q⟩:=b6C h1;grind[c1u]|none=>rw[h1]at h;simp only at h;cases hk:a0A k k' with|false=>rw[hk]at h;cases h|true=>rw[hk]at h;have:=a4D hk;subst this;simp only at h;cases h2:b4R op k n m with|some u=>rw[h2]at h;grind[c9d]|none=>rw[h2]at h;simp only at h;obtain⟨a,b,rfl,rfl,q⟩:=b6C h;grind[c9a]
theorem c3T {op t x y k k' n m}(w):(eqGuard op t x y (.int k n) (.int k' m)).run P w=.ok () w:=by simp_all[eqGuard]
theorem c4h {op t x y p q}(w):(eqGuard op t x y (.string p) (.string q)).run P w=.ok () w:=by simp_all[eqGuard]
theorem c9N {op x y}(h:b4e op x.data.toList y.data.toList=some v)(t w):(binOp op t (.string x) (.string y)).run P w=.ok v w:=by
 have hx:x.toList=x.data.toList:=ByteArray.toList_eq x;have hy:y.toList=y.data.toList:=ByteArray.toList_eq y;cases op with
  |add=>
   have h':(match Nat.blt (z8 x.data.toList+z8 y.data.toList) a4i with|true=>fList (E5 x.data.toList y.data.toList) λl=>some (Value.string ⟨⟨l⟩⟩)|false=>none)=some v:=h;rw[Y3]at h';split at h';rename_i hb;cases h';have hb:x.size+y.size<4294967296:=by have:z8 x.data.toList+z8 y.data.toList<a4i:=zn;rw[G8,G8]at this;exact this
   have hm:¬(((x.size+y.size:Nat):Int)>IntKind.i64.max):=by have:IntKind.i64.max=9223372036854775807:=rfl;rw[this];omega
   show(Op.stringOp .add x y).run P w=_;unfold Op.stringOp;simp only[vN hm,vM];congr 2;rw[E9];have:(x++y).data=x.data++y.data:=zq;rfl;cases h'|eql=>cases h;show(Op.stringOp .eql x y).run P w=_;simp[Op.stringOp,hx,hy,a2p]|neq=>cases h;show(Op.stringOp .neq x y).run P w=_;simp[Op.stringOp,hx,hy,a2p]|lss=>cases h;show(Op.stringOp .lss x y).run P w=_;simp[Op.stringOp,hx,hy,a7V]|leq=>cases h;show(Op.stringOp .leq x y).run P w=_;simp[Op.stringOp,hx,hy,a7V,a2p]|gtr=>cases h;show(Op.stringOp .gtr x y).run P w=_;simp[Op.stringOp,hx,hy,a7V,a2p]|geq=>cases h;show(Op.stringOp .geq x y).run P w=_;simp[Op.stringOp,hx,hy,a7V]|_=>cases h
end
end Go.V
end
section
namespace Go.V
open Go.RowKit (Below)
section
variable {P:Program}{T:Tab}{B0:Nat}{w0:Base}{w:World}{K:KM}{s s':S}{a:Act}{fr:List Value}{v:Value}
theorem b0P {o}(h:pureV o s=some (v,s')):∃z,o=some z/\K5 3 z=true/\v=z/\s'=s:=by obtain⟨z,hz,h1⟩:=H9 h;obtain⟨hg,h2⟩:=I4 h1;obtain⟨rfl,rfl⟩:=x8 h2;simp_all
theorem b7g {d x' x p}(h:a4m d x=some p)(r:VR K x' x):a4m d x'=some p:=by
 cases r with
  |plain _=>exact h|ptr _ _=>cases d<;>first|exact h|cases h
  |slice _ _ _ _ _ _=>cases d<;>first|exact h|cases h
  |map _=>cases d<;>first|exact h|cases h
  |agg _ _=>cases d<;>cases h|tuple _ _=>cases d<;>cases h|func _ _ _ _=>cases d<;>first|exact h|cases h
  |iface _=>cases d<;>first|exact h|cases h
theorem c9K (hT:TabOk P T){t:TypeId}{d}(hd:T.types.get t=some d){x y p q}(h1:a4m d.und x=some p)(h2:a4m d.und y=some q)(h3:(p||q)=true)(w):(Op.equal t x y).run P w=.ok (p&&q) w:=by
 have hu:=Z6 hT hd w;unfold Op.equal Op.maxDepth Op.equalIn;simp only[vZ,hu,vz];generalize d.und=u at*;cases u with
  |pointer e=>
   cases x with
    |pointer o1=>
     cases y with
      |pointer o2=>cases o1<;>cases o2<;>cases h1<;>cases h2<;>first|rfl|cases h3
      |_=>cases h2
    |_=>cases h1
  |slice e=>
   cases x with
    |slice o1 _ _=>
     cases y with
      |slice o2 _ _=>cases o1<;>cases o2<;>cases h1<;>cases h2<;>first|rfl|cases h3
      |_=>cases h2
    |_=>cases h1
  |map e f=>
   cases x with
    |map o1=>
     cases y with
      |map o2=>cases o1<;>cases o2<;>cases h1<;>cases h2<;>first|rfl|cases h3
      |_=>cases h2
    |_=>cases h1
  |func e f g=>cases x<;>first|(cases h1;done)|(cases y<;>first|(cases h2;done)|(cases h1;cases h2;first|rfl|cases h3))
  |interface e=>cases x<;>first|(cases h1;done)|(cases y<;>first|(cases h2;done)|(cases h1;cases h2;first|rfl|cases h3))
  |_=>cases h1
theorem c3H {d x y p q}(h1:a4m d x=some p)(h2:a4m d y=some q)(t):binOp .eql t x y=(do pure (.bool (<-Op.equal t x y)))/\binOp .neq t x y=(do pure (.bool (!(<-Op.equal t x y)))):=by cases x<;>first|(cases d<;>cases h1;done)|(cases y<;>first|(cases d<;>cases h2;done)|exact⟨rfl,rfl⟩)
theorem b9B {d x y p q op X Y}(h1:a4m d x=some p)(h2:a4m d y=some q)(hc:(isConstO X||isConstO Y)=true)(t w):(eqGuard op t X Y x y).run P w=.ok () w:=by cases op<;>first|rfl|(cases x<;>first|(cases d<;>cases h1;done)|(cases y<;>first|(cases d<;>cases h2;done)|rfl|(cases X<;>cases Y<;>first|rfl|(cases hc;done))))
theorem d7M (hT:TabOk P T){t:TypeId}{d op X Y}(hop:d3A op=true)(hd:T.types.get t=some d){x y p q}(h1:a4m d.und x=some p)(h2:a4m d.und y=some q)(h3:(p||q)=true)(hc:(isConstO X||isConstO Y)=true)(w):(do eqGuard op t X Y x y;binOp op t x y).run P w=.ok (.bool (b5y op (p&&q))) w:=by obtain⟨b1,b2⟩:=c3H h1 h2 t;have he:=c9K hT hd h1 h2 h3 w;simp only[vZ,b9B h1 h2 hc t w,vz];cases op<;>first|(cases hop;done)|(rw[b1];simp[he,b5y];done)|(rw[b2];simp[he,b5y];done)
theorem d1X (hT:TabOk P T){op t X Y x y x' y'}(h:a9H P T op t X Y x y s=some (v,s'))(rx:VR K x' x)(ry:VR K y' y)(w):∃v',(do eqGuard op t X Y x' y';binOp op t x' y').run P w=.ok v' w/\VR K v' v/\s'=s:=by unfold a9H at h;cases hn:b1O T op t X Y x y with|some r=>rw[hn]at h;obtain⟨rfl,rfl⟩:=x8 h;unfold b1O at hn;split at hn;rename_i hc;simp only[wI]at hc;split at hn;rename_i d hd;split at hn;rename_i p hp;split at hn;rename_i q hq;split at hn;rename_i hpq;cases hn;exact⟨_,d7M hT hc.1 hd (b7g hp rx) (b7g hq ry) hpq hc.2 w,.plain rfl,rfl⟩;cases hn;cases hn;cases hn;cases hn;cases hn|none=>rw[hn]at h;obtain⟨hg,h1⟩:=I4 h;obtain⟨z,hz,hna,rfl,rfl⟩:=b0P h1;simp only[wI]at hg;rw[rx.eq_of_noAddr 8 hg.1,ry.eq_of_noAddr 8 hg.2];exact⟨v,a7d hz w,a0V _ _ hna,rfl⟩
theorem e2N (hT:TabOk P T){op t x y}(h:b2n P T fr op t x y s=some (v,s'))(S:Sim B0 w0 K s.h w)(hf:VRL K a.tmps.toList fr)(hg:GK T K):Q9 P B0 w0 K s' (do pure (Next.value (<-(do eqGuard op t x y (a.eval x) (a.eval y);binOp op t (a.eval x) (a.eval y))))) w v:=by
 obtain⟨vx,e1,h1⟩:=a0b h;obtain⟨vy,e2,h2⟩:=a0b h1;have rx:=O3 hf hg e1;have ry:=O3 hf hg e2;have hbin:a9H P T op t x y vx vy s=some (v,s')->Q9 P B0 w0 K s' (do pure (Next.value (<-(do eqGuard op t x y (a.eval x) (a.eval y);binOp op t (a.eval x) (a.eval y))))) w v:=by intro hb;obtain⟨v',q1,q2,rfl⟩:=d1X hT hb rx ry w;exact Q9.quiet S rfl q1 q2
 cases vx with
  |int k n=>
   cases vy with
    |int k' m=>have h3:(match a3w op k k' n m with|some v=>M.pure v|none=>a9H P T op t x y (.int k n) (.int k' m)) s=some (v,s'):=h2;cases hi:a3w op k k' n m with|none=>rw[hi]at h3;grind|some z=>rw[hi]at h3;obtain⟨rfl,rfl⟩:=x8 h3;have ex:=rx.eq_of_plain rfl;have ey:=ry.eq_of_plain rfl;refine Q9.quiet S rfl (v':=v) ?_ (.plain (b6z (P:=P) hi t w).2);rw[ex,ey];grind[Sem.run_bind,c3T,Result.andThen_ok,b6z]
    |_=>exact absurd h2 zm
  |string p=>
   cases vy with
    |string q=>have h3:M.lift (b4e op p.data.toList q.data.toList) s=some (v,s'):=h2;obtain⟨h4,rfl⟩:=a3s h3;have ex:=rx.eq_of_plain rfl;have ey:=ry.eq_of_plain rfl;refine Q9.quiet S rfl (v':=v) ?_ ?_;rw[ex,ey];grind[Sem.run_bind,c4h,Result.andThen_ok,c9N];refine .plain ?_;cases op<;>first|(cases h4;done)|(have h5:(match Nat.blt (z8 p.data.toList+z8 q.data.toList) a4i with|true=>fList (E5 p.data.toList q.data.toList) λl=>some (Value.string ⟨⟨l⟩⟩)|false=>none)=some v:=h4;rw[Y3]at h5;split at h5<;>cases h5;rfl)|(cases h4;rfl)
    |_=>exact absurd h2 zm
  |_=>exact hbin h2
theorem e6L {op x}(h:b5O P T fr op x s=some (v,s'))(S:Sim B0 w0 K s.h w)(hf:VRL K a.tmps.toList fr)(hg:GK T K):Q9 P B0 w0 K s' (do pure (Next.value (<-Op.unary op (a.eval x)))) w v:=by obtain⟨vx,e1,h1⟩:=a0b h;obtain⟨hgd,h2⟩:=I4 h1;obtain⟨z,hz,hna,rfl,rfl⟩:=b0P h2;have ex:=(O3 hf hg e1).eq_of_plain hgd;rw[ex];exact Q9.quiet S rfl (a7d hz w) (a0V _ _ hna)
theorem d2S (hT:TabOk P T){t x y}(h:a8N T fr t x y s=some (v,s'))(S:Sim B0 w0 K s.h w)(hf:VRL K a.tmps.toList fr)(hg:GK T K):Q9 P B0 w0 K s' (do pure (Next.value (<-Instr.index t (a.eval x) (a.eval y)))) w v:=by
 obtain⟨vx,e1,h1⟩:=a0b h;obtain⟨vy,e2,h2⟩:=a0b h1;obtain⟨j,hj,h3⟩:=H9 h2;obtain⟨d,hd,h4⟩:=W9 h3;obtain⟨k,rfl⟩:=a7B hj;have ey:=(O3 hf hg e2).eq_of_plain rfl;have rx:=O3 hf hg e1;generalize hu:d.und=u at h4;cases u with
  |string=>
   cases vx with
    |string b=>
     obtain⟨c,hc,h5⟩:=H9 h4;obtain⟨rfl,rfl⟩:=x8 h5;have ex:=rx.eq_of_plain rfl;rw[a2T]at hc;have hc':b[j]?=some c:=by have hlt:j<b.data.toList.length:=(wM.1 hc).1;have hlt':j<b.size:=hlt;rw[getElem?_pos b j hlt'];rw[wO hlt]at hc;exact hc
     refine Q9.quiet S rfl (v':=a7l c) ?_ (.plain rfl);rw[ex,ey];simp only[Instr.index,vZ,asIntOf,vM,vz,Z6 hT hd,hu];simp[hc',a7l]|_=>exact absurd h4 zm
  |array len elem=>cases vx with|agg cs=>obtain⟨e,he,h5⟩:=W9 h4;obtain⟨hlt,h6⟩:=I4 h5;obtain⟨cs',ex,r⟩:=c8y rx;obtain⟨u',q1,q2,rfl⟩:=c1J hT h6 r w;have hlt:j<len:=zn;refine Q9.quiet S rfl ?_ q2;rw[ex,ey];simp only[Instr.index,vZ,asIntOf,vM,vz,Z6 hT hd,hu];simp[hlt,a0Z hT he]at q1⊢;exact q1|_=>exact absurd h4 zm
  |_=>exact absurd h4 zm
theorem b3Z:∀(vs) (bs),b4k vs=some bs->∃ns:List Int,vs=ns.map (λn=>Value.int .u8 n)/\bs=ns.map λn=>UInt8.ofNat n.toNat
 |[],bs,h=>by cases h;simp_all|v::vs,bs,h=>by
  have h':(match b8B v with|none=>none|some b=>(match b4k vs with|some bs=>some (b::bs)|none=>none))=some bs:=h;cases hb:b8B v with
   |none=>rw[hb]at h';cases h'|some b=>
    rw[hb]at h';cases hr:b4k vs with
     |none=>rw[hr]at h';cases h'|some bs1=>
      rw[hr]at h';cases h';obtain⟨ns,e1,e2⟩:=b3Z vs bs1 hr;cases v with
       |int k n=>cases k with|u8=>cases hb;exact⟨n::ns,by rw[e1];rfl,by rw[e2];rfl⟩|_=>cases hb
       |_=>cases hb
theorem c6T (ns:List Int):∀(acc:ByteArray),ns.foldl (λr n=>r.push (UInt8.ofNat n.toNat)) acc=⟨⟨acc.data.toList++ns.map λn=>UInt8.ofNat n.toNat⟩⟩:=by induction ns<;>simp_all
theorem c7R (hT:TabOk P T){src dst x}(h:a4t T fr src dst x s=some (v,s'))(S:Sim B0 w0 K s.h w)(F:a0t K s s')(hf:VRL K a.tmps.toList fr)(hg:GK T K):Q9 P B0 w0 K s' (do pure (Next.value (<-convert src dst (a.eval x)))) w v:=by
 obtain⟨vx,e1,h1⟩:=a0b h;obtain⟨sd,hs,h2⟩:=W9 h1;obtain⟨dd,hd,h3⟩:=W9 h2;have rx:=O3 hf hg e1;have us:=λw=>Z6 (P:=P) hT hs w;have ud:=λw=>Z6 (P:=P) hT hd w;generalize hu:dd.und=u at h3 ud;cases u with
  |int k=>cases vx with|int k' n=>obtain⟨rfl,rfl⟩:=x8 h3;have ex:=rx.eq_of_plain rfl;refine Q9.quiet S rfl (v':=.int k (k.wrap n)) ?_ (by rw[a4J];exact .plain rfl);rw[ex];simp[convert,us,ud,Conv.intToInt]|_=>exact absurd h3 zm
  |slice e=>
   cases vx with
    |string b=>
     obtain⟨i,hi,h4⟩:=W9 h3;obtain⟨hgd,h5⟩:=I4 h4;obtain⟨ad,s1,h6,h7⟩:=D6 h5;obtain⟨rfl,rfl⟩:=x8 h7;have ex:=rx.eq_of_plain rfl;simp only[wI,G8]at hgd;have hlen:b.data.toList.length=b.size:=rfl;have hby:i.und=.int .u8:=by
      have:=hgd.1;cases hiu:i.und with
       |int k=>cases k<;>first|rfl|(rw[hiu]at this;cases this)
       |_=>rw[hiu]at this;cases this
     rw[a0N]at h6;have hv:VRL K (b.data.toList.map a7l) (b.data.toList.map a7l):=VRL.refl_plain _ (λy hy=>by obtain⟨z,_,rfl⟩:=uQ.1 hy;rfl);let cap:=(Question.appendCap b.size 0 e).cut (w.tape w.drawn (Question.appendCap b.size 0 e));have hcap:b.size<=cap:=by show b.size<=b.size+_%_;omega
     let arr:Array Value:=b.data.map (λx=>Value.int .u8 x.toNat)++Array.replicate (cap-b.size) (.int .u8 0);have harr:arr.toList=b.data.toList.map a7l++List.replicate (cap-b.size) (.int .u8 0):=by simp only[arr,sD,Array.toList_map,rR];rfl
     have hasz:arr.size=cap:=by rw[<-uT,harr];simp_all
     let w1:World:=(w.drew.alloc (.cells arr e));let w2:World:=w1.freeze {block:=w.heap.size,off:=arr.size} 1;have hblk:w2.heap[w.heap.size]?=some (.cells arr e (arr.size,arr.size+1)):=by show((w.heap.push (.cells arr e (0,0))).modify w.heap.size _)[w.heap.size]?=_;rw[rO,vG rfl,oG];rfl
     have G:Grew w w2:=by refine⟨rfl,rfl,rfl,?_,?_⟩;grind;intro k hk;show((w.heap.push (.cells arr e (0,0))).modify w.heap.size _)[k]?=_;rw[rO,vN zy,Array.getElem?_push,vN zy]
     obtain⟨K',k1,k2,rfl⟩:=a6i (w':=w2) (arr:=arr) (e:=e) h6 S F hv G hblk harr (λo ho=>zy);refine Q9.step (v':=.slice (some ⟨w.heap.size,0,none⟩) b.size cap) (w':=w2) ?_ k1 ?_;rw[ex];have ue:=λw=>Z6 (P:=P) hT hi w;rw[hby]at ue;simp only[convert,vZ,us,ud,vz];cases sd.und<;>(simp only[vZ,ue,vz,Conv.stringToBytes,run_choose,Question.forced,uo,tN,newRow,nQ,vM,markStringish,run_shape];simp only[World.shape?,oG];rfl);rw[G8];refine VR.slice (off:=0) k2 (vH _) zy hcap (Or.inr rfl) (Or.inr ⟨rfl,rfl,λ_=>?_⟩);simp_all|_=>exact absurd h3 zm
  |string=>
   cases vx with
    |string b=>obtain⟨rfl,rfl⟩:=x8 h3;have ex:=rx.eq_of_plain rfl;refine Q9.quiet S rfl (v':=.string b) ?_ (.plain rfl);rw[ex];simp_all[convert]|int k n=>obtain⟨rfl,rfl⟩:=x8 h3;have ex:=rx.eq_of_plain rfl;refine Q9.quiet S rfl (v':=.string (Utf8.encode n)) ?_ (.plain rfl);rw[ex];simp only[convert,vZ,us,ud,vz];cases sd.und<;>rfl|slice o len es=>
     generalize hsu:sd.und=su at h3 us;cases su with
      |slice e=>
       obtain⟨_,h4⟩:=I4 h3;obtain⟨i,hi,h5⟩:=W9 h4;obtain⟨hgd,h6⟩:=I4 h5;obtain⟨vs,s1,h7,h8⟩:=D6 h6;obtain⟨bs,hbs,h9⟩:=H9 h8;obtain⟨rfl,rfl⟩:=x8 h9;obtain⟨n,vs',c1,c2,c3,c4,c5,c6⟩:=b7b (P:=P) h7 zy S rx;have hby:i.und=.int .u8:=by
        cases hiu:i.und with
         |int k=>cases k<;>first|rfl|(rw[hiu]at hgd;cases hgd)
         |_=>rw[hiu]at hgd;cases hgd
       have ue:=λw=>Z6 (P:=P) hT hi w;rw[hby]at ue;obtain⟨ns,e2,e3⟩:=b3Z vs bs hbs;have hvs:vs'=ns.map (λn=>Value.int .u8 n):=by
        apply ui;intro j;rw[<-e2];cases hj:vs[j]? with
         |none=>rw[vg (by rw[c3.len];simp_all)]|some z=>
          obtain⟨z',q1,q2⟩:=c3.get? hj;rw[q1];have:z∈ns.map (λn=>Value.int .u8 n):=by rw[<-e2];grind
          obtain⟨m,_,rfl⟩:=uQ.1 this;rw[q2.eq_of_plain rfl]
       refine Q9.quiet S c5 (v':=.string ⟨⟨bs⟩⟩) ?_ (.plain rfl);have hconv:(convert src dst (a.eval x)).run P w=(Conv.bytesToString (a.eval x)).run P w:=by rcases a3Y rx with⟨_,ad',cap,_,p2,_⟩|⟨_,_,_,p4⟩;rw[p2];simp_all[convert];simp_all[convert]
       rw[hconv];rcases a3Y rx with⟨_,ad',cap,_,p2,_⟩|⟨_,_,_,p4⟩;rw[p2]at c1 c2⊢;have hn:n=len:=by have:=c1 w;simp_all[Builtin.lenOf]
       have hl:(loadCells ad' len).run P w=.ok ((ns.map (λn=>Value.int .u8 n)).toArray) w:=by have:=c2 w (λ_=>rfl);rw[hvs,hn]at this;grind[Builtin.firstCells]
       rw[run_bytesToString w ad' len cap ns hl,c6T,e3];simp;rw[p4]at c1 c2⊢;have hn:n=0:=by have:=c1 w;simp_all[Builtin.lenOf]
       have:vs'=[]:=rQ (by rw[c4,hn]);rw[this]at hvs;have hns:ns=[]:=zo;rw[e3,hns];rfl|_=>exact absurd h3 zm
    |_=>cases hq:sd.und<;>rw[hq]at h3<;>exact absurd h3 zm
  |_=>exact absurd h3 zm
theorem c7V (hT:TabOk P T){b args ts ty consts}(h:a0J P T fr b args ts s=some (v,s'))(S:Sim B0 w0 K s.h w)(F:a0t K s s')(hf:VRL K a.tmps.toList fr)(hg:GK T K):Q9 P B0 w0 K s' (builtin b ts ty consts (args.map a.eval)) w v:=by
 obtain⟨vs,e1,h1⟩:=a6M h;have r:=a6j hf hg e1;have hargs:args.map a.eval=(args.toList.map a.eval).toArray:=zo;rw[hargs];cases b with
  |append=>obtain⟨hlen2,h2⟩:=I4 h1;rw[G8]at hlen2;obtain⟨v',w',K',q1,q2,q3⟩:=c7n (ty:=ty) hT (by rw[r.len];simp_all) h2 S F r;exact Q9.step q1 q2 q3|len=>
   obtain⟨t,e2,h2⟩:=H9 h1;obtain⟨d,hd,h3⟩:=W9 h2;obtain⟨x,e3,h4⟩:=H9 h3;rw[a2T,a8q]at e2;rw[a2T]at e3;obtain⟨x',e4,rx⟩:=r.get? e3;have e4':(args.toList.map a.eval).toArray[0]?=some x':=zo;have hu:=Z6 (P:=P) hT hd w;have hlen:∃n,(Builtin.len_ ts ty (args.toList.map a.eval).toArray).run P w=.ok (goInt n) w/\v=goInt n/\s'.h=s.h:=by
    unfold Builtin.len_;simp only[e2,e4'];simp only[vZ,hu,vz];unfold d2O at h4;generalize d.und=u at*;cases u with
     |array n e=>obtain⟨rfl,rfl⟩:=x8 h4;exact⟨n,rfl,rfl,rfl⟩|string=>cases x with|string p=>obtain⟨rfl,rfl⟩:=x8 h4;rw[rx.eq_of_plain rfl];exact⟨p.size,rfl,by rw[G8];rfl,rfl⟩|_=>exact absurd h4 zm
     |slice e=>cases x with|slice o n es=>obtain⟨rfl,rfl⟩:=x8 h4;rcases a3Y rx with⟨_,ad',cap,_,p2,_⟩|⟨_,p2,_,p4⟩;rw[p2];exact⟨n,rfl,rfl,rfl⟩;rw[p4,p2];exact⟨0,rfl,rfl,rfl⟩|_=>exact absurd h4 zm
     |map k e=>obtain⟨es,s1,h5,h6⟩:=D6 h4;obtain⟨rfl,rfl⟩:=x8 h6;obtain⟨c1,c2,c3⟩:=b1e h5 S rx;rcases c3 with⟨q1,rfl⟩|⟨b,l,es',clock,_,q2,q3,q4,q5,q6,q7⟩;rw[q1];exact⟨0,rfl,rfl,c1⟩;rw[q2];simp only[vZ,a6L q6 zn,vz,vM];exact⟨es'.size,rfl,by rw[G8,<-q7.len];simp,c1⟩|_=>exact absurd h4 zm
   obtain⟨n,q1,rfl,q3⟩:=hlen;exact Q9.quiet S q3 q1 (.plain rfl)|max=>obtain⟨hp,h2⟩:=I4 h1;obtain⟨z,hz,hna,rfl,rfl⟩:=b0P h2;have hvs:args.toList.map a.eval=vs:=yN;rw[hvs];exact Q9.quiet S rfl (a7d hz w) (a0V _ _ hna)|min=>obtain⟨hp,h2⟩:=I4 h1;obtain⟨z,hz,hna,rfl,rfl⟩:=b0P h2;have hvs:args.toList.map a.eval=vs:=yN;rw[hvs];exact Q9.quiet S rfl (a7d hz w) (a0V _ _ hna)|_=>exact absurd h1 zm
theorem c2o (hT:TabOk P T){o}(h:O4 P T fr o.op s=some (v,s'))(S:Sim B0 w0 K s.h w)(F:a0t K s s')(hf:VRL K a.tmps.toList fr)(hg:GK T K):Q9 P B0 w0 K s' (execOp a.eval o) w v:=by obtain⟨dst,op,type,pos,after,guard⟩:=o;cases op with|move x=>exact c5i h S hf hg|assign x=>exact c5i h S hf hg|pick c x y=>exact d7A h S hf hg|alloc t=>exact d1Z hT h S F|box t x=>exact e2z h S F hf hg|build t ps=>exact d1G hT h S hf hg|buildSlice t len ps=>exact b9K hT h S F hf hg|load t x=>exact d7R hT h S hf hg|store t x y=>exact d2t hT h S hf hg|nilCheck x=>exact c3Q rfl h S hf hg|binOp op t x y yt=>exact e2N hT h S hf hg|unOp op t x=>exact e6L h S hf hg|convert x y z=>exact c7R hT h S F hf hg|makeInterface t x=>exact d2P hT h S hf hg|makeFunc fn x y=>exact d8p h S hf hg|makeMap t r=>exact e3l hT h S F hf hg|makeSlice t x y=>exact d7y hT h S F hf hg|slice t x lo hi mx=>exact d1B hT h S hf hg|fieldAddr t x f=>exact c2c hT h S hf hg|field t x f=>exact d3Y hT h S hf hg|indexAddr t x i=>exact c1l hT h S hf hg|index t x i=>exact d2S hT h S hf hg|lookup t x i ok=>exact c9J hT h S hf hg|mapUpdate t m k x=>exact b9h hT h S hf hg|insert t m k x=>exact b9h hT h S hf hg|range t x=>exact d3N hT h S F hf hg|next x str=>exact d6Q h S hf hg|extract x i=>exact c6h h S hf hg|_=>exact absurd h zm
def a5c (P:Program)(T:Tab)(B0:Nat)(w0:Base)(call:Nat->List Value->M Value):Prop:=∀f vs s v s' w K vs',call f vs s=some (v,s')->Sim B0 w0 K s.h w->GK T K->a0t K s s'->VRL K vs' vs->(∃v' w' K',(callFunc f vs'.toArray).run P w=.ok (.value v') w'/\Step B0 w0 K s' w' K'/\VR K' v' v)\/((callFunc f vs'.toArray).run P w=.ok (.enter f vs'.toArray) w/\Calls P f vs'.toArray w λe w'=>∃v' K',e=.returned v'/\Step B0 w0 K s' w' K'/\VR K' v' v)
theorem b8l {x' fn x y}(r:VR K x' (.func fn x y)):∃x1 y1,x'=.func fn x1 y1/\VRL K x1.toList x.toList/\VRL K y1.toList y.toList:=by generalize hv:Value.func fn x y=z at r;cases r with|plain hp=>grind[V.plain]|func h1 h2 h3 h4=>cases hv;exact⟨_,_,rfl,⟨h1,h2⟩,⟨h3,h4⟩⟩|_=>cases hv
theorem b0Y (hT:TabOk P T){call}(hC:a5c P T B0 w0 call){o:Oper}(h:Z4 P T call fr o.op s=some (v,s'))(S:Sim B0 w0 K s.h w)(F:a0t K s s')(hf:VRL K a.tmps.toList fr)(hg:GK T K){next}{Q}(hn:∀v' w' K',Step B0 w0 K s' w' K'->VR K' v' v->next (a.put o.dst v') w'):o.wp P a w next Q:=by
 have good:Q9 P B0 w0 K s' (execOp a.eval o) w v->o.wp P a w next Q:=by rintro⟨n,w',K',r1,r2,r3⟩;unfold Oper.wp;rw[r1];rcases r3 with⟨v',rfl,r⟩|⟨rfl,rfl⟩;exact hn v' w' K' r2 r;exact hn undef w' K' r2 (VR.undef K')
 unfold Z4 at h;cases hc:b1v o.op with
  |none=>rw[hc]at h;grind[c2o]|some c=>
   rw[hc]at h;have hop:o.op=.call c:=by cases ho:o.op<;>rw[ho]at hc<;>first|(cases hc;rfl)|cases hc
   have h':b1p P T call fr c s=some (v,s'):=h;have hex:execOp a.eval o=(do let d<-resolve a.eval c o.type;invoke d.target d.args):=by grind[execOp]
   unfold b1p at h';cases hcal:c.callee with
    |builtin b=>rw[hcal]at h';grind[c7V,resolve,invoke]|value f=>
     rw[hcal]at h';obtain⟨vf,e1,h1⟩:=a0b h';obtain⟨vs,e2,h2⟩:=a6M h1;have rf:=O3 hf hg e1;have rs:=a6j hf hg e2;cases vf with
      |func fn first captured=>
       cases fn with
        |func g=>
         have h3:call g (E5 first.toList (E5 vs captured.toList)) s=some (v,s'):=h2;rw[E9,E9]at h3;obtain⟨f1,c1,ef,rf1,rc1⟩:=b8l rf;have rargs:VRL K (f1.toList++(c.args.toList.map a.eval++c1.toList)) (first.toList++(vs++captured.toList)):=rf1.append (rs.append rc1);have e:execOp a.eval o=callFunc g (f1.toList++(c.args.toList.map a.eval++c1.toList)).toArray:=by rw[hex];unfold resolve;rw[hcal];show(do let d<-Deferred.ofValue (a.eval f) (c.args.map a.eval);invoke d.target d.args)=_;rw[ef];show callFunc g (f1++c.args.map a.eval++c1)=_;congr 1;simp_all
         rcases hC g _ s v s' w K _ h3 S hg F rargs with⟨v',w',K',q1,q2,q3⟩|⟨q1,q2⟩;exact good ⟨.value v',w',K',by rw[e];exact q1,q2,Or.inl ⟨v',rfl,q3⟩⟩;unfold Oper.wp;rw[e,q1];refine q2.mono λen w' hq=>?_;grind|_=>exact absurd h2 zm
      |_=>exact absurd h2 zm
    |invoke r m=>rw[hcal]at h';cases h'
theorem a9Q (ops tmps)(hf:VRL K tmps.toList fr)(o):Region.wanted o (yielded ops tmps)=a1Y ops.toList fr o:=by
 unfold Region.wanted a1Y;cases o.guard with
  |none=>rfl|some jb=>
   obtain⟨j,b⟩:=jb;show(yielded ops tmps j==some b)=(match a4A ops.toList j with|some t=>a1W b (D5 fr t)|none=>false);have hd:a4A ops.toList j=(ops[j]?).bind (·.dst):=by grind[a4A,a2T]
   rw[hd];unfold yielded;cases ho:ops[j]? with
    |none=>rfl|some o'=>
     simp only[Option.bind_some];cases o'.dst with
      |none=>rfl|some t=>
       show((match tmps[t]? with|some (.bool b)=>some b|_=>none)==some b)=a1W b (D5 fr t);have r:=hf.lget t;rw[a4n tmps.toList,a8q]at r;cases ht:tmps[t]? with
        |none=>
         have:D5 fr t=undef:=by rw[a4n,vg];rfl;rw[<-hf.len];grind
         rw[this];rfl|some x=>
         rw[ht]at r;have r:VR K x (D5 fr t):=r;generalize D5 fr t=y at r;cases r with
          |plain hp=>cases x<;>first|rfl|grind[bool]
          |_=>rfl
theorem a8C {K'}(hf:VRL K' a.tmps.toList fr)(o){v'}(r:VR K' v' v):VRL K' (a.put o.dst v').tmps.toList (Q3 fr o v):=by unfold Act.put Q3;cases o.dst with|none=>exact hf|some t=>have:=hf.lset t r;simp_all
theorem a3d (a:Act)(d v):(a.put d v).defers=a.defers:=by cases d<;>rfl
theorem Step.trans {s1 s2 w1 w2 K1 K2}(h1:Step B0 w0 K s1 w1 K1)(h2:Step B0 w0 K1 s2 w2 K2)(hc:s1.c<=s2.c):Step B0 w0 K s2 w2 K2:=⟨KM.le_trans h1.le h2.le,λi g hi=>(h2.far i g hi).trans (h1.far i g (vR hc hi)),h2.sim⟩
theorem a0t.right {α}{m:M α}{x s1 s2 K1}(F:a0t K s s2)(hm:Fr m)(h1:m s=some (x,s1)):a0t K1 s1 s2:=λi hi hi2=>by obtain⟨dr,dw,_,_,e3,_,e5,_,e7,_⟩:=hm s x s1 h1;rw[e7 i (λq=>by have:=e5 i q;omega)];exact F i (vR e3 hi) hi2
theorem a0t.left {s1 s2}(F:a0t K s s2)(hc:s1.c<=s2.c):a0t K s s1:=λi hi hi2=>F i hi (wD hi2 hc)
theorem Fr.le {α}{m:M α}(h:Fr m){x}(e:m s=some (x,s')):s.c<=s'.c:=let⟨_,_,_,_,q,_⟩:=h s x s' e;q
def b3q (B0:Nat)(w0:Base)(K:KM)(s':S)(ds:List Deferred)(ex:Ex)(fr':List Value):Exit->Act->World->Prop:=λe a' w'=>∃K',Step B0 w0 K s' w' K'/\VRL K' a'.tmps.toList fr'/\a'.defers=ds/\(match ex with|.normal=>e=.normal|.exit id=>e=.exit id|.ret=>e=.ret)
theorem c8T (hT:TabOk P T){call}(hC:a5c P T B0 w0 call)(hF:∀f vs,Fr (call f vs))(ops){Q}:∀(n k) (fr fr') (s s') (K) (a) (w),k+n=ops.size->a6d P T call ops.toList (ops.toList.drop k) fr s=some (fr',s')->Sim B0 w0 K s.h w->a0t K s s'->VRL K a.tmps.toList fr->GK T K->(∀a' w' K',Step B0 w0 K s' w' K'->VRL K' a'.tmps.toList fr'->a'.defers=a.defers->Q .normal a' w')->wpOps P ops Q (List.range' k n) a w:=by intro n;induction n with|zero=>intro k fr fr' s s' K a w hk h S F hf hg hq;have:ops.toList.drop k=[]:=qR zl;rw[this]at h;obtain⟨rfl,rfl⟩:=x8 h;exact hq a w K (Step.same S rfl) hf rfl|succ n ih=>intro k fr fr' s s' K a w hk h S F hf hg hq;have hlt:k<ops.size:=zy;have hd:ops.toList.drop k=ops[k]::ops.toList.drop (k+1):=xJ;rw[hd,b1k]at h;rw[qK];simp only[wpOps,sK hlt];rw[a9Q ops a.tmps hf];cases hw:a1Y ops.toList fr ops[k]with|true=>rw[hw]at h;simp only[qD]at h⊢;left;obtain⟨v,s1,h1,h2⟩:=D6 h;have hle2:=(Fr.runOps P T hF _ _ _).le h2;refine b0Y hT hC h1 S (F.left hle2) hf hg λv' w' K' st r=>?_;refine ih (k+1) _ fr' s1 s' K' _ w' zy h2 st.sim (F.right (Fr.stepOp P T hF _ _) h1) (a8C (hf.mono st.le) _ r) (hg.mono st.le) λa2 w2 K2 st2 r2 d2=>?_;exact hq a2 w2 K2 (st.trans st2 hle2) r2 (by rw[d2,a3d])|false=>rw[hw]at h;simp only[uo,tN]at h⊢;refine ih (k+1) _ fr' s s' K _ w zy h S F (a8C hf _ (VR.undef K)) hg λa2 w2 K2 st2 r2 d2=>?_;grind[a3d]
end
end Go.V
end
section
namespace Go.V
open Go.RowKit (Below)
section
variable {P:Program}{T:Tab}{fr fr2:List Value}
theorem b0A (i l):a2V i l=true↔i∈l:=by induction l with|nil=>constructor<;>intro h<;>cases h|cons x l ih=>show(match Nat.beq i x with|true=>true|false=>a2V i l)=true↔_;cases h:Nat.beq i x with|true=>simp_all|false=>have:i≠x:=λe=>zn;simp_all
theorem b7D (l m):a0d l m=true↔∀i,i∈l->i∉m:=by grind[a0d,M5,b0A]
theorem c7A {t:Nat}{xs}(h:Operand.tmp t∈xs):t∈b1C xs:=by induction xs with|nil=>cases h|cons x xs ih=>show t∈(match x with|.tmp t=>t::b1C xs|_=>b1C xs);grind
theorem c3D {x:Operand}(h:∀t,x=.tmp t->D5 fr t=D5 fr2 t):X5 T fr x=X5 T fr2 x:=by cases x with|tmp t=>show some (D5 fr t)=some (D5 fr2 t);rw[h t rfl]|_=>rfl
theorem a3E {xs}(h:∀x∈xs,X5 T fr x=X5 T fr2 x):a0R T fr xs=a0R T fr2 xs:=by induction xs<;>first|rfl|grind[a0R]
theorem b7R {o}(h:∀x∈o.operands.toList,X5 T fr x=X5 T fr2 x):O4 P T fr o=O4 P T fr2 o:=by
 cases o with
  |move x=>show M.lift _=M.lift _;rw[h x (by simp[Op.operands])]|assign x=>show M.lift _=M.lift _;rw[h x (by simp[Op.operands])]|pick c x y=>show b0p T fr c x y=b0p T fr2 c x y;simp_all[b0p,ev,Op.operands]|alloc t=>rfl|box t x=>show b2w T fr x=b2w T fr2 x;grind[b2w,ev,Op.operands]|build t ps=>show a8W T fr t ps=a8W T fr2 t ps;have:a0R T fr (K4 (·.2) ps.toList)=a0R T fr2 (K4 (·.2) ps.toList):=a3E (λx hx=>h x (by rw[a0N]at hx;grind[Op.operands]));grind[a8W,evs]|buildSlice t len ps=>show a3R T fr t len ps=a3R T fr2 t len ps;have:a0R T fr (K4 (·.2) ps.toList)=a0R T fr2 (K4 (·.2) ps.toList):=a3E (λx hx=>h x (by rw[a0N]at hx;grind[Op.operands]));grind[a3R,evs]|load t x=>show a7Z T fr t x=a7Z T fr2 t x;grind[a7Z,ev,Op.operands]|store t x y=>show a8T T fr t x y=a8T T fr2 t x y;grind[a8T,ev,Op.operands]|nilCheck x=>show a5q T fr x=a5q T fr2 x;grind[a5q,ev,Op.operands]|binOp op t x y yt=>show b2n P T fr op t x y=b2n P T fr2 op t x y;grind[b2n,ev,Op.operands]|unOp op t x=>show b5O P T fr op x=b5O P T fr2 op x;grind[b5O,ev,Op.operands]|convert x y z=>show a4t T fr x y z=a4t T fr2 x y z;grind[a4t,ev,Op.operands]|makeInterface t x=>show a8Y T fr t x=a8Y T fr2 t x;grind[a8Y,ev,Op.operands]|makeFunc fn x y=>show b0E T fr fn x y=b0E T fr2 fn x y;have e1:a0R T fr x.toList=a0R T fr2 x.toList:=a3E (λz hz=>h z yA);have e2:a0R T fr y.toList=a0R T fr2 y.toList:=a3E (λz hz=>h z yA);grind[b0E,evs]|makeMap t r=>cases r with|none=>rfl|some x=>show b2E T fr t (some x)=b2E T fr2 t (some x);grind[b2E,ev,Op.operands]
  |makeSlice t x y=>show b0n T fr t x y=b0n T fr2 t x y;grind[b0n,ev,Op.operands]|slice t x lo hi mx=>show a8G T fr t x lo hi mx=a8G T fr2 t x lo hi mx;have e1:a0R T fr lo.toList=a0R T fr2 lo.toList:=a3E (λz hz=>h z yA);have e2:a0R T fr hi.toList=a0R T fr2 hi.toList:=a3E (λz hz=>h z yA);have e3:a0R T fr mx.toList=a0R T fr2 mx.toList:=a3E (λz hz=>h z yA);simp_all[a8G,evs,ev,Op.operands]|fieldAddr t x f=>show a4H T fr t x f=a4H T fr2 t x f;grind[a4H,ev,Op.operands]|field t x f=>show a6D T fr t x f=a6D T fr2 t x f;grind[a6D,ev,Op.operands]|indexAddr t x i=>show a3c T fr t x i=a3c T fr2 t x i;grind[a3c,ev,Op.operands]|index t x i=>show a8N T fr t x i=a8N T fr2 t x i;grind[a8N,ev,Op.operands]|lookup t x i ok=>show a7w T fr t x i ok=a7w T fr2 t x i ok;grind[a7w,ev,Op.operands]|mapUpdate t m k x=>show a4a T fr t m k x=a4a T fr2 t m k x;simp_all[a4a,ev,Op.operands]|insert t m k x=>show a4a T fr t m k x=a4a T fr2 t m k x;simp_all[a4a,ev,Op.operands]|range t x=>show a8B T fr t x=a8B T fr2 t x;grind[a8B,ev,Op.operands]|next x str=>show b0l T fr x str=b0l T fr2 x str;grind[b0l,ev,Op.operands]|extract x i=>show a6m T fr x i=a6m T fr2 x i;grind[a6m,ev,Op.operands]|_=>rfl
theorem c2e {call o}(h:∀x∈o.operands.toList,X5 T fr x=X5 T fr2 x):Z4 P T call fr o=Z4 P T call fr2 o:=by
 unfold Z4;cases hc:b1v o with
  |none=>exact b7R h|some c=>
   have hop:o=.call c:=by cases o<;>first|(cases hc;rfl)|cases hc
   subst hop;have ha:a0R T fr c.args.toList=a0R T fr2 c.args.toList:=a3E (λz hz=>h z (by grind[Op.operands,Call.operands]));show b1p P T call fr c=b1p P T call fr2 c;unfold b1p;cases hcal:c.callee with|value f=>have hf:X5 T fr f=X5 T fr2 f:=h f (by simp[Op.operands,Call.operands,hcal]);grind[a5i,ev,evs]|builtin b=>grind[a0J,evs]|invoke r m=>rfl
theorem b4V {call ops o}(h:∀t,t∈a3C ops o->D5 fr t=D5 fr2 t):Z4 P T call fr o.op=Z4 P T call fr2 o.op/\a1Y ops fr o=a1Y ops fr2 o:=by refine⟨c2e λx hx=>c3D λt ht=>h t ?_,?_⟩;grind[c7A,a3C];grind[a1Y,a3C]
end
def a7b {β:Type}(X:Nat->β)(inD inW:Nat->Bool):Nat->β|0=>X 0|k+1=>if inD k&&inW k then X (k+1)else a7b X inD inW k
section
variable {β:Type}{X:Nat->β}{inD inW:Nat->Bool}{n:Nat}
theorem b1U (hX:∀k,k<n->inW k=false->X (k+1)=X k)(i)(h:∀j,j<n->inW j=true->(inD j=true↔j<i))(hi:i<=n):a7b X inD inW n=X i:=by
 have key:∀k,k<=n->a7b X inD inW k=X (min k i):=by intro k;induction k<;>first|rfl|grind[a7b]
 rw[key n (wP _),Nat.min_eq_right hi]
theorem c1L (hX:∀k,k<n->inW k=false->X (k+1)=X k)(h:∀j,j<n->inD j=true):a7b X inD inW n=X n:=b1U hX n (λj hj _=>⟨λ_=>hj,λ_=>h j hj⟩) (wP _)
theorem c2V {inD'}(h:∀j,j<n->inW j=true->inD' j=inD j):a7b X inD' inW n=a7b X inD inW n:=xH
theorem c4Y (i)(hi:i<n)(hd:inD i=true)(hw:inW i=true)(h:∀j,i<j->j<n->inD j=true->inW j=false):a7b X inD inW n=X (i+1):=xH
theorem b3B (h:∀j,j<n->inD j=true->inW j=false):a7b X inD inW n=X 0:=xH
end
theorem d0q {ops x y}(h:free2 ops x y=true):(∀i,i∈x.2.2->i∉y.2.1)/\(∀i,i∈x.2.2->i∉y.2.2)/\(∀i,i∈y.2.2->i∉x.2.1)/\(∀i,i∈a2O x.1->i∉a3C ops y.1)/\(∀i,i∈a2O x.1->i∉a2O y.1)/\(∀i,i∈a2O y.1->i∉a3C ops x.1):=by simp_all[free2,b7D]
theorem c1X {ops pj y}:∀(xs) (k),a7E ops pj y xs k=true->∀(i) x,xs[i]?=some x->(k+i)∈pj\/free2 ops x y=true:=by intro xs;induction xs with|nil=>simp_all|cons x0 xs ih=>intro k h i x hx;have h':(match a2V k pj||free2 ops x0 y with|true=>a7E ops pj y xs (k+1)|false=>false)=true:=h;cases hb:a2V k pj||free2 ops x0 y with|false=>rw[hb]at h';cases h'|true=>rw[hb]at h';cases i with|zero=>simp_all[b0A]|succ i=>have:=ih (k+1) h' i x zo;rwa[show k+1+i=k+(i+1) by omega]at this
theorem c8w {f l p}(h:p∈a4T f l):∃e∈l,p∈f e:=by induction l<;>first|rfl|grind[a4T,E9]
theorem c4j {ops}:∀(ys xs) (psl) (n),a3f ops ys xs psl n=true->xs.length=n->psl.length=n->∃ps:Nat->List Nat,(∀i l,psl[i]?=some l->ps i=l)/\∀(j) y,ys[j]?=some y->(∀e∈y.1.after.toList,Region.binds .any e=true->e.on<n+j)/\(∀p,p∈ps (n+j)->∃e∈y.1.after.toList,Region.binds .any e=true/\(p=e.on\/p∈ps e.on))/\(∀(i) x,i<n+j->(xs++ys)[i]?=some x->i∈ps (n+j)\/free2 ops x y=true):=by
 intro ys;induction ys with
  |nil=>intro xs psl n _ _ _;exact⟨λi=>(psl[i]?).getD [],λi l h=>by simp[h],λj y h=>by simp at h⟩|cons y ys ih=>
   intro xs psl n h hx hp;have h':(match a7C n y.1.after.toList&&a7E ops (a4T (a5W psl) y.1.after.toList) y xs 0 with|true=>a3f ops ys (E5 xs [y]) (E5 psl [a4T (a5W psl) y.1.after.toList]) (n+1)|false=>false)=true:=h;cases hb:a7C n y.1.after.toList&&a7E ops (a4T (a5W psl) y.1.after.toList) y xs 0 with
    |false=>rw[hb]at h';cases h'|true=>
     rw[hb]at h';simp only[E9]at h';simp only[wI]at hb;obtain⟨ps,p1,p2⟩:=ih (xs++[y]) (psl++[a4T (a5W psl) y.1.after.toList]) (n+1) h' (by simp[hx]) (by simp[hp]);have hpsn:ps n=a4T (a5W psl) y.1.after.toList:=p1 n _ (by rw[vV zy,hp];simp);refine⟨ps,λi l hi=>p1 i l (by rw[vQ (by have:=(wM.1 hi).1;exact this)];exact hi),λj z hz=>?_⟩;cases j with
      |zero=>
       simp at hz;subst hz;refine⟨λe he hbi=>?_,λp hpp=>?_,λi x hi hix=>?_⟩;have:=(M5 _ _).1 hb.1 e he;rw[hbi]at this;simp_all;rw[vC,hpsn]at hpp;obtain⟨e,he,hpe⟩:=c8w hpp;have hpe':p∈(match Region.binds .any e with|true=>(match a0k psl e.on with|some l=>e.on::l|none=>[])|false=>[]):=hpe;cases hbi:Region.binds .any e<;>first|rfl|grind[a2T]
       rw[vQ zy]at hix;have:=c1X xs 0 hb.2 i x hix;rw[vY]at this;rw[vC,hpsn];exact this|succ j=>have:=p2 j z zo;rw[show n+1+j=n+(j+1) by omega]at this;simp_all
end Go.V
end
