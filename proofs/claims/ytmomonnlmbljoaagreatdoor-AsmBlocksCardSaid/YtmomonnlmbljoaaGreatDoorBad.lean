import Derived.Test.YtmomonnlmbljoaaGreatDoorBac
set_option maxRecDepth 1000000
set_option maxHeartbeats 4000000
set_option linter.unusedVariables false
set_option linter.unusedSimpArgs false
section
namespace Go.V
open Go.RowKit (Below)
section
variable {P:Program}{T:Tab}{B0:Nat}{w0:Base}{w:World}{K:KM}{s s':S}{v:Value}
theorem c9O (b:ByteArray):(b.extract 0 b.size).data.map (λx=>Value.int .u8 x.toNat)=(b.data.toList.map a7h).toArray:=by rw[b5Q];apply oH;rw[Array.toList_map];have:b.data.toList.length<=b.size:=wQ _;simp only[uC,qb,sP this];rfl
theorem c7m {ad n s1 vs}(h:loadN ad n s=some (vs,s1))(S:Sim B0 w0 K s.h w){a'}(r:VR K (.pointer (some a')) (.pointer (some ad))):∃vs',(∀w2,(∀x,w2.cell? x=w.cell? x)->(loadCells a' n).run P w2=.ok vs'.toArray w2)/\VRL K vs' vs/\vs'.length=n/\s1.c=s.c/\s1.h=s.h:=by
 obtain⟨g,cs,cur,ro,e1,e2,e3,e4,e5⟩:=a9m h;obtain⟨g',l,f1,f2,f3,rfl⟩:=a8D r;rw[e1]at f1;cases f1;obtain⟨vs',c1,c2,c3⟩:=a9l S f2 f3 e2 e3;have hn:vs'.length=n:=by rw[c1.len,c2]
 grind[run_loadCells_list,a9w]
theorem b6x {size x x' vs s1}(h:a9s size x s=some (vs,s1))(hpos:0<size)(S:Sim B0 w0 K s.h w)(r:VR K x' x):∃n vs',(∀w2,(Builtin.lenOf x').run P w2=.ok n w2)/\(∀w2,(∀x,w2.cell? x=w.cell? x)->(Builtin.firstCells size n x').run P w2=.ok vs'.toArray w2)/\VRL K vs' vs/\vs'.length=n*size/\s1.h=s.h/\s1.c=s.c:=by
 cases x with
  |slice o len es=>
   cases o with
    |none=>obtain⟨hl,h1⟩:=G9 h;obtain⟨rfl,rfl⟩:=q9 h1;rcases a3G r with⟨_,_,_,p1,_⟩|⟨_,p2,p3,p4⟩;cases p1;exact⟨0,[],by rw[p4];intro _;rfl,by rw[p4];intro _ _;rfl,VRL.nil K,zq,rfl,rfl⟩|some ad=>
     rcases a3G r with⟨ad1,ad',cap,p1,p2,p3,p4,p5,p6,p7⟩|⟨p1,_⟩;cases p1;cases len with|zero=>have h1:M.pure [] s=some (vs,s1):=h;obtain⟨rfl,rfl⟩:=q9 h1;exact⟨0,[],by rw[p2];intro _;rfl,by rw[p2];simp_all[Builtin.firstCells,loadCells,loadCellsFrom],VRL.nil K,zq,rfl,rfl⟩|succ len=>have h1:M.guard (Nat.beq es size) (loadN ad ((len+1)*size)) s=some (vs,s1):=h;obtain⟨he,h2⟩:=G9 h1;obtain⟨vs',r1,r2,r3,r4,r5⟩:=c7m (P:=P) h2 S (p7 zy);exact⟨len+1,vs',by rw[p2];intro _;rfl,by rw[p2];exact r1,r2,r3,r5,r4⟩
     cases p1
  |string b=>obtain⟨hl,h1⟩:=G9 h;obtain⟨rfl,rfl⟩:=q9 h1;have hs:=wR hl;subst hs;have ex:=r.eq_of_plain rfl;refine⟨b.size,b.data.toList.map a7h,by rw[ex];intro _;rfl,by rw[ex];intro _ _;simp only[Builtin.firstCells];rw[c9O];rfl,?_,zn,rfl,rfl⟩;rw[a0R];exact VRL.refl_plain _ (λy hy=>by obtain⟨z,_,rfl⟩:=uS.1 hy;rfl)|_=>exact absurd h zl
theorem b8s (newLen):∀(n c),c<=2*newLen+192->c<newLen\/True->Builtin.growBy newLen n c<=2*newLen+192|0,c,h,_=>h|n+1,c,h,_=>by unfold Builtin.growBy;split;exact h;exact b8s newLen n _ zy (Or.inr trivial)
theorem c7S (need cap)(h:cap<need):Builtin.nextslicecap need cap<=2*need+192:=by unfold Builtin.nextslicecap;split;omega;split;omega;exact b8s need 4 cap zy (Or.inr trivial)
theorem b4z {argTypes ty st xt elem dx size n base len cap x' vs' w'}(h0:argTypes[0]?=some st)(h1:argTypes[1]?=some xt)(hst:(underlying st).run P w=.ok (.slice elem) w)(hxt:(underlying xt).run P w=.ok dx w)(hdx:b3q dx=false)(hsz:(sizeOf elem).run P w=.ok size w)(hn:(Builtin.lenOf x').run P w=.ok n w)(hfc:(Builtin.firstCells size n x').run P w=.ok vs'.toArray w)(hle:len+n<=cap)(hnone:base=none->w'=w)(hsome:∀ad,base=some ad->(storeCells (ad.add (len*size)) vs').run P w=.ok () w'):(Builtin.append_ argTypes ty #[.slice base len cap,x']).run P w=.ok (.slice base (len+n) cap) w':=by unfold Builtin.append_;simp only[h0,h1];simp only[List.getElem?_toArray,nu,tq];simp only[vg,hst,wC,hsz,hxt,vK];cases dx with|int k=>cases hdx|_=>simp only[uo,tO,ug,pz,vg,hn,wC,hle,hfc];cases base with|none=>rw[hnone rfl];rfl|some ad=>simp only[vg,hsome ad rfl,wC,vK]
theorem b3y {argTypes ty st xt elem dx n e base len cap x' vs' olds}(hT:TabOk P T)(h0:argTypes[0]?=some st)(h1:argTypes[1]?=some xt)(hst:∀w,(underlying st).run P w=.ok (.slice elem) w)(hxt:∀w,(underlying xt).run P w=.ok dx w)(hdx:b3q dx=false)(he:T.types.get elem=some e)(hn:(Builtin.lenOf x').run P w=.ok n w)(hfc:(Builtin.firstCells e.size n x').run P w.drew=.ok vs'.toArray w.drew)(hold:(Builtin.firstCells e.size len (.slice base len cap)).run P w.drew=.ok olds.toArray w.drew)(hlt:cap<len+n)(hsmall:(len+n)*4<4294967296)(hb:e.bytes<4096)(hpos:0<e.size):∃nc arr,len+n<=nc/\arr.toList=olds++vs'++a5N e.zero.cells.toList (nc-(len+n))/\(Builtin.append_ argTypes ty #[.slice base len cap,x']).run P w=.ok (.slice (some ⟨w.heap.size,0,none⟩) (len+n) nc) (w.drew.alloc (.cells arr elem)):=by
 obtain⟨info,g1,g2,g3,g4,g5,g6⟩:=hT.types elem e he;let nc:=(Question.appendCap (len+n) cap elem).cut (w.tape w.drawn (Question.appendCap (len+n) cap elem));have hnc:len+n<=nc:=by show len+n<=(len+n)+_%_;omega
 refine⟨nc,olds.toArray++vs'.toArray++Builtin.zeroCells e.zero.cells (nc-(len+n)),hnc,?_,?_⟩;have hz:=b5p e.zero.cells (nc-(len+n)) (by rw[g6];exact hpos);simp only[rX];rw[<-hz];rfl;have hnb:¬(Builtin.nextslicecap (len+n) cap*e.bytes>2^48):=by have h1:=c7S (len+n) cap hlt;have h2:Builtin.nextslicecap (len+n) cap*e.bytes<=(2*(len+n)+192)*4096:=Nat.mul_le_mul h1 zy;have:(2:Nat)^48=281474976710656:=rfl;omega
 have hni:¬(((len+n:Nat):Int)>IntKind.i64.max):=by have:IntKind.i64.max=9223372036854775807:=rfl;rw[this];omega
 have hnle:¬(len+n<=cap):=zy;unfold Builtin.append_;simp only[h0,h1];simp only[List.getElem?_toArray,nu,tq];simp only[vg,hst,wC,a1d hT he,hxt,vK];cases dx with|int k=>cases hdx|_=>simp only[uo,tO,ug,pz,vg,hn,wC,hnle,typeInfo,run_program,g1,vK,hni,false_and,g4,hnb];simp only[run_choose,Question.forced,uo,tO,wC,run_askRoom];have hd:({w with drawn:=w.drawn+1}:World)=w.drew:=rfl;simp only[hd,hold,wC,hfc,b0q hT he,newRow,vg,nQ,vK];rfl
theorem VRL.two {l' x y l}(h:VRL K l' l)(h0:l[0]?=some x)(h1:l[1]?=some y):∃x' y' r,l'=x'::y'::r/\VR K x' x/\VR K y' y:=by match l',h with|[],h=>have:=h.len;simp_all|[x'],h=>have:=h.len;simp_all|x'::y'::r,h=>exact⟨x',y',r,rfl,h.at_ 0 _ _ rfl h0,h.at_ 1 _ _ rfl h1⟩
theorem c0F (hT:TabOk P T){argTypes ty st xt elem dx e vs x0 x0' x1 s1 n vs'}(h0:argTypes[0]?=some st)(h1:argTypes[1]?=some xt)(hst:∀w,(underlying st).run P w=.ok (.slice elem) w)(hxt:∀w,(underlying xt).run P w=.ok dx w)(hdx:b3q dx=false)(he:T.types.get elem=some e)(hpos:0<e.size)(h:a1J e x0 vs s1=some (v,s'))(S:Sim B0 w0 K s1.h w)(F:a0B K s1 s')(r0:VR K x0' x0)(hn:(Builtin.lenOf x1).run P w=.ok n w)(hfc:(Builtin.firstCells e.size n x1).run P w=.ok vs'.toArray w)(hfc2:(Builtin.firstCells e.size n x1).run P w.drew=.ok vs'.toArray w.drew)(hvs:VRL K vs' vs)(hvl:vs'.length=n*e.size):∃v' w' K',(Builtin.append_ argTypes ty #[x0',x1]).run P w=.ok v' w'/\Step B0 w0 K s' w' K'/\VR K' v' v:=by
 obtain⟨info,g1,g2,g3,g4,g5,g6⟩:=hT.types elem e he;cases vs with
  |nil=>
   obtain⟨hsl,h2⟩:=G9 h;obtain⟨rfl,rfl⟩:=q9 h2;have hvs0:vs'=[]:=rH hvs.len;subst hvs0;have hn0:n=0:=by rcases rW n with q|q;exact q;have:=Nat.mul_pos q hpos;simp_all
   subst hn0;cases v with
    |slice o len es=>
     have hslice:∃b l c,x0'=.slice b l c/\l<=c:=by rcases a3G r0 with⟨_,ad',cap,_,p2,p3,_⟩|⟨_,_,_,p4⟩;grind;grind
     obtain⟨b,l,c,rfl,hlc⟩:=hslice;refine⟨.slice b l c,w,K,?_,Step.same S rfl,r0⟩;have:=b4z (ty:=ty) (w':=w) h0 h1 (hst w) (hxt w) hdx (a1d hT he w) hn hfc (base:=b) (len:=l) (cap:=c) zy (λ_=>rfl) (λad _=>rfl);omega|_=>cases hsl
  |cons u us=>
   cases x0 with
    |slice o len es=>
     have h2:M.guard (Nat.beq ((x8 us+1)/e.size*e.size) (x8 us+1)&&J2 O4 (u::us)&&Nat.blt ((len+(x8 us+1)/e.size)*4) a3W&&Nat.blt e.bytes 4096) (match o with|none=>M.guard (Nat.beq len 0)<|M.bind (Y7 (u::us)) λa=>M.pure (.slice (some a) ((x8 us+1)/e.size) e.size)|some a=>M.guard (Nat.beq es e.size)<|appendAt e a len (u::us) ((x8 us+1)/e.size)) s1=some (v,s'):=by have:=h;simp only[a1J,a2F]at this;exact this
     obtain⟨hgd,h3⟩:=G9 h2;simp only[wK,F9]at hgd;obtain⟨⟨⟨q1,q2⟩,q3⟩,q4⟩:=hgd;rw[F9]at h3;generalize hm:(us.length+1)/e.size=m at*;have q1:=wR q1;have q3:(len+m)*4<4294967296:=by grind[Nat.blt_eq,a3W]
     have q4:e.bytes<4096:=zn;have hvl2:vs'.length=us.length+1:=by rw[hvs.len];rfl
     have hnm:n=m:=by have:n*e.size=m*e.size:=zy;grind[Nat.eq_of_mul_eq_mul_right]
     subst hnm;have hn1:0<n:=zo;cases o with
      |none=>
       obtain⟨hl0,h4⟩:=G9 h3;obtain⟨ad,s2,h5,h6⟩:=C8 h4;obtain⟨rfl,rfl⟩:=q9 h6;rcases a3G r0 with⟨_,_,_,p1,_⟩|⟨_,p2,p3,p4⟩;cases p1;subst p4 p2;obtain⟨nc,arr,c1,c2,c3⟩:=b3y (ty:=ty) (base:=none) (len:=0) (cap:=0) (olds:=[]) hT h0 h1 hst hxt hdx he hn hfc2 rfl zy q3 q4 hpos;obtain⟨K',k1,k2,rfl⟩:=a6m (w':=w.drew.alloc (.cells arr elem)) (arr:=arr) (e:=elem) (fz:=(0,0)) (rest:=a5N e.zero.cells.toList (nc-(0+n))) h5 S F hvs ((Grew.drew w).trans (Grew.alloc _ _)) yZ (by rw[c2];simp) (λo _=>zq);refine⟨_,_,K',c3,k1,?_⟩;rw[vV];refine VR.slice (off:=0) k2 (vC _) hpos zy (Or.inr rfl) (Or.inr ⟨rfl,rfl,λ_=>?_⟩);dsimp only;have hsz:arr.size=n*e.size+(nc-n)*e.size:=by rw[<-uV,c2];grind[a9c]
       rw[hsz,<-tJ,vV,pE zy];omega|some ad=>
       obtain⟨hes,h4⟩:=G9 h3;have hes:=wR hes;subst hes;obtain⟨g,cs,cur,olds,z1,z2,z3,z4,z5,z6,rfl⟩:=c0E h4;rcases a3G r0 with⟨ad1,ad',cap,p1,rfl,p3,p4,p5,p6,p7⟩|⟨p1,_⟩;cases p1;obtain⟨hg1,_,hg3⟩:=S.gens _ cs cur false z2;have hget:∀j,(Trie.put (some (.cells (cs.take (ad.off+len*e.size)) cur false)) (ad.block+1) s1.h ad.block).get j=if j=ad.block then some (.cells (cs.take (ad.off+len*e.size)) cur false)else s1.h.get j:=λj=>Trie.get_put _ _ _ _ (wE _) j;generalize Trie.put (some (.cells (cs.take (ad.off+len*e.size)) cur false)) (ad.block+1) s1.h ad.block=ht at hget;have S1:=c8e S z2 hget;have hb1:ht.get ad.block=some (.cells (cs.take (ad.off+len*e.size)) cur false):=by rw[hget,vH rfl]
       have hlt:(cs.take (ad.off+len*e.size)).length=ad.off+len*e.size:=by simp[z3]
       have hh':∀j,s'.h.get j=if j=ad.block then some (.cells (cs.take (ad.off+len*e.size)++(u::us).map λv=>(v,cur+1)) (cur+1) false)else ht.get j:=zn;by_cases hfit:len+n<=cap;obtain⟨g',l,y1,y2,y3,y4⟩:=a8D (p7 zy);rw[z1]at y1;cases y1;have hown:l.own=true:=(hg1 _ _ y2).2 rfl;obtain⟨c,et,fz,c1,c2,c3⟩:=S.room _ _ l cs cur false y2 hown z2;have hroom:l.at_+(ad.off-l.lo)+cap*e.size<=l.sz:=xg;have hmul:len*e.size+n*e.size<=cap*e.size:=by rw[<-tJ];exact Nat.mul_le_mul_right _ hfit
       obtain⟨w',u1,u2⟩:=b1O P l.blk vs' (l.at_+(ad.off-l.lo)+len*e.size) 0 w (λj hj=>by
        have hidx:l.at_+(ad.off-l.lo)+len*e.size+0+j<c.size:=zy;have hc:w.cell? ⟨l.blk,l.at_+(ad.off-l.lo)+len*e.size+0+j,none⟩=c[l.at_+(ad.off-l.lo)+len*e.size+0+j]?:=by grind[World.cell?]
        rw[hc,sF hidx];rfl) (λj hj=>c3 _ zy) (λx hx=>by
        obtain⟨j,hj,rfl⟩:=pF hx;have hj2:j<(u::us).length:=by rw[<-hvs.len];exact hj
        exact(hvs.at_ j _ _ (wO hj) (wO hj2)).oneCell ((M4 _ _).1 q2 _ (uP hj2)));have hrun:=b4z (ty:=ty) (w':=w') h0 h1 (hst w) (hxt w) hdx (a1d hT he w) hn hfc (base:=some ad') (len:=len) (cap:=cap) hfit (λq=>ze) (λad2 q=>by grind[a9w]);have S2:=c7h S1 hb1 y2 (by rw[hlt];omega) (o:=l.at_+(ad.off-l.lo)+len*e.size+0) (by rw[hlt];omega) u2;let l':Loc:=⟨l.blk,ad.off,l.at_+(ad.off-l.lo),l.sz,true⟩;have S3:=c3T (l:=l') (vs:=u::us) S2 hb1 hh' rfl (by show l.blk<_;rw[u2.size];grind) (by show B0<=l.blk;exact S.own _ _ _ y2 hown) (λg2 l2 k1 k2=>by have:=(S.same _ _ _ _ _ y2 k1).2 k2.symm;grind) (λb2 g2 l2 hne k1=>(S.apart _ _ _ _ _ _ y2 k1 (ow hne) hown).symm) (by have:=u2.room ⟨c,et,fz,c1,c2,c3⟩ c1;exact this) (λoff x st k1 k2=>by show∃v',w'.cell? ⟨l.blk,l.at_+(ad.off-l.lo)+(off-ad.off),none⟩=some v'/\VR K v' x;have k1:ad.off<=off:=k1;by_cases hoff:off<ad.off+len*e.size;rw[vF (by rw[hlt];exact hoff),tL,vH hoff]at k2;obtain⟨t1,t2⟩:=a6u _ _ _ _ z4;obtain⟨x2,st2,t3,t4,t5⟩:=t2 (off-ad.off) zy;rw[uT,show ad.off+(off-ad.off)=off by omega,k2]at t3;cases t3;obtain⟨v',r1,r2⟩:=S.cells _ cs cur false _ l z2 y2 off x st k2 t4 zy;refine⟨v',?_,r2⟩;rw[u2.cell_other c1 _ (Or.inr zo),show l.at_+(ad.off-l.lo)+(off-ad.off)=l.at_+(off-l.lo) by omega];exact r1;rw[vG (by rw[hlt];omega),hlt,vM]at k2;cases hq:(u::us)[off-(ad.off+len*e.size)]? with|none=>rw[hq]at k2;cases k2|some y=>rw[hq]at k2;cases k2;obtain⟨y',r1,r2⟩:=hvs.get? hq;refine⟨y',?_,r2⟩;have:=u2.cell_new c1 (by rw[hvl];omega) _ _ r1;rw[show l.at_+(ad.off-l.lo)+(off-ad.off)=l.at_+(ad.off-l.lo)+len*e.size+0+(off-(ad.off+len*e.size)) by omega];exact this);refine⟨_,w',_,hrun,⟨S3.2,λi g2 hi=>?_,S3.1⟩,?_⟩;refine KM.put_other K _ (λq=>?_);have hx:ad.block<s1.c:=wW;omega;rw[y4];exact VR.slice (KM.put_same _ _ _ _) (wQ _) hpos hfit (Or.inr rfl) (Or.inr ⟨rfl,zo,λ_=>hroom⟩);obtain⟨l,y2,y3⟩:∃l,K ad.block g=some l/\l.lo<=ad.off:=xg;obtain⟨olds',o1,o2,o3⟩:=a9l S y2 y3 z2 z4;have hol:olds'.length=len*e.size:=by rw[o1.len,o2]
       have hrold:(Builtin.firstCells e.size len (.slice (some ad') len cap)).run P w.drew=.ok olds'.toArray w.drew:=by rcases rW len with q|q;simp_all[Builtin.firstCells,loadCells,loadCellsFrom];obtain⟨g',l2,x1,x2,x3,rfl⟩:=a8D (p7 zy);rw[z1]at x1;cases x1;rw[y2]at x2;cases x2;have:=oZ (P:=P) w.drew (⟨l.blk,l.at_+(ad.off-l.lo),none⟩:Addr) olds' (λj v hj=>by rw[a9w];exact o3 j v hj);rw[hol]at this;exact this
       obtain⟨nc,arr,c1,c2,c3⟩:=b3y (ty:=ty) (base:=some ad') (len:=len) (cap:=cap) (olds:=olds') hT h0 h1 hst hxt hdx he hn hfc2 hrold zy q3 q4 hpos;have hsz:arr.size=len*e.size+n*e.size+(nc-(len+n))*e.size:=by rw[<-uV,c2];grind[a9c]
       have G:Grew w (w.drew.alloc (.cells arr elem)):=(Grew.drew w).trans (Grew.alloc _ _);have hblk:(w.drew.alloc (.cells arr elem)).heap[w.heap.size]?=some (.cells arr elem (0,0)):=yZ;have S2:=a6q S1 G;let l':Loc:=⟨w.heap.size,ad.off,0,arr.size,true⟩;have S3:=c3T (l:=l') (vs:=u::us) S2 hb1 hh' rfl zo (by show B0<=w.heap.size;exact S.base) (λg2 l2 k1 k2=>by have:=S.dom _ _ _ k1;have k2:l2.blk=w.heap.size:=k2;omega) (λb2 g2 l2 hne k1=>by have:=S.dom _ _ _ k1;grind) ⟨arr,elem,(0,0),hblk,rfl,λo _=>by grind[World.frozen?]⟩ (λoff x st k1 k2=>by
        show∃v',(w.drew.alloc (.cells arr elem)).cell? ⟨w.heap.size,0+(off-ad.off),none⟩=some v'/\VR K v' x;have k1:ad.off<=off:=k1;have hcell:∀i y,(olds'++vs')[i]?=some y->(w.drew.alloc (.cells arr elem)).cell? ⟨w.heap.size,0+i,none⟩=some y:=by
         intro i y hy;have hi:i<(olds'++vs').length:=(wM.1 hy).1;have:arr[i]?=some y:=by rw[<-qA,c2,vF hi];exact hy
         simp_all[World.cell?]
        by_cases hoff:off<ad.off+len*e.size;rw[vF (by rw[hlt];exact hoff),tL,vH hoff]at k2;obtain⟨t1,t2⟩:=a6u _ _ _ _ z4;obtain⟨x2,st2,t3,t4,t5⟩:=t2 (off-ad.off) zy;rw[uT,show ad.off+(off-ad.off)=off by omega,k2]at t3;cases t3;obtain⟨v',r1,r2⟩:=o1.get? t5;grind;rw[vG (by rw[hlt];omega),hlt,vM]at k2;cases hq:(u::us)[off-(ad.off+len*e.size)]? with|none=>rw[hq]at k2;cases k2|some y=>rw[hq]at k2;cases k2;obtain⟨y',r1,r2⟩:=hvs.get? hq;grind);refine⟨_,_,_,c3,⟨S3.2,λi g2 hi=>?_,S3.1⟩,?_⟩;refine KM.put_other K _ (λq=>?_);have hx:ad.block<s1.c:=wW;omega;refine VR.slice (KM.put_same _ _ _ _) (wQ _) hpos c1 (Or.inr rfl) (Or.inr ⟨rfl,zo,λ_=>?_⟩);grind[Nat.add_mul,Nat.add_sub_cancel'];cases p1
    |_=>exact absurd h zl
end
end Go.V
end
section
namespace Go.V
open Go.RowKit (Below)
section
variable {P:Program}{T:Tab}{B0:Nat}{w0:Base}{w:World}{K:KM}{s s':S}{a:Act}{fr:List Value}{v:Value}
theorem a8f {α:Type}(x:Array α)(i:Nat):x.toList[i]?=x[i]?:=zq
theorem c5S (hT:TabOk P T){ts ty vs vs'}(hl:vs'.length=2)(h:appendV T ts vs s=some (v,s'))(S:Sim B0 w0 K s.h w)(F:a0B K s s')(r:VRL K vs' vs):∃v' w' K',(Builtin.append_ ts ty vs'.toArray).run P w=.ok v' w'/\Step B0 w0 K s' w' K'/\VR K' v' v:=by
 obtain⟨st,e1,h1⟩:=G5 h;obtain⟨xt,e2,h2⟩:=G5 h1;obtain⟨d,hd,h3⟩:=X0 h2;obtain⟨dx,hdx,h4⟩:=X0 h3;rw[a2J,a8f]at e1 e2;generalize hu:d.und=u at h4;cases u with
  |slice elem=>
   obtain⟨x0,e3,h5⟩:=G5 h4;obtain⟨x1,e4,h6⟩:=G5 h5;obtain⟨e,he,h7⟩:=X0 h6;obtain⟨hgd,h8⟩:=G9 h7;obtain⟨us,s1,h9,h10⟩:=C8 h8;rw[Z6]at h10;rw[a2J]at e3 e4;obtain⟨x0',x1',rest,rfl,r0,r1⟩:=r.two e3 e4;have hrest:rest=[]:=zn;subst hrest;simp only[wK,tZ]at hgd;have hpos:0<e.size:=Nat.pos_of_ne_zero (b6r (by rw[hgd.2];rfl));obtain⟨n,us',c1,c2,c3,c4,c5,c6⟩:=b6x (P:=P) h9 hpos S r1;have S1:Sim B0 w0 K s1.h w:=by rw[c5];exact S
   have F1:a0B K s1 s':=by intro i hi;rw[c6]at hi;rw[c5];exact F i hi
   exact c0F hT e1 e2 (λw=>by rw[Y9 hT hd,hu]) (λw=>Y9 hT hdx w) zn he hpos h10 S1 F1 r0 (c1 w) (c2 w (λ_=>rfl)) (c2 w.drew (λ_=>rfl)) c3 c4|_=>exact absurd h4 zl
end
end Go.V
end
section
namespace Go.V
open Go.RowKit (Below)
theorem b2h {B0 w0 K h h' w w'}(S:Sim B0 w0 K h w){b l o o' ob}(hk:K b 0=some l)(hown:l.own=true)(ho:h.get b=some o)(hnc:∀cs cur ro,o≠.cells cs cur ro)(hnc':∀cs cur ro,o'≠.cells cs cur ro)(hh:∀j,h'.get j=if j=b then some o' else h.get j)(hw:w'={w with heap:=w.heap.setIfInBounds l.blk ob})(hmap:∀es,o'=.map es->∃es' clock,ob=.map es' clock/\MR K es'.toList es)(hiter:∀x pos,o'=.siter x pos->l.lo=0/\l.at_=0/\ob=.stringIter x pos):Sim B0 w0 K h' w':=by
 have hb:h'.get b=some o':=xQ;have hn:∀j,j≠b->h'.get j=h.get j:=λj hj=>xP;have hother:∀k,k≠l.blk->w'.heap[k]?=w.heap[k]?:=λk hkk=>by rw[hw];grind
 have hsize:w'.heap.size=w.heap.size:=by rw[hw];simp
 have hat:w'.heap[l.blk]?=some ob:=by rw[hw];simp only[ou];rw[vH trivial,vH (S.dom _ _ _ hk)]
 have hbk:∀b2 g l2,b2≠b->K b2 g=some l2->l2.blk≠l.blk:=λb2 g l2 hne q=>(S.apart _ _ _ _ _ _ hk q (ow hne) hown).symm;refine⟨S.size0,S.below.trans ⟨by rw[hw],by rw[hw],by rw[hw],by rw[hsize];omega,λk hkk=>hother k (by have:=S.own _ _ _ hk hown;omega)⟩,λb2 g l2 q=>by rw[hsize];exact S.dom' b2 g l2 q,λb2 g2 l2 q=>xS,S.own,S.apart,S.same,?_,?_,?_,?_,?_,(λb2 g2 l2 q hnq=>by by_cases hx:b2=b;exact S.gen0 b2 g2 l2 q (λcs cur ro e=>by rw[hx]at e;rw[ho]at e;simp_all);exact S.gen0 b2 g2 l2 q (λcs cur ro e=>hnq cs cur ro (by rw[hn b2 hx];exact e)))⟩;intro b2 g l2 cs cur ro q1 q2 q3;have hne:b2≠b:=λe=>by rw[e,hb]at q3;simp_all
 rw[hn b2 hne]at q3;obtain⟨c,e,fz,r1,r2,r3⟩:=S.room b2 g l2 cs cur ro q1 q2 q3;have hx:=hother _ (hbk b2 g l2 hne q1);grind[World.frozen?_of_block];intro b2 cs cur ro q;have hne:b2≠b:=λe=>by rw[e,hb]at q;simp_all
 rw[hn b2 hne]at q;exact S.gens b2 cs cur ro q;intro b2 cs cur ro g l2 q1 q2 off v st q3 q4 q5;have hne:b2≠b:=λe=>by rw[e,hb]at q1;simp_all
 rw[hn b2 hne]at q1;obtain⟨v',r1,r2⟩:=S.cells b2 cs cur ro g l2 q1 q2 off v st q3 q4 q5;have hx:=hother _ (hbk b2 g l2 hne q2);grind[World.cell?_of_block];intro b2 es q;by_cases hne:b2=b;simp_all;rw[hn b2 hne]at q;obtain⟨l2,es',clock,r1,r2,r3,r4⟩:=S.map b2 es q;grind;intro b2 x pos q;by_cases hne:b2=b;simp_all;rw[hn b2 hne]at q;obtain⟨l2,r1,r2,r3,r4,r5⟩:=S.siter b2 x pos q;grind
theorem a2i:∀(x y),beqBytes x y=(x==y):=by
 intro x;induction x with
  |nil=>intro y;cases y<;>rfl|cons a x ih=>
   intro y;cases y with
    |nil=>rfl|cons b y=>
     show Bool.rec (motive:=λ_=>Bool) false (beqBytes x y) (Nat.beq a.toNat b.toNat)=_;rw[ih];by_cases h:a=b;subst h;simp;have:a.toNat≠b.toNat:=λe=>h (nk.1 e);have h2:Nat.beq a.toNat b.toNat=false:=by cases q:Nat.beq a.toNat b.toNat<;>simp_all
     rw[h2];simp[h]
theorem b8Q (x y:ByteArray):(x==y)=beqBytes x.data.toList y.data.toList:=by rw[a2i];obtain⟨⟨x⟩⟩:=x;obtain⟨⟨y⟩⟩:=y;have:(({data:=⟨x⟩}:ByteArray)=={data:=⟨y⟩})=((⟨x⟩:Array UInt8)==⟨y⟩):=rfl;rw[this];simp_all
section
variable {P:Program}{T:Tab}{B0:Nat}{w0:Base}{w:World}{K:KM}{s s':S}{a:Act}{fr:List Value}{v:Value}
theorem c7r {d k x}(hf:a8H d k=true){b}(h:a1q k x=some b):Instr.sameNow d k x=some b:=by
 cases k with
  |int k1 n1=>
   cases d with
    |int kd=>cases x with|int k2 n2=>have h':(match decide (k1=k2)with|true=>some (decide (n1=n2))|false=>none)=some b:=h;show(if k1=k2 then some (n1==n2)else none)=some b;grind|_=>cases h
    |_=>cases hf
  |string s1=>
   cases d with
    |string=>cases x with|string s2=>have h':some (beqBytes s1.data.toList s2.data.toList)=some b:=h;show some (s1==s2)=some b;rw[b8Q];exact h'|_=>cases h
    |_=>cases hf
  |bool b1=>
   cases d with
    |bool=>cases x with|bool b2=>exact h|_=>cases h
    |_=>cases hf
  |_=>cases h
theorem b4y {d k}(hf:a8H d k=true):∀(es) (es') (i) (r),a1i k es=some r->MR K es' es->∃r',Instr.findNow d k es' i=some r'/\((r=none/\r'=none/\∀e∈es,a1q k e.1=some false)\/∃j x x',r=some x/\r'=some (i+j,x')/\VR K x' x/\j<es.length/\(∀(m) e,m<j->es[m]?=some e->a1q k e.1=some false)/\∃e,es[j]?=some e/\a1q k e.1=some true):=by intro es;induction es with|nil=>intro es' i r h hm;cases h;have:es'=[]:=rH hm.len;subst this;exact⟨none,rfl,Or.inl ⟨rfl,rfl,zq⟩⟩|cons e es ih=>intro es' i r h hm;cases es' with|nil=>have:=hm.len;simp at this|cons e' es'=>obtain⟨hkey,hval⟩:=hm.key 0 e' e rfl rfl;have hmt:MR K es' es:=⟨by have:=hm.len;simp_all,λj x y q q'=>hm.key (j+1) x y zo zo⟩;have h':(match a1q k e.1 with|none=>none|some true=>some (some e.2)|some false=>a1i k es)=some r:=h;cases hs:a1q k e.1 with|none=>rw[hs]at h';cases h'|some b=>rw[hs]at h';have hn:=c7r hf hs;cases b with|true=>cases h';refine⟨some (i,e'.val),?_,Or.inr ⟨0,e.2,e'.val,rfl,rfl,hval,zq,λm x hm _=>zy,e,rfl,hs⟩⟩;grind[Instr.findNow]|false=>obtain⟨r',h1,h2⟩:=ih es' (i+1) r h' hmt;refine⟨r',by grind[Instr.findNow],?_⟩;rcases h2 with⟨e1,e2,e3⟩|⟨j,x,x',e1,e2,e3,e4,e5,e6⟩;grind;refine Or.inr ⟨j+1,x,x',e1,by rw[e2];grind,e3,zo,λm y hm hy=>?_,zo⟩;grind
theorem b2S (hT:TabOk P T){key:TypeId}{kd k}(hk:T.types.get key=some kd)(hf:a8H kd.und k=true)(empty n w):(Instr.checkKey empty (n+1) key k).run P w=.ok () w:=by unfold Instr.checkKey;simp only[vg,Y9 hT hk,wC];cases hu:kd.und<;>cases k<;>first|rfl|(rw[hu]at hf;cases hf)
theorem b0Z {x x' es s1}(h:b4d x s=some (es,s1))(S:Sim B0 w0 K s.h w)(r:VR K x' x):s1.h=s.h/\s1.c=s.c/\((x'=.map none/\es=[])\/∃b l es' clock,x=.map (some b)/\x'=.map (some l.blk)/\K b 0=some l/\l.own=true/\s.h.get b=some (.map es)/\w.heap[l.blk]?=some (.map es' clock)/\MR K es'.toList es):=by
 cases x with
  |map o=>
   cases o with
    |none=>obtain⟨rfl,rfl⟩:=q9 h;exact⟨rfl,rfl,Or.inl ⟨r.eq_of_plain rfl,rfl⟩⟩|some b=>
     have h':M.bind (rd b) (λo=>c6G o M.pure) s=some (es,s1):=h;obtain⟨ob,s2,h1,h2⟩:=C8 h';obtain⟨q1,q2,q3,q4⟩:=b0C h1;cases ob with
      |map es2=>obtain⟨rfl,rfl⟩:=q9 h2;obtain⟨l,es',clock,r1,r2,r3,r4⟩:=S.map b _ q2;refine⟨q4,q3,Or.inr ⟨b,l,es',clock,rfl,?_,r1,r2,q2,r3,r4⟩⟩;generalize hv:Value.map (some b)=z at r;cases r<;>first|rfl|grind[V.plain]
      |_=>exact absurd h2 zl
  |_=>exact absurd h zl
theorem a6F {r o}(h:w.heap[r]?=some o)(hn:∀c e f,o≠.cells c e f):(getObj r).run P w=.ok o w:=by cases o with|cells c e f=>simp_all|_=>simp only[getObj,Sem.run,h]
theorem c5y (hT:TabOk P T){t key elem:TypeId}{d kd ed:TI}{X Y:Value}{ok:Bool}{es':Array MapEntry}{r':Option (Nat×Value)}(hd:T.types.get t=some d)(hu:d.und=.map key elem)(hk:T.types.get key=some kd)(he:T.types.get elem=some ed)(hfit:a8H kd.und Y=true)(hx:(X=.map none/\es'=#[])\/∃r clock,X=.map (some r)/\w.heap[r]?=some (.map es' clock)) (hn:Instr.findNow kd.und Y es'.toList 0=some r'):(Instr.lookup t X Y ok).run P w=.ok (b1m ok (match r' with|some x=>x.2|none=>ed.zero) r'.isSome) w:=by
 have hfk:(Instr.findKey key Y es'.toList).run P w=.ok r' w:=wh;have hck:=b2S (P:=P) hT hk hfit es'.isEmpty 9999 w;unfold Instr.lookup;simp only[vg,Y9 hT hd,hu,wC];rcases hx with⟨rfl,rfl⟩|⟨r,clock,rfl,hr⟩;simp only[vg,vK,wC,hck,hfk];cases r' with|none=>simp only[vg,b0q hT he,vK,wC];cases ok<;>rfl|some x=>simp only[];cases ok<;>rfl
 simp only[vg,a6F hr zn,vK,wC,hck,hfk];cases r' with|none=>simp only[vg,b0q hT he,vK,wC];cases ok<;>rfl|some x=>simp only[];cases ok<;>rfl
theorem VR.withOk {z' z:Value}(ok b:Bool)(q:VR K z' z):VR K (b1m ok z' b) (b1m ok z b):=by cases ok with|true=>exact .tuple rfl (by intro i x' x e e';match i with|0=>simp_all|1=>simp at e e';subst e e';exact .plain rfl|i+2=>simp at e)|false=>exact q
theorem b2J {d k}(h:a8H d k=true):plain k=true:=by cases d<;>cases k<;>first|rfl|cases h
theorem d0O (hT:TabOk P T){t x y ok}(h:a7k T fr t x y ok s=some (v,s'))(S:Sim B0 w0 K s.h w)(hf:VRL K a.tmps.toList fr)(hg:GK T K):R7 P B0 w0 K s' (do pure (Next.value (<-Instr.lookup t (a.eval x) (a.eval y) ok))) w v:=by
 obtain⟨vx,e1,h1⟩:=a0b h;obtain⟨vy,e2,h2⟩:=a0b h1;obtain⟨d,hd,h3⟩:=X0 h2;generalize hu:d.und=u at h3;cases u with
  |map key elem=>
   obtain⟨kd,hk,h4⟩:=X0 h3;obtain⟨ed,he,h5⟩:=X0 h4;obtain⟨hfit,h6⟩:=G9 h5;obtain⟨es,s1,h7,h8⟩:=C8 h6;obtain⟨o,ho,h9⟩:=G5 h8;have ey:a.eval y=vy:=(O6 hf hg e2).eq_of_plain (b2J hfit);obtain⟨c1,c2,c3⟩:=b0Z h7 S (O6 hf hg e1);obtain⟨es',m1,m2⟩:∃es':Array MapEntry,MR K es'.toList es/\((a.eval x=.map none/\es'=#[])\/∃r clock,a.eval x=.map (some r)/\w.heap[r]?=some (.map es' clock)):=by rcases c3 with⟨q1,rfl⟩|⟨b,l,es',clock,_,q2,q3,q4,q5,q6,q7⟩;exact⟨#[],⟨rfl,λi e' e q=>by simp at q⟩,Or.inl ⟨q1,rfl⟩⟩;simp_all
   obtain⟨r',n1,n2⟩:=b4y (K:=K) hfit es es'.toList 0 o ho m1;have hrun:=c5y (ok:=ok) (X:=a.eval x) (Y:=a.eval y) hT hd hu hk he (by rw[ey];exact hfit) m2 (by rw[ey];exact n1);cases o with|some z=>obtain⟨rfl,rfl⟩:=q9 h9;rcases n2 with⟨q,_⟩|⟨j,z1,z1',q1,q2,q3,_⟩;cases q;cases q1;subst q2;exact R7.quiet S c1 hrun (q3.withOk ok true)|none=>obtain⟨hz,h10⟩:=G9 h9;obtain⟨rfl,rfl⟩:=q9 h10;rcases n2 with⟨_,q2,_⟩|⟨j,z1,z1',q1,_⟩;subst q2;exact R7.quiet S c1 hrun ((a0Y (K:=K) _ _ hz).withOk ok false);cases q1
  |_=>exact absurd h3 zl
end
end Go.V
end
section
namespace Go.V
open Go.RowKit (Below)
theorem b8A (k v):∀(es),(∀e∈es,a1q k e.1=some false)->a5n k v es=es++[(k,v)]|[],_=>rfl|e::es,h=>by have h1:=h e (um ..);show(match a1q k e.1 with|some true=>(k,v)::es|_=>e::a5n k v es)=_;rw[h1,b8A k v es (λx hx=>h x (vI _ hx))];rfl
theorem b5T (k v):∀(es) (j),(∀(m) e,m<j->es[m]?=some e->a1q k e.1=some false)->(∃e,es[j]?=some e/\a1q k e.1=some true)->a5n k v es=es.set j (k,v)|[],j,_,⟨e,h,_⟩=>by simp at h|e::es,0,_,⟨e',h,h2⟩=>by grind[a5n]|e::es,j+1,h,⟨e',h1,h2⟩=>by have h0:=h 0 e zy rfl;show(match a1q k e.1 with|some true=>(k,v)::es|_=>e::a5n k v es)=_;rw[h0];show e::a5n k v es=_;rw[b5T k v es j (λm x hm hx=>h (m+1) x zy zo) ⟨e',zo,h2⟩];rfl
theorem c0m {k x}(h:a1q k x=some true):k=x/\∀n,Instr.sameBits n x k=true:=by
 cases k with
  |int k1 n1=>cases x with|int k2 n2=>have h':(match decide (k1=k2)with|true=>some (decide (n1=n2))|false=>none)=some true:=h;by_cases hk:k1=k2;rw[wL hk]at h';have:n1=n2:=zo;subst hk this;exact⟨rfl,λn=>by cases n<;>simp[Instr.sameBits]⟩;simp_all|_=>cases h
  |string s1=>
   cases x with
    |string s2=>
     have h':some (beqBytes s1.data.toList s2.data.toList)=some true:=h;rw[a2i]at h';have:s1=s2:=by have:s1.data.toList=s2.data.toList:=zo;cases s1;simp_all
     subst this;refine⟨rfl,λn=>?_⟩;have hb:(s1==s1)=true:=by rw[b8Q,a2i];simp
     cases n<;>simp[Instr.sameBits,hb]|_=>cases h
  |bool b1=>cases x with|bool b2=>have h':some (b1==b2)=some true:=h;have:b1=b2:=zo;subst this;exact⟨rfl,λn=>by cases n<;>simp[Instr.sameBits]⟩|_=>cases h
  |_=>cases h
section
variable {P:Program}{T:Tab}{B0:Nat}{w0:Base}{w:World}{K:KM}{s s':S}{a:Act}{fr:List Value}{v:Value}
theorem b1R {r o o'}(h:w.heap[r]?=some o)(hn:∀c e f,o≠.cells c e f):(setObj r o').run P w=.ok () {w with heap:=w.heap.setIfInBounds r o'}:=by cases o with|cells c e f=>simp_all|_=>simp only[setObj,Sem.run,h]
theorem c5O (hT:TabOk P T){t m k x m' k' x' un}(h:a7L T t m k x s=some (un,s'))(S:Sim B0 w0 K s.h w)(rm:VR K m' m)(rk:VR K k' k)(rx:VR K x' x):∃w',(Instr.mapUpdate t m' k' x').run P w=.ok () w'/\Sim B0 w0 K s'.h w'/\s'.c=s.c:=by
 obtain⟨d,hd,h1⟩:=X0 h;generalize hu:d.und=u at h1;cases u with
  |map key elem=>
   cases m with
    |map o=>
     obtain⟨r,rfl,h2⟩:=G5 h1;obtain⟨kd,hk,h3⟩:=X0 h2;obtain⟨hfit,h4⟩:=G9 h3;obtain⟨es,s1,h5,h6⟩:=C8 h4;obtain⟨fo,ho,h7⟩:=G5 h6;rw[Z6]at h7;have ek:k'=k:=rk.eq_of_plain (b2J hfit);subst ek;obtain⟨c1,c2,c3⟩:=b0Z (x:=.map (some r)) h5 S rm;rcases c3 with⟨q1,_⟩|⟨b,l,es',clock,q0,q2,q3,q4,q5,q6,q7⟩;exfalso;subst q1;generalize hv:Value.map (some r)=z at rm;cases rm<;>simp_all;cases q0;subst q2;obtain⟨w1,w2,w3⟩:=b6M h7;obtain⟨r',n1,n2⟩:=b4y (K:=K) hfit es es'.toList 0 fo ho q7;have hfk:(Instr.findKey key k' es'.toList).run P w=.ok r' w:=wh;have hck:=b2S (P:=P) hT hk hfit false 9999 w;have hget:∀j,s'.h.get j=if j=r then some (.map (a5n k' x es))else s.h.get j:=zn;rcases n2 with⟨_,rfl,hall⟩|⟨j,z,z',_,rfl,hz,hj,hbefore,e,he,hsame⟩;refine⟨{w with heap:=w.heap.setIfInBounds l.blk (.map (es'.push {key:=k',val:=x',born:=clock}) (clock+1))},?_,?_,by rw[w2,c2]⟩;unfold Instr.mapUpdate;simp only[vg,Y9 hT hd,hu,wC,a6F q6 zn,hck,hfk,b1R q6 zn];refine b2h S q3 q4 q5 zn zn hget rfl (λes2 q=>?_) (λx pos q=>ze);cases q;refine⟨_,_,rfl,?_⟩;rw[b8A k' x es hall];refine⟨by simp[q7.len],λi e' e p1 p2=>?_⟩;have hlen:es'.toList.length=es.length:=q7.len;simp only[Array.toList_push]at p1;by_cases hi:i<es.length;rw[vF (by rw[hlen];exact hi)]at p1;rw[vF hi]at p2;exact q7.key i e' e p1 p2;grind;obtain⟨hkeq,hbits⟩:=c0m hsame;have hlen:es'.toList.length=es.length:=q7.len;have hj':j<es'.size:=by rw[<-uV,hlen];exact hj
     obtain⟨e0,he0⟩:∃e0,es'.toList[j]?=some e0:=⟨es'.toList[j]' zy,wO zy⟩;have hek:=(q7.key j e0 e he0 he).1;refine⟨{w with heap:=w.heap.setIfInBounds l.blk (.map (es'.modify j λe=>{e with key:=k',val:=x'}) clock)},?_,?_,by rw[w2,c2]⟩;unfold Instr.mapUpdate;rw[vV]at hfk;have hstay:(Instr.keyThatStays (((es'[j]?).map (·.key)).getD k') k').run P w=.ok k' w:=by have:es'[j]?=some e0:=zo;rw[this];simp_all[Instr.keyThatStays]
     simp only[vg,Y9 hT hd,hu,wC,a6F q6 zn,hck,hfk,hstay,b1R q6 zn];refine b2h S q3 q4 q5 zn zn hget rfl (λes2 q=>?_) (λx pos q=>ze);cases q;refine⟨_,_,rfl,?_⟩;rw[b5T k' x es j hbefore ⟨e,he,hsame⟩];refine⟨by simp[hlen],λi e' e2 p1 p2=>?_⟩;have p1':(es'.modify j λe=>{e with key:=k',val:=x'})[i]?=some e':=by rw[<-qA];exact p1
     rw[rF]at p1';rw[qQ]at p2;by_cases hij:j=i;grind;rw[vN hij]at p1' p2;exact q7.key i e' e2 zo p2|_=>exact absurd h1 zl
  |_=>exact absurd h1 zl
theorem b8M (hT:TabOk P T){t m k x}(h:a3L T fr t m k x s=some (v,s'))(S:Sim B0 w0 K s.h w)(hf:VRL K a.tmps.toList fr)(hg:GK T K):R7 P B0 w0 K s' (do Instr.mapUpdate t (a.eval m) (a.eval k) (a.eval x);pure Next.skip) w v:=by obtain⟨vm,e1,h1⟩:=a0b h;obtain⟨vk,e2,h2⟩:=a0b h1;obtain⟨vx,e3,h3⟩:=a0b h2;obtain⟨un,s1,h4,h5⟩:=C8 h3;obtain⟨rfl,rfl⟩:=q9 h5;obtain⟨w',r1,r2,r3⟩:=c5O (P:=P) hT h4 S (O6 hf hg e1) (O6 hf hg e2) (O6 hf hg e3);exact⟨.skip,w',K,by simp[r1],⟨KM.le_refl K,λ_ _ _=>rfl,r2⟩,Or.inr ⟨rfl,rfl⟩⟩
theorem b7A {o b s1 ob}(h:new o s=some (b,s1))(S:Sim B0 w0 K s.h w)(F:a0B K s s1)(hn:∀cs cur ro,o≠.cells cs cur ro)(hmap:∀es,o=.map es->∃es' clock,ob=.map es' clock/\MR K es'.toList es)(hiter:∀x pos,o=.siter x pos->ob=.stringIter x pos):∃K',Step B0 w0 K s1 (w.alloc ob) K'/\K' s.c 0=some ⟨w.heap.size,0,0,0,true⟩/\b=s.c:=by rw[b2R]at h;cases h;have hK:∀g,K s.c g=none:=S.none (F s.c (wQ _) zn);have hblk:(w.alloc ob).heap[w.heap.size]?=some ob:=yZ;refine⟨K.put s.c 0 ⟨w.heap.size,0,0,0,true⟩,⟨KM.le_put K _ (hK 0),λi g hi=>KM.put_other K _ (λq=>by have hi:s.c+1<=i:=hi;omega),?_⟩,KM.put_same _ _ _ _,rfl⟩;refine b7a (o:=o) (a6q S (Grew.alloc _ _)) hK (λj=>Trie.get_put _ _ _ _ (wE _) j) zn S.base rfl (λb g l q=>by have:=S.dom b g l q;grind) (λcs cur ro q=>absurd q (hn _ _ _)) (λes q=>?_) (λx pos q=>⟨rfl,rfl,?_⟩);simp_all;simp_all
theorem e1p (hT:TabOk P T){t r}(h:b2l T fr t r s=some (v,s'))(S:Sim B0 w0 K s.h w)(F:a0B K s s')(hf:VRL K a.tmps.toList fr)(hg:GK T K):R7 P B0 w0 K s' (do pure (Next.value (<-Instr.makeMap t (r.map a.eval)))) w v:=by
 have hmr:∀es,VObj.map []=.map es->∃es' clock,Obj.map #[] 0=.map es' clock/\MR K es'.toList es:=by intro es q;cases q;exact⟨#[],0,rfl,⟨rfl,λi e' e q=>by simp at q⟩⟩
 cases r with
  |none=>have h':M.bind (new (.map [])) (λb=>M.pure (.map (some b))) s=some (v,s'):=h;obtain⟨b,s1,h1,h2⟩:=C8 h';obtain⟨rfl,rfl⟩:=q9 h2;obtain⟨K',k1,k2,rfl⟩:=b7A (ob:=.map #[] 0) h1 S F zn hmr zn;refine R7.step (v':=.map (some w.heap.size)) (w':=w.alloc (.map #[] 0)) ?_ k1 (VR.map k2);rfl|some x=>
   have h':ev T fr x (λv=>ti T t λd=>M.guard (c2j d.und&&b5G v)<|M.bind (new (.map [])) λb=>M.pure (.map (some b))) s=some (v,s'):=h;obtain⟨vx,e1,h1⟩:=a0b h';obtain⟨d,hd,h2⟩:=X0 h1;obtain⟨hgd,h3⟩:=G9 h2;obtain⟨b,s1,h4,h5⟩:=C8 h3;obtain⟨rfl,rfl⟩:=q9 h5;simp only[wK]at hgd;obtain⟨K',k1,k2,rfl⟩:=b7A (ob:=.map #[] 0) h4 S F zn hmr zn;refine R7.step (v':=.map (some w.heap.size)) (w':=w.alloc (.map #[] 0)) ?_ k1 (VR.map k2);cases vx with
    |int kk n=>have ex:a.eval x=.int kk n:=(O6 hf hg e1).eq_of_plain rfl;cases hu:d.und with|map k1 k2=>simp[Instr.makeMap,ex,Y9 hT hd,hu,asInt,asIntOf]|_=>rw[hu]at hgd;cases hgd.1
    |_=>cases hgd.2
theorem d3B (hT:TabOk P T){t x}(h:a8A T fr t x s=some (v,s'))(S:Sim B0 w0 K s.h w)(F:a0B K s s')(hf:VRL K a.tmps.toList fr)(hg:GK T K):R7 P B0 w0 K s' (do pure (Next.value (<-Instr.range t (a.eval x)))) w v:=by
 obtain⟨vx,e1,h1⟩:=a0b h;obtain⟨d,hd,h2⟩:=X0 h1;generalize hu:d.und=u at h2;cases u with
  |string=>cases vx with|string b=>obtain⟨n,s1,h3,h4⟩:=C8 h2;obtain⟨rfl,rfl⟩:=q9 h4;have ex:a.eval x=.string b:=(O6 hf hg e1).eq_of_plain rfl;obtain⟨K',k1,k2,rfl⟩:=b7A (ob:=.stringIter b 0) h3 S F zn zn zn;refine R7.step (v':=.pointer (some ⟨w.heap.size,0,none⟩)) (w':=w.alloc (.stringIter b 0)) ?_ k1 (VR.ptr (off:=0) k2 (vC _));simp[Instr.range,Y9 hT hd,hu,ex]|_=>exact absurd h2 zl
  |_=>exact absurd h2 zl
theorem d5U {x str ty}(h:b0d T fr x str s=some (v,s'))(S:Sim B0 w0 K s.h w)(hf:VRL K a.tmps.toList fr)(hg:GK T K):R7 P B0 w0 K s' (do pure (Next.value (<-Instr.next (a.eval x) str ty))) w v:=by
 obtain⟨rfl,h1⟩:=G9 h;obtain⟨vx,e1,h2⟩:=a0b h1;obtain⟨ad,rfl,h3⟩:=a2U h2;obtain⟨h0,h4⟩:=G9 h3;obtain⟨o,s1,h5,h6⟩:=C8 h4;obtain⟨q1,q2,q3,q4⟩:=b0C h5;simp only[wK]at h0;have h00:=wR h0.1;cases o with
  |siter b pos=>
   obtain⟨l,r1,r2,r3,r4,r5⟩:=S.siter _ b pos q2;obtain⟨ad',e2,r⟩:=a9k (O6 hf hg e1);obtain⟨g,l',f1,f2,f3,rfl⟩:=a8D r;have hg0:g=0:=by have:=h0.2;rw[f1]at this;exact wR this
   subst hg0;rw[r1]at f2;cases f2;have ead:(⟨l.blk,l.at_+(ad.off-l.lo),none⟩:Addr)=⟨l.blk,0,none⟩:=by rw[r3,r4,h00]
   rw[ead]at e2;have h6':b3T ad.block b pos s1=some (v,s'):=h6;unfold b3T at h6';have hsz:x8 b.data.toList=b.size:=by rw[F9];rfl
   rw[hsz]at h6';cases hlt:Nat.blt pos b.size with
    |true=>rw[hlt]at h6';simp only[a2F]at h6';obtain⟨un,s2,h7,h8⟩:=C8 h6';obtain⟨rfl,rfl⟩:=q9 h8;obtain⟨_,w2,w3⟩:=b6M h7;have hlt':pos<b.size:=zn;refine R7.step (v':=.tuple #[.bool true,goInt pos,.int .i32 (Utf8.decode b pos).1]) (w':={w with heap:=w.heap.setIfInBounds l.blk (.stringIter b (pos+(Utf8.decode b pos).2))}) (K':=K) ?_ ⟨KM.le_refl K,λ_ _ _=>rfl,?_⟩ (a0Y 3 _ rfl);rw[e2];simp_all[Instr.next,a6F,b1R];refine b2h (o:=.siter b pos) (o':=.siter b (pos+(Utf8.decode b pos).2)) S r1 r2 q2 zn zn (λj=>by rw[w3 j,q4]) rfl (λes q=>ze) (λx p q=>zo)|false=>
     rw[hlt]at h6';obtain⟨rfl,rfl⟩:=q9 h6';have hlt':¬pos<b.size:=by grind[Nat.blt_eq]
     refine R7.quiet S q4 (v':=.tuple #[.bool false]) ?_ (a0Y 3 _ rfl);rw[e2];unfold Instr.next;simp only[vg,a6F r5 zn,wC,hlt',tO,vK]
  |_=>exact absurd h6 zl
end
end Go.V
end
section
namespace Go.V
open Go.RowKit (Below)
theorem b2w (k:IntKind)(M H)(hM:(2^k.bits:Int)=M)(hH:(2^(k.bits-1):Int)=H)(hs:k.signed=true)(hMH:M=2*H)(m:Nat)(h:(m:Int)<H):k.wrap (-((m:Int)+1))=-((m:Int)+1):=by
 unfold IntKind.wrap;rw[hM,hH,hs];have e:(-((m:Int)+1))%M=-((m:Int)+1)+M:=by rw[<-Int.add_emod_right];exact Int.emod_eq_of_lt zy zy
 rw[e];grind
theorem a4u (k n):Q0 k n=k.wrap n:=by
 cases n with
  |ofNat m=>show(match Nat.blt m (a3p k)with|true=>Int.ofNat m|false=>k.wrap (.ofNat m))=_;cases h:Nat.blt m (a3p k)with|false=>rfl|true=>have hm:m<a3p k:=zn;show Int.ofNat m=k.wrap (Int.ofNat m);simp only[vz];cases k<;>simp only[a3p]at hm<;>simp only[IntKind.wrap,IntKind.bits,IntKind.signed,Int.reducePow,Nat.reduceSub,uL,uU,vZ,ge_iff_le,uo,tO]<;>(try split)<;>omega
  |negSucc m=>show(match k.signed&&Nat.blt m (a3p k)with|true=>Int.negSucc m|false=>k.wrap (.negSucc m))=_;cases h:k.signed&&Nat.blt m (a3p k)with|false=>rfl|true=>simp only[wK]at h;have hm:m<a3p k:=zn;have hs:=h.1;show Int.negSucc m=k.wrap (Int.negSucc m);rw[Int.negSucc_eq];symm;cases k with|i8=>exact b2w .i8 256 128 rfl rfl rfl rfl m (by have hm:m<128:=hm;omega)|i16=>exact b2w .i16 65536 32768 rfl rfl rfl rfl m (by have hm:m<32768:=hm;omega)|i32=>exact b2w .i32 4294967296 2147483648 rfl rfl rfl rfl m (by have hm:m<2147483648:=hm;omega)|i64=>exact b2w .i64 18446744073709551616 9223372036854775808 rfl rfl rfl rfl m (by have hm:m<9223372036854775808:=hm;omega)|_=>cases hs
theorem a7J:∀(x y),a7v x y=Op.bytesLess x y:=by
 intro x;induction x with
  |nil=>intro y;cases y<;>rfl|cons a x ih=>
   intro y;cases y with
    |nil=>rfl|cons b y=>
     show(match Nat.blt a.toNat b.toNat with|true=>true|false=>match Nat.beq a.toNat b.toNat with|true=>a7v x y|false=>false)=(decide (a<b)||(a==b&&Op.bytesLess x y));rw[ih];by_cases h:a<b;have:Nat.blt a.toNat b.toNat=true:=by rw[uh];exact UInt8.lt_iff_toNat_lt.1 h
     rw[this];simp[h];have h1:Nat.blt a.toNat b.toNat=false:=by cases q:Nat.blt a.toNat b.toNat<;>first|rfl|grind[Nat.blt_eq,UInt8.lt_iff_toNat_lt]
     rw[h1];by_cases h2:a=b;subst h2;simp;grind[UInt8.toNat_inj,Nat.eq_of_beq_eq_true]
section
variable {P:Program}{T:Tab}{B0:Nat}{w0:Base}{w:World}{K:KM}{s s':S}{a:Act}{fr:List Value}{v:Value}
theorem c8n {op k n m}(h:b4q op k n m=some v)(t w):(binOp op t (.int k n) (.int k m)).run P w=.ok v w:=by cases op<;>first|(cases h;done)|(cases h;simp[binOp,Op.intArith,Op.intCmp,a4u];done)|(cases h;simp[binOp,Op.intCmp];rfl)
theorem a4E {k k'}(h:a0C k k'=true):k=k':=by cases k<;>cases k'<;>first|rfl|cases h
theorem c2r (k m):b0N k m=min m k.bits:=by grind[b0N,Nat.le_of_ble_eq_true,Nat.ble_eq_true_of_le]
theorem c0I {op k k' n m}(h:a5h op k n m=some v)(t w):(binOp op t (.int k (.ofNat n)) (.int k' (.ofNat m))).run P w=.ok v w:=by
 have hneg:¬(Int.ofNat m<0):=zq;have htn:(Int.ofNat m).toNat=m:=rfl;cases op with
  |shl=>cases h;show(Op.shift .shl k (.ofNat n) k' (.ofNat m)).run P w=_;simp_all[Op.shift,vN,a4u,c2r]|shr=>
   cases h;show(Op.shift .shr k (.ofNat n) k' (.ofNat m)).run P w=_;unfold Op.shift;rw[vN hneg];simp only[htn,vK,c2r];have:(Int.ofNat n).fdiv (2^min m k.bits)=Int.ofNat (Nat.div n (Nat.pow 2 (min m k.bits))):=by
    show((n:Int)).fdiv (2^min m k.bits)=((n/2^min m k.bits:Nat):Int);have:(2^min m k.bits:Int)=((2^min m k.bits:Nat):Int):=by rfl
    rw[this];grind
   rw[this]|_=>cases h
theorem c9l {op k n m}(h:b9z op k n m=some v)(t w):(binOp op t (.int k (.ofNat n)) (.int k (.ofNat m))).run P w=.ok v w:=by
 have hbv:∀n:Nat,(BitVec.ofInt k.bits (Int.ofNat n)).toNat=n%2^k.bits:=λn=>by rfl
 cases op with
  |quo=>cases m with|zero=>cases h|succ m=>cases h;show(if k≠k then _ else Op.intDiv .quo k (.ofNat n) (.ofNat (m+1))).run P w=_;rw[vN zq];unfold Op.intDiv;rw[vN (show¬Int.ofNat (m+1)=0 fromλq=>ze)];simp only[vK,a4u];rfl
  |rem=>cases m with|zero=>cases h|succ m=>cases h;show(if k≠k then _ else Op.intDiv .rem k (.ofNat n) (.ofNat (m+1))).run P w=_;rw[vN zq];rfl
  |and=>cases h;show(if k≠k then _ else Op.intBits .and k (.ofNat n) (.ofNat m)).run P w=_;rw[vN zq];unfold Op.intBits;simp only[vK,a4u,BitVec.toNat_and,hbv];rfl|or=>cases h;show(if k≠k then _ else Op.intBits .or k (.ofNat n) (.ofNat m)).run P w=_;rw[vN zq];unfold Op.intBits;simp only[vK,a4u,BitVec.toNat_or,hbv];rfl|xor=>cases h;show(if k≠k then _ else Op.intBits .xor k (.ofNat n) (.ofNat m)).run P w=_;rw[vN zq];unfold Op.intBits;simp only[vK,a4u,BitVec.toNat_xor,hbv];rfl|_=>cases h
theorem b5L {f a b}(h:a6d f a b=some v):∃n m,a=.ofNat n/\b=.ofNat m/\f n m=some v:=by unfold a6d at h;cases a with|ofNat n=>cases b<;>grind|negSucc n=>cases h
theorem b6G {op k k' n m}(h:a3k op k k' n m=some v)(t w):(binOp op t (.int k n) (.int k' m)).run P w=.ok v w/\plain v=true:=by
 have pl:∀{o:BinOp} {a b:Nat} {u:Value},a5h o k a b=some u->plain u=true:=λ{o a b u} q=>by cases o<;>first|(cases q;rfl)|cases q
 have pl2:∀{o:BinOp} {a b:Nat} {u:Value},b9z o k a b=some u->plain u=true:=λ{o a b u} q=>by
  cases o with
   |quo=>cases b with|zero=>cases q|succ b=>cases q;rfl
   |rem=>cases b with|zero=>cases q|succ b=>cases q;rfl
   |and=>cases q;rfl|or=>cases q;rfl|xor=>cases q;rfl|_=>cases q
 have pl3:∀{o:BinOp} {a b:Int} {u:Value},b4q o k a b=some u->plain u=true:=λ{o a b u} q=>by cases o<;>first|(cases q;rfl)|cases q
 unfold a3k at h;cases h1:a6d (a5h op k) n m with|some u=>rw[h1]at h;cases h;obtain⟨a,b,rfl,rfl,q⟩:=b5L h1;grind[c0I]|none=>rw[h1]at h;simp only at h;cases hk:a0C k k' with|false=>rw[hk]at h;cases h|true=>rw[hk]at h;have:=a4E hk;subst this;simp only at h;cases h2:b4q op k n m with|some u=>rw[h2]at h;grind[c8n]|none=>rw[h2]at h;simp only at h;obtain⟨a,b,rfl,rfl,q⟩:=b5L h;grind[c9l]
theorem c3M {op t x y k k' n m}(w):(eqGuard op t x y (.int k n) (.int k' m)).run P w=.ok () w:=by simp_all[eqGuard]
theorem c3m {op t x y p q}(w):(eqGuard op t x y (.string p) (.string q)).run P w=.ok () w:=by simp_all[eqGuard]
theorem d0l {op x y}(h:b3U op x.data.toList y.data.toList=some v)(t w):(binOp op t (.string x) (.string y)).run P w=.ok v w:=by
 have hx:x.toList=x.data.toList:=ByteArray.toList_eq x;have hy:y.toList=y.data.toList:=ByteArray.toList_eq y;cases op with
  |add=>
   have h':(match Nat.blt (x8 x.data.toList+x8 y.data.toList) a3W with|true=>fList (D7 x.data.toList y.data.toList) λl=>some (Value.string ⟨⟨l⟩⟩)|false=>none)=some v:=h;rw[Z6]at h';split at h';rename_i hb;cases h';have hb:x.size+y.size<4294967296:=by have:x8 x.data.toList+x8 y.data.toList<a3W:=zn;rw[F9,F9]at this;exact this
   have hm:¬(((x.size+y.size:Nat):Int)>IntKind.i64.max):=by have:IntKind.i64.max=9223372036854775807:=rfl;rw[this];omega
   show(Op.stringOp .add x y).run P w=_;unfold Op.stringOp;simp only[vN hm,vK];congr 2;rw[D9];have:(x++y).data=x.data++y.data:=zq;rfl;cases h'|eql=>cases h;show(Op.stringOp .eql x y).run P w=_;simp[Op.stringOp,hx,hy,a2i]|neq=>cases h;show(Op.stringOp .neq x y).run P w=_;simp[Op.stringOp,hx,hy,a2i]|lss=>cases h;show(Op.stringOp .lss x y).run P w=_;simp[Op.stringOp,hx,hy,a7J]|leq=>cases h;show(Op.stringOp .leq x y).run P w=_;simp[Op.stringOp,hx,hy,a7J,a2i]|gtr=>cases h;show(Op.stringOp .gtr x y).run P w=_;simp[Op.stringOp,hx,hy,a7J,a2i]|geq=>cases h;show(Op.stringOp .geq x y).run P w=_;simp[Op.stringOp,hx,hy,a7J]|_=>cases h
end
end Go.V
end
