import Derived.Test.YtmomonnlmbljoaaGreatDoorGab
set_option maxRecDepth 1000000
set_option maxHeartbeats 4000000
set_option linter.unusedVariables false
set_option linter.unusedSimpArgs false
section
namespace Go.V
open Go.RowKit (Below)
section
variable {P:Program}{T:Tab}{B0:Nat}{w0:Base}{w:World}{K:KM}{s s':S}{a:Act}{fr:List Value}{v:Value}
theorem b3d {x n y}(h:a7O x=some n)(hn:n<=y)(code w):(Instr.sliceBound x y code).run P w=.ok n w:=by obtain⟨k,rfl⟩:=a7w h;simp[Instr.sliceBound,asIntOf,hn]
theorem a9C {lo hi l hh len cap}(isS)(h1:a2U 0 lo=some l)(h2:a2U len hi=some hh)(hl:l<=hh)(hle:hh<=len)(hc:len<=cap)(w):(Instr.sliceBounds isS len cap lo hi none).run P w=.ok (l,hh,cap) w:=by
 unfold Instr.sliceBounds;simp only[wQ,wI,wV];cases hi with
  |none=>cases h2;simp only[wQ,wI,wV];cases lo with|none=>cases h1;rfl|some x=>simp only[wQ,b3d h1 hl,wV,wI]
  |some y=>simp only[wQ,b3d h2 (wL hle hc),wV];cases lo with|none=>cases h1;rfl|some x=>simp only[wQ,b3d h1 hl,wV,wI]
theorem c4X {o vs}(hf:VRL K a.tmps.toList fr)(hg:GK T K)(h:a0P T fr o.toList=some vs):(o=none/\a0r vs 0=none)\/∃x y,o=some x/\a0r vs 0=some y/\VR K (a.eval x) y:=by cases o with|none=>cases h;exact Or.inl ⟨rfl,rfl⟩|some x=>have h':(match Y0 T fr x with|none=>none|some v=>some [v])=some vs:=h;split at h';cases h';rename_i y hy;cases h';exact Or.inr ⟨x,y,rfl,rfl,O7 hf hg hy⟩
theorem a4o {o:Option Operand}{vs d n}(hf:VRL K a.tmps.toList fr)(hg:GK T K)(h:a0P T fr o.toList=some vs)(hn:a2U d (a0r vs 0)=some n):a2U d (o.map a.eval)=some n:=by rcases c4X hf hg h with⟨rfl,e⟩|⟨x,y,rfl,e,r⟩;rw[e]at hn;exact hn;rw[e]at hn;obtain⟨k,rfl⟩:=a7w hn;have:=r.eq_of_plain rfl;simp_all
theorem c5o {ad len elem lo hi}(h:cut T ad len elem lo hi s=some (v,s')):∃e l hh,T.types.get elem=some e/\a2U 0 lo=some l/\a2U len hi=some hh/\l<=hh/\hh<=len/\e.size≠0/\v=.slice (some (fwd ad (l*e.size))) (hh-l) e.size/\s'=s:=by obtain⟨e,he,h1⟩:=X9 h;obtain⟨l,hl,h2⟩:=H9 h1;obtain⟨hh,hhh,h3⟩:=H9 h2;obtain⟨hgd,h4⟩:=I4 h3;obtain⟨rfl,rfl⟩:=y8 h4;simp only[wh]at hgd;exact⟨e,l,hh,he,hl,hhh,wJ hgd.1.1,wJ hgd.1.2,b6D hgd.2,rfl,rfl⟩
theorem b7e (x:ByteArray)(l h):x.extract l h=⟨⟨(x.data.toList.drop l).take (h-l)⟩⟩:=by have:=Lib.extract_data x l h;cases e:x.extract l h with|mk d=>rw[e]at this;congr 1;grind
theorem d2l (hT:TabOk P T){t x lo hi mx}(h:a8s T fr t x lo hi mx s=some (v,s'))(S:Sim B0 w0 K s.h w)(hf:VRL K a.tmps.toList fr)(hg:GK T K):S9 P B0 w0 K s' (do pure (Next.value (<-Instr.sliceAt t (a.eval x) (lo.map a.eval) (hi.map a.eval) (mx.map a.eval)))) w v:=by
 obtain⟨vlo,e1,h1⟩:=a6C h;obtain⟨vhi,e2,h2⟩:=a6C h1;obtain⟨vmx,e3,h3⟩:=a6C h2;obtain⟨vx,e4,h4⟩:=a0j h3;obtain⟨d,hd,h5⟩:=X9 h4;obtain⟨hgd,h6⟩:=I4 h5;have hmx:mx.map a.eval=none:=by rcases c4X hf hg e3 with⟨rfl,_⟩|⟨y,z,rfl,q,_⟩;rfl;simp_all
 rw[hmx];have rx:=O7 hf hg e4;generalize hu:d.und=u at h6;cases u with
  |string=>cases vx with|string b=>obtain⟨l,hl,h7⟩:=H9 h6;obtain⟨hh,hhh,h8⟩:=H9 h7;obtain⟨hg2,h9⟩:=I4 h8;rw[a0g]at h9;obtain⟨rfl,rfl⟩:=y8 h9;simp only[wh,J2,vF]at hg2 hhh;have q1:=wJ hg2.1;have q2:hh<=b.size:=wJ hg2.2;have ex:=rx.eq_of_plain rfl;refine S9.quiet S rfl (v':=.string (b.extract l hh)) ?_ ?_;rw[ex];have hb:=a9C (P:=P) false (a4o hf hg e1 hl) (a4o hf hg e2 hhh) q1 q2 (xD b.size) w;have hb':(Instr.sliceBounds false b.size b.size (lo.map a.eval) (hi.map a.eval) none).run P w=.ok (l,hh,b.size) w:=hb;simp[Instr.sliceAt,Instr.slice,Z7 hT hd,hu,hb'];rw[b7e,a3F,a0O];exact .plain rfl|_=>exact absurd h6 zk
  |slice elem=>
   cases vx with
    |slice o len es=>
     obtain⟨e0,he0,h7⟩:=X9 h6;cases o with
      |some ad=>
       obtain⟨hes,h8⟩:=I4 h7;obtain⟨e,l,hh,he,hl,hhh,q1,q2,q3,rfl,rfl⟩:=c5o h8;rw[he0]at he;cases he;have hes:=wo hes;subst hes;rcases a3Q rx with⟨ad1,ad',cap,p1,p2,p3,p4,p5,p6,p7⟩|⟨p1,_⟩;cases p1;have hb:=a9C (P:=P) true (a4o hf hg e1 hl) (a4o hf hg e2 hhh) q1 q2 p3 w;have hrun:(Instr.sliceAt t (a.eval x) (lo.map a.eval) (hi.map a.eval) none).run P w=.ok (.slice (if cap=l then some ad' else some (ad'.add (l*e0.size))) (hh-l) (cap-l)) w:=by rw[p2];simp only[Instr.sliceAt,Instr.slice,wQ,Z7 hT hd,hu,wV,hb,a0V hT he0,wI];simp
       by_cases hc:cap=l;refine S9.quiet S rfl hrun ?_;rw[vX hc];generalize hv1:Value.slice (some ad') len cap=z' at p4;generalize hv2:Value.slice (some ad) len e0.size=z at p4;cases p4 with|plain hp=>grind[V.plain]|slice k1 k2 k3 k4 k5 k6=>cases hv1;cases hv2;exact VR.slice k1 (wL k2 (rW _ _)) k3 zy (Or.inl zy) (Or.inl zy)|_=>cases hv1
       refine S9.quiet S rfl hrun ?_;rw[vg hc];generalize hv1:Value.slice (some ad') len cap=z' at p4;generalize hv2:Value.slice (some ad) len e0.size=z at p4;cases p4 with
        |plain hp=>grind[V.plain]| @slice b g off len' cap' es' l0 a0 k1 k2 k3 k4 k5 k6=>
         cases hv1;cases hv2;rcases k6 with k6|⟨k6,k7,k8⟩;omega;obtain⟨ab,ao,asp⟩:=ad';simp only at k5 k6 k7 k8;obtain k5:=k5.resolve_left zy;subst k5 k6 k7;rw[a8Z];refine VR.slice k1 (wL k2 (rW _ _)) k3 zy (Or.inr rfl) (Or.inr ⟨rfl,?_,λho=>?_⟩);grind;have:=k8 ho;dsimp only;have e1:l*e0.size+(cap-l)*e0.size=cap*e0.size:=by rw[<-tY];grind
         omega|_=>cases hv1
       cases p1|none=>obtain⟨hl0,h7⟩:=I4 h7;obtain⟨l,hl,h8⟩:=H9 h7;obtain⟨hh,hhh,h9⟩:=H9 h8;obtain⟨hg2,h10⟩:=I4 h9;obtain⟨rfl,rfl⟩:=y8 h10;simp only[wh]at hg2;have q1:=wo hg2.1;have q2:=wo hg2.2;subst q1 q2;rcases a3Q rx with⟨_,_,_,p1,_⟩|⟨_,p2,p3,p4⟩;cases p1;have hb:=a9C (P:=P) true (a4o hf hg e1 hl) (a4o hf hg e2 hhh) (xD 0) (xD 0) (xD 0) w;refine S9.quiet S rfl (v':=.slice none 0 0) ?_ (.plain rfl);rw[p4];simp only[Instr.sliceAt,Instr.slice,wQ,Z7 hT hd,hu,wV,hb,a0V hT he0,wI];simp
    |_=>exact absurd h6 zk
  |array n elem=>
   obtain⟨ad,rfl,h7⟩:=a2R h6;obtain⟨e0,he0,h8⟩:=X9 h7;obtain⟨us,s1,h9,h10⟩:=E8 h8;obtain⟨e,l,hh,he,hl,hhh,q1,q2,q3,rfl,rfl⟩:=c5o h10;rw[he0]at he;cases he;obtain⟨ad',p1,r⟩:=a9j rx;obtain⟨us',r1,r2,r3,r4,r5⟩:=b2Q (P:=P) h9 S r;have hb:=a9C (P:=P) false (a4o hf hg e1 hl) (a4o hf hg e2 hhh) q1 q2 (xD n) w;have hrun:(Instr.sliceAt t (a.eval x) (lo.map a.eval) (hi.map a.eval) none).run P w=.ok (.slice (some (if n=l then ad' else ad'.add (l*e0.size))) (hh-l) (n-l)) w:=by rw[p1];simp only[Instr.sliceAt,wQ,Z7 hT hd,hu,wV,Instr.sureAddr,hb,a0V hT he0,wI]
   refine S9.quiet S r5 hrun ?_;obtain⟨g,cs,cur,ro,z1,z2,z3,z4,z5⟩:=a9d h9;obtain⟨g',l0,y1,y2,y3,rfl⟩:=a8G r;rw[z1]at y1;cases y1;obtain⟨vs2,x1,x2,x3⟩:=a8S S y2 y3 z2 z3;obtain⟨ab,ao,asp⟩:=ad;cases z1;by_cases hc:n=l;rw[vX hc];exact VR.slice y2 (wL y3 (rW _ _)) zy zy (Or.inr rfl) (Or.inl zy);rw[vg hc,a8Z];refine VR.slice y2 (wL y3 (rW _ _)) zy zy (Or.inr rfl) (Or.inr ⟨rfl,?_,λho=>?_⟩);grind;obtain⟨c,et,fz,c1,c2,c3⟩:=S.room _ _ l0 cs cur ro y2 ho z2;have hpos:0<n*e0.size:=Nat.mul_pos zy zy;have hlen:vs2.length=n*e0.size:=by rw[x1.len,x2]
   have hlast:=x3 (n*e0.size-1) _ (wz zy);simp only[World.cell?,c1]at hlast;have:=(sM.1 (by simpa using hlast)).1;have e1:l*e0.size+(n-l)*e0.size=n*e0.size:=by rw[<-tY];grind
   grind|_=>exact absurd h6 zk
end
end Go.V
end
section
namespace Go.V
open Go.RowKit (Below)
section
variable {P:Program}{T:Tab}{B0:Nat}{w0:Base}{w:World}{K:KM}{s s':S}{v:Value}
theorem d0B (b:ByteArray):(b.extract 0 b.size).data.map (λx=>Value.int .u8 x.toNat)=(b.data.toList.map a7b).toArray:=by rw[b7e];apply qK;rw[Array.toList_map];have:b.data.toList.length<=b.size:=xD _;simp only[ug,sG,tF this];rfl
theorem c7C {ad n s1 vs}(h:loadN ad n s=some (vs,s1))(S:Sim B0 w0 K s.h w){a'}(r:VR K (.pointer (some a')) (.pointer (some ad))):∃vs',(∀w2,(∀x,w2.cell? x=w.cell? x)->(loadCells a' n).run P w2=.ok vs'.toArray w2)/\VRL K vs' vs/\vs'.length=n/\s1.c=s.c/\s1.h=s.h:=by
 obtain⟨g,cs,cur,ro,e1,e2,e3,e4,e5⟩:=a9d h;obtain⟨g',l,f1,f2,f3,rfl⟩:=a8G r;rw[e1]at f1;cases f1;obtain⟨vs',c1,c2,c3⟩:=a8S S f2 f3 e2 e3;have hn:vs'.length=n:=by rw[c1.len,c2]
 grind[run_loadCells_list,a8Z]
theorem b7u {size x x' vs s1}(h:b0p size x s=some (vs,s1))(hpos:0<size)(S:Sim B0 w0 K s.h w)(r:VR K x' x):∃n vs',(∀w2,(Builtin.lenOf x').run P w2=.ok n w2)/\(∀w2,(∀x,w2.cell? x=w.cell? x)->(Builtin.firstCells size n x').run P w2=.ok vs'.toArray w2)/\VRL K vs' vs/\vs'.length=n*size/\s1.h=s.h/\s1.c=s.c:=by
 cases x with
  |slice o len es=>
   cases o with
    |none=>obtain⟨hl,h1⟩:=I4 h;obtain⟨rfl,rfl⟩:=y8 h1;rcases a3Q r with⟨_,_,_,p1,_⟩|⟨_,p2,p3,p4⟩;cases p1;exact⟨0,[],by rw[p4];intro _;rfl,by rw[p4];intro _ _;rfl,VRL.nil K,zn,rfl,rfl⟩|some ad=>
     rcases a3Q r with⟨ad1,ad',cap,p1,p2,p3,p4,p5,p6,p7⟩|⟨p1,_⟩;cases p1;cases len with|zero=>have h1:M.pure [] s=some (vs,s1):=h;obtain⟨rfl,rfl⟩:=y8 h1;exact⟨0,[],by rw[p2];intro _;rfl,by rw[p2];simp_all[Builtin.firstCells,loadCells,loadCellsFrom],VRL.nil K,zn,rfl,rfl⟩|succ len=>have h1:M.guard (Nat.beq es size) (loadN ad ((len+1)*size)) s=some (vs,s1):=h;obtain⟨he,h2⟩:=I4 h1;obtain⟨vs',r1,r2,r3,r4,r5⟩:=c7C (P:=P) h2 S (p7 zy);exact⟨len+1,vs',by rw[p2];intro _;rfl,by rw[p2];exact r1,r2,r3,r5,r4⟩
     cases p1
  |string b=>obtain⟨hl,h1⟩:=I4 h;obtain⟨rfl,rfl⟩:=y8 h1;have hs:=wo hl;subst hs;have ex:=r.eq_of_plain rfl;refine⟨b.size,b.data.toList.map a7b,by rw[ex];intro _;rfl,by rw[ex];intro _ _;simp only[Builtin.firstCells];rw[d0B];rfl,?_,zm,rfl,rfl⟩;rw[a1z];exact VRL.refl_plain _ (λy hy=>by obtain⟨z,_,rfl⟩:=uj.1 hy;rfl)|_=>exact absurd h zk
theorem b8O (newLen):∀(n c),c<=2*newLen+192->c<newLen\/True->Builtin.growBy newLen n c<=2*newLen+192|0,c,h,_=>h|n+1,c,h,_=>by unfold Builtin.growBy;split;exact h;exact b8O newLen n _ zy (Or.inr trivial)
theorem c6x (need cap)(h:cap<need):Builtin.nextslicecap need cap<=2*need+192:=by unfold Builtin.nextslicecap;split;omega;split;omega;exact b8O need 4 cap zy (Or.inr trivial)
theorem b4T {argTypes ty st xt elem dx size n base len cap x' vs' w'}(h0:argTypes[0]?=some st)(h1:argTypes[1]?=some xt)(hst:(underlying st).run P w=.ok (.slice elem) w)(hxt:(underlying xt).run P w=.ok dx w)(hdx:b3t dx=false)(hsz:(sizeOf elem).run P w=.ok size w)(hn:(Builtin.lenOf x').run P w=.ok n w)(hfc:(Builtin.firstCells size n x').run P w=.ok vs'.toArray w)(hle:len+n<=cap)(hnone:base=none->w'=w)(hsome:∀ad,base=some ad->(storeCells (ad.add (len*size)) vs').run P w=.ok () w'):(Builtin.append_ argTypes ty #[.slice base len cap,x']).run P w=.ok (.slice base (len+n) cap) w':=by unfold Builtin.append_;simp only[h0,h1];simp only[List.getElem?_toArray,pq,uI];simp only[wQ,hst,wV,hsz,hxt,wI];cases dx with|int k=>cases hdx|_=>simp only[vS,uS,uy,rQ,wQ,hn,wV,hle,hfc];cases base with|none=>rw[hnone rfl];rfl|some ad=>simp only[wQ,hsome ad rfl,wV,wI]
theorem b3k {argTypes ty st xt elem dx n e base len cap x' vs' olds}(hT:TabOk P T)(h0:argTypes[0]?=some st)(h1:argTypes[1]?=some xt)(hst:∀w,(underlying st).run P w=.ok (.slice elem) w)(hxt:∀w,(underlying xt).run P w=.ok dx w)(hdx:b3t dx=false)(he:T.types.get elem=some e)(hn:(Builtin.lenOf x').run P w=.ok n w)(hfc:(Builtin.firstCells e.size n x').run P w.drew=.ok vs'.toArray w.drew)(hold:(Builtin.firstCells e.size len (.slice base len cap)).run P w.drew=.ok olds.toArray w.drew)(hlt:cap<len+n)(hsmall:(len+n)*4<4294967296)(hb:e.bytes<4096)(hpos:0<e.size):∃nc arr,len+n<=nc/\arr.toList=olds++vs'++a5J e.zero.cells.toList (nc-(len+n))/\(Builtin.append_ argTypes ty #[.slice base len cap,x']).run P w=.ok (.slice (some ⟨w.heap.size,0,none⟩) (len+n) nc) (w.drew.alloc (.cells arr elem)):=by
 obtain⟨info,g1,g2,g3,g4,g5,g6⟩:=hT.types elem e he;let nc:=(Question.appendCap (len+n) cap elem).cut (w.tape w.drawn (Question.appendCap (len+n) cap elem));have hnc:len+n<=nc:=by show len+n<=(len+n)+_%_;omega
 refine⟨nc,olds.toArray++vs'.toArray++Builtin.zeroCells e.zero.cells (nc-(len+n)),hnc,?_,?_⟩;have hz:=b5m e.zero.cells (nc-(len+n)) (by rw[g6];exact hpos);simp only[tO];rw[<-hz];rfl;have hnb:¬(Builtin.nextslicecap (len+n) cap*e.bytes>2^48):=by have h1:=c6x (len+n) cap hlt;have h2:Builtin.nextslicecap (len+n) cap*e.bytes<=(2*(len+n)+192)*4096:=Nat.mul_le_mul h1 zy;have:(2:Nat)^48=281474976710656:=rfl;omega
 have hni:¬(((len+n:Nat):Int)>IntKind.i64.max):=by have:IntKind.i64.max=9223372036854775807:=rfl;rw[this];omega
 have hnle:¬(len+n<=cap):=zy;unfold Builtin.append_;simp only[h0,h1];simp only[List.getElem?_toArray,pq,uI];simp only[wQ,hst,wV,a0V hT he,hxt,wI];cases dx with|int k=>cases hdx|_=>simp only[vS,uS,uy,rQ,wQ,hn,wV,hnle,typeInfo,run_program,g1,wI,hni,false_and,g4,hnb];simp only[run_choose,Question.forced,vS,uS,wV,run_askRoom];have hd:({w with drawn:=w.drawn+1}:World)=w.drew:=rfl;simp only[hd,hold,wV,hfc,b0i hT he,newRow,wQ,pF,wI];rfl
theorem VRL.two {l' x y l}(h:VRL K l' l)(h0:l[0]?=some x)(h1:l[1]?=some y):∃x' y' r,l'=x'::y'::r/\VR K x' x/\VR K y' y:=by match l',h with|[],h=>have:=h.len;simp_all|[x'],h=>have:=h.len;simp_all|x'::y'::r,h=>exact⟨x',y',r,rfl,h.at_ 0 _ _ rfl h0,h.at_ 1 _ _ rfl h1⟩
theorem c3C (hT:TabOk P T){argTypes ty st xt elem dx e vs x0 x0' x1 s1 n vs'}(h0:argTypes[0]?=some st)(h1:argTypes[1]?=some xt)(hst:∀w,(underlying st).run P w=.ok (.slice elem) w)(hxt:∀w,(underlying xt).run P w=.ok dx w)(hdx:b3t dx=false)(he:T.types.get elem=some e)(hpos:0<e.size)(h:a7n e x0 vs s1=some (v,s'))(S:Sim B0 w0 K s1.h w)(F:a0z K s1 s')(r0:VR K x0' x0)(hn:(Builtin.lenOf x1).run P w=.ok n w)(hfc:(Builtin.firstCells e.size n x1).run P w=.ok vs'.toArray w)(hfc2:(Builtin.firstCells e.size n x1).run P w.drew=.ok vs'.toArray w.drew)(hvs:VRL K vs' vs)(hvl:vs'.length=n*e.size):∃v' w' K',(Builtin.append_ argTypes ty #[x0',x1]).run P w=.ok v' w'/\Step B0 w0 K s' w' K'/\VR K' v' v:=by
 obtain⟨info,g1,g2,g3,g4,g5,g6⟩:=hT.types elem e he;cases vs with
  |nil=>
   obtain⟨hsl,h2⟩:=I4 h;obtain⟨rfl,rfl⟩:=y8 h2;have hvs0:vs'=[]:=sj hvs.len;subst hvs0;have hn0:n=0:=by rcases sI n with q|q;exact q;have:=Nat.mul_pos q hpos;simp_all
   subst hn0;cases v with
    |slice o len es=>
     have hslice:∃b l c,x0'=.slice b l c/\l<=c:=by rcases a3Q r0 with⟨_,ad',cap,_,p2,p3,_⟩|⟨_,_,_,p4⟩;grind;grind
     obtain⟨b,l,c,rfl,hlc⟩:=hslice;refine⟨.slice b l c,w,K,?_,Step.same S rfl,r0⟩;have:=b4T (ty:=ty) (w':=w) h0 h1 (hst w) (hxt w) hdx (a0V hT he w) hn hfc (base:=b) (len:=l) (cap:=c) zy (λ_=>rfl) (λad _=>rfl);omega|_=>cases hsl
  |cons u us=>
   cases x0 with
    |slice o len es=>
     have h2:M.guard (Nat.beq ((F9 us+1)/e.size*e.size) (F9 us+1)&&M0 P8 (u::us)&&Nat.blt ((len+(F9 us+1)/e.size)*4) a7M&&Nat.blt e.bytes 4096) (match o with|none=>M.guard (Nat.beq len 0)<|M.bind (a0b (u::us)) λa=>M.pure (.slice (some a) ((F9 us+1)/e.size) e.size)|some a=>M.guard (Nat.beq es e.size)<|appendAt e a len (u::us) ((F9 us+1)/e.size)) s1=some (v,s'):=by have:=h;simp only[a7n,a4b]at this;exact this
     obtain⟨hgd,h3⟩:=I4 h2;simp only[wh,J2]at hgd;obtain⟨⟨⟨q1,q2⟩,q3⟩,q4⟩:=hgd;rw[J2]at h3;generalize hm:(us.length+1)/e.size=m at*;have q1:=wo q1;have q3:(len+m)*4<4294967296:=by grind[Nat.blt_eq,a7M]
     have q4:e.bytes<4096:=zm;have hvl2:vs'.length=us.length+1:=by rw[hvs.len];rfl
     have hnm:n=m:=by have:n*e.size=m*e.size:=zy;grind[Nat.eq_of_mul_eq_mul_right]
     subst hnm;have hn1:0<n:=zu;cases o with
      |none=>
       obtain⟨hl0,h4⟩:=I4 h3;obtain⟨ad,s2,h5,h6⟩:=E8 h4;obtain⟨rfl,rfl⟩:=y8 h6;rcases a3Q r0 with⟨_,_,_,p1,_⟩|⟨_,p2,p3,p4⟩;cases p1;subst p4 p2;obtain⟨nc,arr,c1,c2,c3⟩:=b3k (ty:=ty) (base:=none) (len:=0) (cap:=0) (olds:=[]) hT h0 h1 hst hxt hdx he hn hfc2 rfl zy q3 q4 hpos;obtain⟨K',k1,k2,rfl⟩:=a5X (w':=w.drew.alloc (.cells arr elem)) (arr:=arr) (e:=elem) (fz:=(0,0)) (rest:=a5J e.zero.cells.toList (nc-(0+n))) h5 S F hvs ((Grew.drew w).trans (Grew.alloc _ _)) yf (by rw[c2];simp) (λo _=>zn);refine⟨_,_,K',c3,k1,?_⟩;rw[wM];refine VR.slice (off:=0) k2 (vY _) hpos zy (Or.inr rfl) (Or.inr ⟨rfl,rfl,λ_=>?_⟩);dsimp only;have hsz:arr.size=n*e.size+(nc-n)*e.size:=by rw[<-vF,c2];grind[a8H]
       rw[hsz,<-tY,wM,Nat.add_sub_cancel' zy];omega|some ad=>
       obtain⟨hes,h4⟩:=I4 h3;have hes:=wo hes;subst hes;obtain⟨g,cs,cur,olds,z1,z2,z3,z4,z5,z6,rfl⟩:=c3p h4;rcases a3Q r0 with⟨ad1,ad',cap,p1,rfl,p3,p4,p5,p6,p7⟩|⟨p1,_⟩;cases p1;obtain⟨hg1,_,hg3⟩:=S.gens _ cs cur false z2;have hget:∀j,(Trie.put (some (.cells (cs.take (ad.off+len*e.size)) cur false)) (ad.block+1) s1.h ad.block).get j=if j=ad.block then some (.cells (cs.take (ad.off+len*e.size)) cur false)else s1.h.get j:=λj=>Trie.get_put _ _ _ _ (wu _) j;generalize Trie.put (some (.cells (cs.take (ad.off+len*e.size)) cur false)) (ad.block+1) s1.h ad.block=ht at hget;have S1:=d0o S z2 hget;have hb1:ht.get ad.block=some (.cells (cs.take (ad.off+len*e.size)) cur false):=by rw[hget,vX rfl]
       have hlt:(cs.take (ad.off+len*e.size)).length=ad.off+len*e.size:=by simp[z3]
       have hh':∀j,s'.h.get j=if j=ad.block then some (.cells (cs.take (ad.off+len*e.size)++(u::us).map λv=>(v,cur+1)) (cur+1) false)else ht.get j:=zm;by_cases hfit:len+n<=cap;obtain⟨g',l,y1,y2,y3,y4⟩:=a8G (p7 zy);rw[z1]at y1;cases y1;have hown:l.own=true:=(hg1 _ _ y2).2 rfl;obtain⟨c,et,fz,c1,c2,c3⟩:=S.room _ _ l cs cur false y2 hown z2;have hroom:l.at_+(ad.off-l.lo)+cap*e.size<=l.sz:=yK;have hmul:len*e.size+n*e.size<=cap*e.size:=by rw[<-tY];exact Nat.mul_le_mul_right _ hfit
       obtain⟨w',u1,u2⟩:=b1F P l.blk vs' (l.at_+(ad.off-l.lo)+len*e.size) 0 w (λj hj=>by
        have hidx:l.at_+(ad.off-l.lo)+len*e.size+0+j<c.size:=zy;have hc:w.cell? ⟨l.blk,l.at_+(ad.off-l.lo)+len*e.size+0+j,none⟩=c[l.at_+(ad.off-l.lo)+len*e.size+0+j]?:=by grind[World.cell?]
        rw[hc,tZ hidx];rfl) (λj hj=>c3 _ zy) (λx hx=>by
        obtain⟨j,hj,rfl⟩:=ql hx;have hj2:j<(u::us).length:=by rw[<-hvs.len];exact hj
        exact(hvs.at_ j _ _ (wz hj) (wz hj2)).oneCell ((R5 _ _).1 q2 _ (vB hj2)));have hrun:=b4T (ty:=ty) (w':=w') h0 h1 (hst w) (hxt w) hdx (a0V hT he w) hn hfc (base:=some ad') (len:=len) (cap:=cap) hfit (λq=>zb) (λad2 q=>by grind[a8Z]);have S2:=c6u S1 hb1 y2 (by rw[hlt];omega) (o:=l.at_+(ad.off-l.lo)+len*e.size+0) (by rw[hlt];omega) u2;let l':Loc:=⟨l.blk,ad.off,l.at_+(ad.off-l.lo),l.sz,true⟩;have S3:=c5b (l:=l') (vs:=u::us) S2 hb1 hh' rfl (by show l.blk<_;rw[u2.size];grind) (by show B0<=l.blk;exact S.own _ _ _ y2 hown) (λg2 l2 k1 k2=>by have:=(S.same _ _ _ _ _ y2 k1).2 k2.symm;grind) (λb2 g2 l2 hne k1=>(S.apart _ _ _ _ _ _ y2 k1 (qg hne) hown).symm) (by have:=u2.room ⟨c,et,fz,c1,c2,c3⟩ c1;exact this) (λoff x st k1 k2=>by show∃v',w'.cell? ⟨l.blk,l.at_+(ad.off-l.lo)+(off-ad.off),none⟩=some v'/\VR K v' x;have k1:ad.off<=off:=k1;by_cases hoff:off<ad.off+len*e.size;rw[vw (by rw[hlt];exact hoff),uP,vX hoff]at k2;obtain⟨t1,t2⟩:=a6H _ _ _ _ z4;obtain⟨x2,st2,t3,t4,t5⟩:=t2 (off-ad.off) zy;rw[uW,show ad.off+(off-ad.off)=off by omega,k2]at t3;cases t3;obtain⟨v',r1,r2⟩:=S.cells _ cs cur false _ l z2 y2 off x st k2 t4 zy;refine⟨v',?_,r2⟩;rw[u2.cell_other c1 _ (Or.inr zu),show l.at_+(ad.off-l.lo)+(off-ad.off)=l.at_+(off-l.lo) by omega];exact r1;rw[wH (by rw[hlt];omega),hlt,wE]at k2;cases hq:(u::us)[off-(ad.off+len*e.size)]? with|none=>rw[hq]at k2;cases k2|some y=>rw[hq]at k2;cases k2;obtain⟨y',r1,r2⟩:=hvs.get? hq;refine⟨y',?_,r2⟩;have:=u2.cell_new c1 (by rw[hvl];omega) _ _ r1;rw[show l.at_+(ad.off-l.lo)+(off-ad.off)=l.at_+(ad.off-l.lo)+len*e.size+0+(off-(ad.off+len*e.size)) by omega];exact this);refine⟨_,w',_,hrun,⟨S3.2,λi g2 hi=>?_,S3.1⟩,?_⟩;refine KM.put_other K _ (λq=>?_);have hx:ad.block<s1.c:=xH;omega;rw[y4];exact VR.slice (KM.put_same _ _ _ _) (xD _) hpos hfit (Or.inr rfl) (Or.inr ⟨rfl,zu,λ_=>hroom⟩);obtain⟨l,y2,y3⟩:∃l,K ad.block g=some l/\l.lo<=ad.off:=yK;obtain⟨olds',o1,o2,o3⟩:=a8S S y2 y3 z2 z4;have hol:olds'.length=len*e.size:=by rw[o1.len,o2]
       have hrold:(Builtin.firstCells e.size len (.slice (some ad') len cap)).run P w.drew=.ok olds'.toArray w.drew:=by rcases sI len with q|q;simp_all[Builtin.firstCells,loadCells,loadCellsFrom];obtain⟨g',l2,x1,x2,x3,rfl⟩:=a8G (p7 zy);rw[z1]at x1;cases x1;rw[y2]at x2;cases x2;have:=qY (P:=P) w.drew (⟨l.blk,l.at_+(ad.off-l.lo),none⟩:Addr) olds' (λj v hj=>by rw[a8Z];exact o3 j v hj);rw[hol]at this;exact this
       obtain⟨nc,arr,c1,c2,c3⟩:=b3k (ty:=ty) (base:=some ad') (len:=len) (cap:=cap) (olds:=olds') hT h0 h1 hst hxt hdx he hn hfc2 hrold zy q3 q4 hpos;have hsz:arr.size=len*e.size+n*e.size+(nc-(len+n))*e.size:=by rw[<-vF,c2];grind[a8H]
       have G:Grew w (w.drew.alloc (.cells arr elem)):=(Grew.drew w).trans (Grew.alloc _ _);have hblk:(w.drew.alloc (.cells arr elem)).heap[w.heap.size]?=some (.cells arr elem (0,0)):=yf;have S2:=a5Y S1 G;let l':Loc:=⟨w.heap.size,ad.off,0,arr.size,true⟩;have S3:=c5b (l:=l') (vs:=u::us) S2 hb1 hh' rfl zu (by show B0<=w.heap.size;exact S.base) (λg2 l2 k1 k2=>by have:=S.dom _ _ _ k1;have k2:l2.blk=w.heap.size:=k2;omega) (λb2 g2 l2 hne k1=>by have:=S.dom _ _ _ k1;grind) ⟨arr,elem,(0,0),hblk,rfl,λo _=>by grind[World.frozen?]⟩ (λoff x st k1 k2=>by
        show∃v',(w.drew.alloc (.cells arr elem)).cell? ⟨w.heap.size,0+(off-ad.off),none⟩=some v'/\VR K v' x;have k1:ad.off<=off:=k1;have hcell:∀i y,(olds'++vs')[i]?=some y->(w.drew.alloc (.cells arr elem)).cell? ⟨w.heap.size,0+i,none⟩=some y:=by
         intro i y hy;have hi:i<(olds'++vs').length:=(xC.1 hy).1;have:arr[i]?=some y:=by rw[<-rR,c2,vw hi];exact hy
         simp_all[World.cell?]
        by_cases hoff:off<ad.off+len*e.size;rw[vw (by rw[hlt];exact hoff),uP,vX hoff]at k2;obtain⟨t1,t2⟩:=a6H _ _ _ _ z4;obtain⟨x2,st2,t3,t4,t5⟩:=t2 (off-ad.off) zy;rw[uW,show ad.off+(off-ad.off)=off by omega,k2]at t3;cases t3;obtain⟨v',r1,r2⟩:=o1.get? t5;grind;rw[wH (by rw[hlt];omega),hlt,wE]at k2;cases hq:(u::us)[off-(ad.off+len*e.size)]? with|none=>rw[hq]at k2;cases k2|some y=>rw[hq]at k2;cases k2;obtain⟨y',r1,r2⟩:=hvs.get? hq;grind);refine⟨_,_,_,c3,⟨S3.2,λi g2 hi=>?_,S3.1⟩,?_⟩;refine KM.put_other K _ (λq=>?_);have hx:ad.block<s1.c:=xH;omega;refine VR.slice (KM.put_same _ _ _ _) (xD _) hpos c1 (Or.inr rfl) (Or.inr ⟨rfl,zu,λ_=>?_⟩);grind[Nat.add_mul,Nat.add_sub_cancel'];cases p1
    |_=>exact absurd h zk
end
end Go.V
end
section
namespace Go.V
open Go.RowKit (Below)
section
variable {P:Program}{T:Tab}{B0:Nat}{w0:Base}{w:World}{K:KM}{s s':S}{a:Act}{fr:List Value}{v:Value}
theorem a7G {α:Type}(x:Array α)(i:Nat):x.toList[i]?=x[i]?:=zn
theorem c6I (hT:TabOk P T){ts ty vs vs'}(hl:vs'.length=2)(h:appendV T ts vs s=some (v,s'))(S:Sim B0 w0 K s.h w)(F:a0z K s s')(r:VRL K vs' vs):∃v' w' K',(Builtin.append_ ts ty vs'.toArray).run P w=.ok v' w'/\Step B0 w0 K s' w' K'/\VR K' v' v:=by
 obtain⟨st,e1,h1⟩:=H9 h;obtain⟨xt,e2,h2⟩:=H9 h1;obtain⟨d,hd,h3⟩:=X9 h2;obtain⟨dx,hdx,h4⟩:=X9 h3;rw[a2E,a7G]at e1 e2;generalize hu:d.und=u at h4;cases u with
  |slice elem=>
   obtain⟨x0,e3,h5⟩:=H9 h4;obtain⟨x1,e4,h6⟩:=H9 h5;obtain⟨e,he,h7⟩:=X9 h6;obtain⟨hgd,h8⟩:=I4 h7;obtain⟨us,s1,h9,h10⟩:=E8 h8;rw[a0g]at h10;rw[a2E]at e3 e4;obtain⟨x0',x1',rest,rfl,r0,r1⟩:=r.two e3 e4;have hrest:rest=[]:=zm;subst hrest;simp only[wh,si]at hgd;have hpos:0<e.size:=Nat.pos_of_ne_zero (b6D (by rw[hgd.2];rfl));obtain⟨n,us',c1,c2,c3,c4,c5,c6⟩:=b7u (P:=P) h9 hpos S r1;have S1:Sim B0 w0 K s1.h w:=by rw[c5];exact S
   have F1:a0z K s1 s':=by intro i hi;rw[c6]at hi;rw[c5];exact F i hi
   exact c3C hT e1 e2 (λw=>by rw[Z7 hT hd,hu]) (λw=>Z7 hT hdx w) zm he hpos h10 S1 F1 r0 (c1 w) (c2 w (λ_=>rfl)) (c2 w.drew (λ_=>rfl)) c3 c4|_=>exact absurd h4 zk
end
end Go.V
end
section
namespace Go.V
open Go.RowKit (Below)
theorem b1U {B0 w0 K h h' w w'}(S:Sim B0 w0 K h w){b l o o' ob}(hk:K b 0=some l)(hown:l.own=true)(ho:h.get b=some o)(hnc:∀cs cur ro,o≠.cells cs cur ro)(hnc':∀cs cur ro,o'≠.cells cs cur ro)(hh:∀j,h'.get j=if j=b then some o' else h.get j)(hw:w'={w with heap:=w.heap.setIfInBounds l.blk ob})(hmap:∀es,o'=.map es->∃es' clock,ob=.map es' clock/\MR K es'.toList es)(hiter:∀x pos,o'=.siter x pos->l.lo=0/\l.at_=0/\ob=.stringIter x pos):Sim B0 w0 K h' w':=by
 have hb:h'.get b=some o':=yD;have hn:∀j,j≠b->h'.get j=h.get j:=λj hj=>xQ;have hother:∀k,k≠l.blk->w'.heap[k]?=w.heap[k]?:=λk hkk=>by rw[hw];grind
 have hsize:w'.heap.size=w.heap.size:=by rw[hw];simp
 have hat:w'.heap[l.blk]?=some ob:=by rw[hw];simp only[qf];rw[vX trivial,vX (S.dom _ _ _ hk)]
 have hbk:∀b2 g l2,b2≠b->K b2 g=some l2->l2.blk≠l.blk:=λb2 g l2 hne q=>(S.apart _ _ _ _ _ _ hk q (qg hne) hown).symm;refine⟨S.size0,S.below.trans ⟨by rw[hw],by rw[hw],by rw[hw],by rw[hsize];omega,λk hkk=>hother k (by have:=S.own _ _ _ hk hown;omega)⟩,λb2 g l2 q=>by rw[hsize];exact S.dom' b2 g l2 q,λb2 g2 l2 q=>xV,S.own,S.apart,S.same,?_,?_,?_,?_,?_,(λb2 g2 l2 q hnq=>by by_cases hx:b2=b;exact S.gen0 b2 g2 l2 q (λcs cur ro e=>by rw[hx]at e;rw[ho]at e;simp_all);exact S.gen0 b2 g2 l2 q (λcs cur ro e=>hnq cs cur ro (by rw[hn b2 hx];exact e)))⟩;intro b2 g l2 cs cur ro q1 q2 q3;have hne:b2≠b:=λe=>by rw[e,hb]at q3;simp_all
 rw[hn b2 hne]at q3;obtain⟨c,e,fz,r1,r2,r3⟩:=S.room b2 g l2 cs cur ro q1 q2 q3;have hx:=hother _ (hbk b2 g l2 hne q1);grind[World.frozen?_of_block];intro b2 cs cur ro q;have hne:b2≠b:=λe=>by rw[e,hb]at q;simp_all
 rw[hn b2 hne]at q;exact S.gens b2 cs cur ro q;intro b2 cs cur ro g l2 q1 q2 off v st q3 q4 q5;have hne:b2≠b:=λe=>by rw[e,hb]at q1;simp_all
 rw[hn b2 hne]at q1;obtain⟨v',r1,r2⟩:=S.cells b2 cs cur ro g l2 q1 q2 off v st q3 q4 q5;have hx:=hother _ (hbk b2 g l2 hne q2);grind[World.cell?_of_block];intro b2 es q;by_cases hne:b2=b;simp_all;rw[hn b2 hne]at q;obtain⟨l2,es',clock,r1,r2,r3,r4⟩:=S.map b2 es q;grind;intro b2 x pos q;by_cases hne:b2=b;simp_all;rw[hn b2 hne]at q;obtain⟨l2,r1,r2,r3,r4,r5⟩:=S.siter b2 x pos q;grind
theorem a2N:∀(x y),beqBytes x y=(x==y):=by
 intro x;induction x with
  |nil=>intro y;cases y<;>rfl|cons a x ih=>
   intro y;cases y with
    |nil=>rfl|cons b y=>
     show Bool.rec (motive:=λ_=>Bool) false (beqBytes x y) (Nat.beq a.toNat b.toNat)=_;rw[ih];by_cases h:a=b;subst h;simp;have:a.toNat≠b.toNat:=λe=>h (tL.1 e);have h2:Nat.beq a.toNat b.toNat=false:=by cases q:Nat.beq a.toNat b.toNat<;>simp_all
     rw[h2];simp[h]
theorem b8F (x y:ByteArray):(x==y)=beqBytes x.data.toList y.data.toList:=by rw[a2N];obtain⟨⟨x⟩⟩:=x;obtain⟨⟨y⟩⟩:=y;have:(({data:=⟨x⟩}:ByteArray)=={data:=⟨y⟩})=((⟨x⟩:Array UInt8)==⟨y⟩):=rfl;rw[this];simp_all
section
variable {P:Program}{T:Tab}{B0:Nat}{w0:Base}{w:World}{K:KM}{s s':S}{a:Act}{fr:List Value}{v:Value}
theorem c7u {d k x}(hf:a8n d k=true){b}(h:a1q k x=some b):Instr.sameNow d k x=some b:=by
 cases k with
  |int k1 n1=>
   cases d with
    |int kd=>cases x with|int k2 n2=>have h':(match decide (k1=k2)with|true=>some (decide (n1=n2))|false=>none)=some b:=h;show(if k1=k2 then some (n1==n2)else none)=some b;grind|_=>cases h
    |_=>cases hf
  |string s1=>
   cases d with
    |string=>cases x with|string s2=>have h':some (beqBytes s1.data.toList s2.data.toList)=some b:=h;show some (s1==s2)=some b;rw[b8F];exact h'|_=>cases h
    |_=>cases hf
  |bool b1=>
   cases d with
    |bool=>cases x with|bool b2=>exact h|_=>cases h
    |_=>cases hf
  |_=>cases h
theorem b4L {d k}(hf:a8n d k=true):∀(es) (es') (i) (r),Y9 k es=some r->MR K es' es->∃r',Instr.findNow d k es' i=some r'/\((r=none/\r'=none/\∀e∈es,a1q k e.1=some false)\/∃j x x',r=some x/\r'=some (i+j,x')/\VR K x' x/\j<es.length/\(∀(m) e,m<j->es[m]?=some e->a1q k e.1=some false)/\∃e,es[j]?=some e/\a1q k e.1=some true):=by intro es;induction es with|nil=>intro es' i r h hm;cases h;have:es'=[]:=sj hm.len;subst this;exact⟨none,rfl,Or.inl ⟨rfl,rfl,zn⟩⟩|cons e es ih=>intro es' i r h hm;cases es' with|nil=>have:=hm.len;simp at this|cons e' es'=>obtain⟨hkey,hval⟩:=hm.key 0 e' e rfl rfl;have hmt:MR K es' es:=⟨by have:=hm.len;simp_all,λj x y q q'=>hm.key (j+1) x y zu zu⟩;have h':(match a1q k e.1 with|none=>none|some true=>some (some e.2)|some false=>Y9 k es)=some r:=h;cases hs:a1q k e.1 with|none=>rw[hs]at h';cases h'|some b=>rw[hs]at h';have hn:=c7u hf hs;cases b with|true=>cases h';refine⟨some (i,e'.val),?_,Or.inr ⟨0,e.2,e'.val,rfl,rfl,hval,zn,λm x hm _=>zy,e,rfl,hs⟩⟩;grind[Instr.findNow]|false=>obtain⟨r',h1,h2⟩:=ih es' (i+1) r h' hmt;refine⟨r',by grind[Instr.findNow],?_⟩;rcases h2 with⟨e1,e2,e3⟩|⟨j,x,x',e1,e2,e3,e4,e5,e6⟩;grind;refine Or.inr ⟨j+1,x,x',e1,by rw[e2];grind,e3,zu,λm y hm hy=>?_,zu⟩;grind
theorem b2P (hT:TabOk P T){key:TypeId}{kd k}(hk:T.types.get key=some kd)(hf:a8n kd.und k=true)(empty n w):(Instr.checkKey empty (n+1) key k).run P w=.ok () w:=by unfold Instr.checkKey;simp only[wQ,Z7 hT hk,wV];cases hu:kd.und<;>cases k<;>first|rfl|(rw[hu]at hf;cases hf)
theorem b0Y {x x' es s1}(h:b4e x s=some (es,s1))(S:Sim B0 w0 K s.h w)(r:VR K x' x):s1.h=s.h/\s1.c=s.c/\((x'=.map none/\es=[])\/∃b l es' clock,x=.map (some b)/\x'=.map (some l.blk)/\K b 0=some l/\l.own=true/\s.h.get b=some (.map es)/\w.heap[l.blk]?=some (.map es' clock)/\MR K es'.toList es):=by
 cases x with
  |map o=>
   cases o with
    |none=>obtain⟨rfl,rfl⟩:=y8 h;exact⟨rfl,rfl,Or.inl ⟨r.eq_of_plain rfl,rfl⟩⟩|some b=>
     have h':M.bind (rd b) (λo=>c6r o M.pure) s=some (es,s1):=h;obtain⟨ob,s2,h1,h2⟩:=E8 h';obtain⟨q1,q2,q3,q4⟩:=a9Q h1;cases ob with
      |map es2=>obtain⟨rfl,rfl⟩:=y8 h2;obtain⟨l,es',clock,r1,r2,r3,r4⟩:=S.map b _ q2;refine⟨q4,q3,Or.inr ⟨b,l,es',clock,rfl,?_,r1,r2,q2,r3,r4⟩⟩;generalize hv:Value.map (some b)=z at r;cases r<;>first|rfl|grind[V.plain]
      |_=>exact absurd h2 zk
  |_=>exact absurd h zk
theorem a6t {r o}(h:w.heap[r]?=some o)(hn:∀c e f,o≠.cells c e f):(getObj r).run P w=.ok o w:=by cases o with|cells c e f=>simp_all|_=>simp only[getObj,Sem.run,h]
theorem c6F (hT:TabOk P T){t key elem:TypeId}{d kd ed:TI}{X Y:Value}{ok:Bool}{es':Array MapEntry}{r':Option (Nat×Value)}(hd:T.types.get t=some d)(hu:d.und=.map key elem)(hk:T.types.get key=some kd)(he:T.types.get elem=some ed)(hfit:a8n kd.und Y=true)(hx:(X=.map none/\es'=#[])\/∃r clock,X=.map (some r)/\w.heap[r]?=some (.map es' clock)) (hn:Instr.findNow kd.und Y es'.toList 0=some r'):(Instr.lookup t X Y ok).run P w=.ok (b1m ok (match r' with|some x=>x.2|none=>ed.zero) r'.isSome) w:=by
 have hfk:(Instr.findKey key Y es'.toList).run P w=.ok r' w:=xJ;have hck:=b2P (P:=P) hT hk hfit es'.isEmpty 9999 w;unfold Instr.lookup;simp only[wQ,Z7 hT hd,hu,wV];rcases hx with⟨rfl,rfl⟩|⟨r,clock,rfl,hr⟩;simp only[wQ,wI,wV,hck,hfk];cases r' with|none=>simp only[wQ,b0i hT he,wI,wV];cases ok<;>rfl|some x=>simp only[];cases ok<;>rfl
 simp only[wQ,a6t hr zm,wI,wV,hck,hfk];cases r' with|none=>simp only[wQ,b0i hT he,wI,wV];cases ok<;>rfl|some x=>simp only[];cases ok<;>rfl
theorem VR.withOk {z' z:Value}(ok b:Bool)(q:VR K z' z):VR K (b1m ok z' b) (b1m ok z b):=by cases ok with|true=>exact .tuple rfl (by intro i x' x e e';match i with|0=>simp_all|1=>simp at e e';subst e e';exact .plain rfl|i+2=>simp at e)|false=>exact q
theorem b2M {d k}(h:a8n d k=true):plain k=true:=by cases d<;>cases k<;>first|rfl|cases h
theorem c8j (hT:TabOk P T){t x y ok}(h:a7f T fr t x y ok s=some (v,s'))(S:Sim B0 w0 K s.h w)(hf:VRL K a.tmps.toList fr)(hg:GK T K):S9 P B0 w0 K s' (do pure (Next.value (<-Instr.lookup t (a.eval x) (a.eval y) ok))) w v:=by
 obtain⟨vx,e1,h1⟩:=a0j h;obtain⟨vy,e2,h2⟩:=a0j h1;obtain⟨d,hd,h3⟩:=X9 h2;generalize hu:d.und=u at h3;cases u with
  |map key elem=>
   obtain⟨kd,hk,h4⟩:=X9 h3;obtain⟨ed,he,h5⟩:=X9 h4;obtain⟨hfit,h6⟩:=I4 h5;obtain⟨es,s1,h7,h8⟩:=E8 h6;obtain⟨o,ho,h9⟩:=H9 h8;have ey:a.eval y=vy:=(O7 hf hg e2).eq_of_plain (b2M hfit);obtain⟨c1,c2,c3⟩:=b0Y h7 S (O7 hf hg e1);obtain⟨es',m1,m2⟩:∃es':Array MapEntry,MR K es'.toList es/\((a.eval x=.map none/\es'=#[])\/∃r clock,a.eval x=.map (some r)/\w.heap[r]?=some (.map es' clock)):=by rcases c3 with⟨q1,rfl⟩|⟨b,l,es',clock,_,q2,q3,q4,q5,q6,q7⟩;exact⟨#[],⟨rfl,λi e' e q=>by simp at q⟩,Or.inl ⟨q1,rfl⟩⟩;simp_all
   obtain⟨r',n1,n2⟩:=b4L (K:=K) hfit es es'.toList 0 o ho m1;have hrun:=c6F (ok:=ok) (X:=a.eval x) (Y:=a.eval y) hT hd hu hk he (by rw[ey];exact hfit) m2 (by rw[ey];exact n1);cases o with|some z=>obtain⟨rfl,rfl⟩:=y8 h9;rcases n2 with⟨q,_⟩|⟨j,z1,z1',q1,q2,q3,_⟩;cases q;cases q1;subst q2;exact S9.quiet S c1 hrun (q3.withOk ok true)|none=>obtain⟨hz,h10⟩:=I4 h9;obtain⟨rfl,rfl⟩:=y8 h10;rcases n2 with⟨_,q2,_⟩|⟨j,z1,z1',q1,_⟩;subst q2;exact S9.quiet S c1 hrun ((a0S (K:=K) _ _ hz).withOk ok false);cases q1
  |_=>exact absurd h3 zk
end
end Go.V
end
section
namespace Go.V
open Go.RowKit (Below)
theorem b8W (k v):∀(es),(∀e∈es,a1q k e.1=some false)->a1G k v es=es++[(k,v)]|[],_=>rfl|e::es,h=>by have h1:=h e (vC ..);show(match a1q k e.1 with|some true=>(k,v)::es|_=>e::a1G k v es)=_;rw[h1,b8W k v es (λx hx=>h x (vW _ hx))];rfl
theorem b7c (k v):∀(es) (j),(∀(m) e,m<j->es[m]?=some e->a1q k e.1=some false)->(∃e,es[j]?=some e/\a1q k e.1=some true)->a1G k v es=es.set j (k,v)|[],j,_,⟨e,h,_⟩=>by simp at h|e::es,0,_,⟨e',h,h2⟩=>by grind[a1G]|e::es,j+1,h,⟨e',h1,h2⟩=>by have h0:=h 0 e zy rfl;show(match a1q k e.1 with|some true=>(k,v)::es|_=>e::a1G k v es)=_;rw[h0];show e::a1G k v es=_;rw[b7c k v es j (λm x hm hx=>h (m+1) x zy zu) ⟨e',zu,h2⟩];rfl
theorem c1w {k x}(h:a1q k x=some true):k=x/\∀n,Instr.sameBits n x k=true:=by
 cases k with
  |int k1 n1=>cases x with|int k2 n2=>have h':(match decide (k1=k2)with|true=>some (decide (n1=n2))|false=>none)=some true:=h;by_cases hk:k1=k2;rw[ww hk]at h';have:n1=n2:=zu;subst hk this;exact⟨rfl,λn=>by cases n<;>simp[Instr.sameBits]⟩;simp_all|_=>cases h
  |string s1=>
   cases x with
    |string s2=>
     have h':some (beqBytes s1.data.toList s2.data.toList)=some true:=h;rw[a2N]at h';have:s1=s2:=by have:s1.data.toList=s2.data.toList:=zu;cases s1;simp_all
     subst this;refine⟨rfl,λn=>?_⟩;have hb:(s1==s1)=true:=by rw[b8F,a2N];simp
     cases n<;>simp[Instr.sameBits,hb]|_=>cases h
  |bool b1=>cases x with|bool b2=>have h':some (b1==b2)=some true:=h;have:b1=b2:=zu;subst this;exact⟨rfl,λn=>by cases n<;>simp[Instr.sameBits]⟩|_=>cases h
  |_=>cases h
section
variable {P:Program}{T:Tab}{B0:Nat}{w0:Base}{w:World}{K:KM}{s s':S}{a:Act}{fr:List Value}{v:Value}
theorem b2l {r o o'}(h:w.heap[r]?=some o)(hn:∀c e f,o≠.cells c e f):(setObj r o').run P w=.ok () {w with heap:=w.heap.setIfInBounds r o'}:=by cases o with|cells c e f=>simp_all|_=>simp only[setObj,Sem.run,h]
theorem c8f (hT:TabOk P T){t m k x m' k' x' un}(h:a6F T t m k x s=some (un,s'))(S:Sim B0 w0 K s.h w)(rm:VR K m' m)(rk:VR K k' k)(rx:VR K x' x):∃w',(Instr.mapUpdate t m' k' x').run P w=.ok () w'/\Sim B0 w0 K s'.h w'/\s'.c=s.c:=by
 obtain⟨d,hd,h1⟩:=X9 h;generalize hu:d.und=u at h1;cases u with
  |map key elem=>
   cases m with
    |map o=>
     obtain⟨r,rfl,h2⟩:=H9 h1;obtain⟨kd,hk,h3⟩:=X9 h2;obtain⟨hfit,h4⟩:=I4 h3;obtain⟨es,s1,h5,h6⟩:=E8 h4;obtain⟨fo,ho,h7⟩:=H9 h6;rw[a0g]at h7;have ek:k'=k:=rk.eq_of_plain (b2M hfit);subst ek;obtain⟨c1,c2,c3⟩:=b0Y (x:=.map (some r)) h5 S rm;rcases c3 with⟨q1,_⟩|⟨b,l,es',clock,q0,q2,q3,q4,q5,q6,q7⟩;exfalso;subst q1;generalize hv:Value.map (some r)=z at rm;cases rm<;>simp_all;cases q0;subst q2;obtain⟨w1,w2,w3⟩:=b5I h7;obtain⟨r',n1,n2⟩:=b4L (K:=K) hfit es es'.toList 0 fo ho q7;have hfk:(Instr.findKey key k' es'.toList).run P w=.ok r' w:=xJ;have hck:=b2P (P:=P) hT hk hfit false 9999 w;have hget:∀j,s'.h.get j=if j=r then some (.map (a1G k' x es))else s.h.get j:=zm;rcases n2 with⟨_,rfl,hall⟩|⟨j,z,z',_,rfl,hz,hj,hbefore,e,he,hsame⟩;refine⟨{w with heap:=w.heap.setIfInBounds l.blk (.map (es'.push {key:=k',val:=x',born:=clock}) (clock+1))},?_,?_,by rw[w2,c2]⟩;unfold Instr.mapUpdate;simp only[wQ,Z7 hT hd,hu,wV,a6t q6 zm,hck,hfk,b2l q6 zm];refine b1U S q3 q4 q5 zm zm hget rfl (λes2 q=>?_) (λx pos q=>zb);cases q;refine⟨_,_,rfl,?_⟩;rw[b8W k' x es hall];refine⟨by simp[q7.len],λi e' e p1 p2=>?_⟩;have hlen:es'.toList.length=es.length:=q7.len;simp only[Array.toList_push]at p1;by_cases hi:i<es.length;rw[vw (by rw[hlen];exact hi)]at p1;rw[vw hi]at p2;exact q7.key i e' e p1 p2;grind;obtain⟨hkeq,hbits⟩:=c1w hsame;have hlen:es'.toList.length=es.length:=q7.len;have hj':j<es'.size:=by rw[<-vF,hlen];exact hj
     obtain⟨e0,he0⟩:∃e0,es'.toList[j]?=some e0:=⟨es'.toList[j]' zy,wz zy⟩;have hek:=(q7.key j e0 e he0 he).1;refine⟨{w with heap:=w.heap.setIfInBounds l.blk (.map (es'.modify j λe=>{e with key:=k',val:=x'}) clock)},?_,?_,by rw[w2,c2]⟩;unfold Instr.mapUpdate;rw[wM]at hfk;have hstay:(Instr.keyThatStays (((es'[j]?).map (·.key)).getD k') k').run P w=.ok k' w:=by have:es'[j]?=some e0:=zu;rw[this];simp_all[Instr.keyThatStays]
     simp only[wQ,Z7 hT hd,hu,wV,a6t q6 zm,hck,hfk,hstay,b2l q6 zm];refine b1U S q3 q4 q5 zm zm hget rfl (λes2 q=>?_) (λx pos q=>zb);cases q;refine⟨_,_,rfl,?_⟩;rw[b7c k' x es j hbefore ⟨e,he,hsame⟩];refine⟨by simp[hlen],λi e' e2 p1 p2=>?_⟩;have p1':(es'.modify j λe=>{e with key:=k',val:=x'})[i]?=some e':=by rw[<-rR];exact p1
     rw[sW]at p1';rw[rz]at p2;by_cases hij:j=i;grind;rw[vg hij]at p1' p2;exact q7.key i e' e2 zu p2|_=>exact absurd h1 zk
  |_=>exact absurd h1 zk
theorem b8Z (hT:TabOk P T){t m k x}(h:a3J T fr t m k x s=some (v,s'))(S:Sim B0 w0 K s.h w)(hf:VRL K a.tmps.toList fr)(hg:GK T K):S9 P B0 w0 K s' (do Instr.mapUpdate t (a.eval m) (a.eval k) (a.eval x);pure Next.skip) w v:=by obtain⟨vm,e1,h1⟩:=a0j h;obtain⟨vk,e2,h2⟩:=a0j h1;obtain⟨vx,e3,h3⟩:=a0j h2;obtain⟨un,s1,h4,h5⟩:=E8 h3;obtain⟨rfl,rfl⟩:=y8 h5;obtain⟨w',r1,r2,r3⟩:=c8f (P:=P) hT h4 S (O7 hf hg e1) (O7 hf hg e2) (O7 hf hg e3);exact⟨.skip,w',K,by simp[r1],⟨KM.le_refl K,λ_ _ _=>rfl,r2⟩,Or.inr ⟨rfl,rfl⟩⟩
theorem b7Q {o b s1 ob}(h:new o s=some (b,s1))(S:Sim B0 w0 K s.h w)(F:a0z K s s1)(hn:∀cs cur ro,o≠.cells cs cur ro)(hmap:∀es,o=.map es->∃es' clock,ob=.map es' clock/\MR K es'.toList es)(hiter:∀x pos,o=.siter x pos->ob=.stringIter x pos):∃K',Step B0 w0 K s1 (w.alloc ob) K'/\K' s.c 0=some ⟨w.heap.size,0,0,0,true⟩/\b=s.c:=by rw[b2N]at h;cases h;have hK:∀g,K s.c g=none:=S.none (F s.c (xD _) zm);have hblk:(w.alloc ob).heap[w.heap.size]?=some ob:=yf;refine⟨K.put s.c 0 ⟨w.heap.size,0,0,0,true⟩,⟨KM.le_put K _ (hK 0),λi g hi=>KM.put_other K _ (λq=>by have hi:s.c+1<=i:=hi;omega),?_⟩,KM.put_same _ _ _ _,rfl⟩;refine b7Y (o:=o) (a5Y S (Grew.alloc _ _)) hK (λj=>Trie.get_put _ _ _ _ (wu _) j) zm S.base rfl (λb g l q=>by have:=S.dom b g l q;grind) (λcs cur ro q=>absurd q (hn _ _ _)) (λes q=>?_) (λx pos q=>⟨rfl,rfl,?_⟩);simp_all;simp_all
theorem d7F (hT:TabOk P T){t r}(h:b1L T fr t r s=some (v,s'))(S:Sim B0 w0 K s.h w)(F:a0z K s s')(hf:VRL K a.tmps.toList fr)(hg:GK T K):S9 P B0 w0 K s' (do pure (Next.value (<-Instr.makeMap t (r.map a.eval)))) w v:=by
 have hmr:∀es,VObj.map []=.map es->∃es' clock,Obj.map #[] 0=.map es' clock/\MR K es'.toList es:=by intro es q;cases q;exact⟨#[],0,rfl,⟨rfl,λi e' e q=>by simp at q⟩⟩
 cases r with
  |none=>have h':M.bind (new (.map [])) (λb=>M.pure (.map (some b))) s=some (v,s'):=h;obtain⟨b,s1,h1,h2⟩:=E8 h';obtain⟨rfl,rfl⟩:=y8 h2;obtain⟨K',k1,k2,rfl⟩:=b7Q (ob:=.map #[] 0) h1 S F zm hmr zm;refine S9.step (v':=.map (some w.heap.size)) (w':=w.alloc (.map #[] 0)) ?_ k1 (VR.map k2);rfl|some x=>
   have h':ev T fr x (λv=>ti T t λd=>M.guard (c3K d.und&&b6i v)<|M.bind (new (.map [])) λb=>M.pure (.map (some b))) s=some (v,s'):=h;obtain⟨vx,e1,h1⟩:=a0j h';obtain⟨d,hd,h2⟩:=X9 h1;obtain⟨hgd,h3⟩:=I4 h2;obtain⟨b,s1,h4,h5⟩:=E8 h3;obtain⟨rfl,rfl⟩:=y8 h5;simp only[wh]at hgd;obtain⟨K',k1,k2,rfl⟩:=b7Q (ob:=.map #[] 0) h4 S F zm hmr zm;refine S9.step (v':=.map (some w.heap.size)) (w':=w.alloc (.map #[] 0)) ?_ k1 (VR.map k2);cases vx with
    |int kk n=>have ex:a.eval x=.int kk n:=(O7 hf hg e1).eq_of_plain rfl;cases hu:d.und with|map k1 k2=>simp[Instr.makeMap,ex,Z7 hT hd,hu,asInt,asIntOf]|_=>rw[hu]at hgd;cases hgd.1
    |_=>cases hgd.2
theorem d3B (hT:TabOk P T){t x}(h:a8l T fr t x s=some (v,s'))(S:Sim B0 w0 K s.h w)(F:a0z K s s')(hf:VRL K a.tmps.toList fr)(hg:GK T K):S9 P B0 w0 K s' (do pure (Next.value (<-Instr.range t (a.eval x)))) w v:=by
 obtain⟨vx,e1,h1⟩:=a0j h;obtain⟨d,hd,h2⟩:=X9 h1;generalize hu:d.und=u at h2;cases u with
  |string=>cases vx with|string b=>obtain⟨n,s1,h3,h4⟩:=E8 h2;obtain⟨rfl,rfl⟩:=y8 h4;have ex:a.eval x=.string b:=(O7 hf hg e1).eq_of_plain rfl;obtain⟨K',k1,k2,rfl⟩:=b7Q (ob:=.stringIter b 0) h3 S F zm zm zm;refine S9.step (v':=.pointer (some ⟨w.heap.size,0,none⟩)) (w':=w.alloc (.stringIter b 0)) ?_ k1 (VR.ptr (off:=0) k2 (vY _));simp[Instr.range,Z7 hT hd,hu,ex]|_=>exact absurd h2 zk
  |_=>exact absurd h2 zk
theorem d6l {x str ty}(h:a9V T fr x str s=some (v,s'))(S:Sim B0 w0 K s.h w)(hf:VRL K a.tmps.toList fr)(hg:GK T K):S9 P B0 w0 K s' (do pure (Next.value (<-Instr.next (a.eval x) str ty))) w v:=by
 obtain⟨rfl,h1⟩:=I4 h;obtain⟨vx,e1,h2⟩:=a0j h1;obtain⟨ad,rfl,h3⟩:=a2R h2;obtain⟨h0,h4⟩:=I4 h3;obtain⟨o,s1,h5,h6⟩:=E8 h4;obtain⟨q1,q2,q3,q4⟩:=a9Q h5;simp only[wh]at h0;have h00:=wo h0.1;cases o with
  |siter b pos=>
   obtain⟨l,r1,r2,r3,r4,r5⟩:=S.siter _ b pos q2;obtain⟨ad',e2,r⟩:=a9j (O7 hf hg e1);obtain⟨g,l',f1,f2,f3,rfl⟩:=a8G r;have hg0:g=0:=by have:=h0.2;rw[f1]at this;exact wo this
   subst hg0;rw[r1]at f2;cases f2;have ead:(⟨l.blk,l.at_+(ad.off-l.lo),none⟩:Addr)=⟨l.blk,0,none⟩:=by rw[r3,r4,h00]
   rw[ead]at e2;have h6':b2Z ad.block b pos s1=some (v,s'):=h6;unfold b2Z at h6';have hsz:F9 b.data.toList=b.size:=by rw[J2];rfl
   rw[hsz]at h6';cases hlt:Nat.blt pos b.size with
    |true=>rw[hlt]at h6';simp only[a4b]at h6';obtain⟨un,s2,h7,h8⟩:=E8 h6';obtain⟨rfl,rfl⟩:=y8 h8;obtain⟨_,w2,w3⟩:=b5I h7;have hlt':pos<b.size:=zm;refine S9.step (v':=.tuple #[.bool true,goInt pos,.int .i32 (Utf8.decode b pos).1]) (w':={w with heap:=w.heap.setIfInBounds l.blk (.stringIter b (pos+(Utf8.decode b pos).2))}) (K':=K) ?_ ⟨KM.le_refl K,λ_ _ _=>rfl,?_⟩ (a0S 3 _ rfl);rw[e2];simp_all[Instr.next,a6t,b2l];refine b1U (o:=.siter b pos) (o':=.siter b (pos+(Utf8.decode b pos).2)) S r1 r2 q2 zm zm (λj=>by rw[w3 j,q4]) rfl (λes q=>zb) (λx p q=>zu)|false=>
     rw[hlt]at h6';obtain⟨rfl,rfl⟩:=y8 h6';have hlt':¬pos<b.size:=by grind[Nat.blt_eq]
     refine S9.quiet S q4 (v':=.tuple #[.bool false]) ?_ (a0S 3 _ rfl);rw[e2];unfold Instr.next;simp only[wQ,a6t r5 zm,wV,hlt',uS,wI]
  |_=>exact absurd h6 zk
end
end Go.V
end
section
namespace Go.V
open Go.RowKit (Below)
theorem b1R (k:IntKind)(M H)(hM:(2^k.bits:Int)=M)(hH:(2^(k.bits-1):Int)=H)(hs:k.signed=true)(hMH:M=2*H)(m:Nat)(h:(m:Int)<H):k.wrap (-((m:Int)+1))=-((m:Int)+1):=by
 unfold IntKind.wrap;rw[hM,hH,hs];have e:(-((m:Int)+1))%M=-((m:Int)+1)+M:=by rw[<-Int.add_emod_right];exact Int.emod_eq_of_lt zy zy
 rw[e];grind
theorem a5Z (k n):N8 k n=k.wrap n:=by
 cases n with
  |ofNat m=>show(match Nat.blt m (a3U k)with|true=>Int.ofNat m|false=>k.wrap (.ofNat m))=_;cases h:Nat.blt m (a3U k)with|false=>rfl|true=>have hm:m<a3U k:=zm;show Int.ofNat m=k.wrap (Int.ofNat m);simp only[uL];cases k<;>simp only[a3U]at hm<;>simp only[IntKind.wrap,IntKind.bits,IntKind.signed,Int.reducePow,Nat.reduceSub,vE,uf,uz,ge_iff_le,vS,uS]<;>(try split)<;>omega
  |negSucc m=>show(match k.signed&&Nat.blt m (a3U k)with|true=>Int.negSucc m|false=>k.wrap (.negSucc m))=_;cases h:k.signed&&Nat.blt m (a3U k)with|false=>rfl|true=>simp only[wh]at h;have hm:m<a3U k:=zm;have hs:=h.1;show Int.negSucc m=k.wrap (Int.negSucc m);rw[Int.negSucc_eq];symm;cases k with|i8=>exact b1R .i8 256 128 rfl rfl rfl rfl m (by have hm:m<128:=hm;omega)|i16=>exact b1R .i16 65536 32768 rfl rfl rfl rfl m (by have hm:m<32768:=hm;omega)|i32=>exact b1R .i32 4294967296 2147483648 rfl rfl rfl rfl m (by have hm:m<2147483648:=hm;omega)|i64=>exact b1R .i64 18446744073709551616 9223372036854775808 rfl rfl rfl rfl m (by have hm:m<9223372036854775808:=hm;omega)|_=>cases hs
theorem a7S:∀(x y),a7C x y=Op.bytesLess x y:=by
 intro x;induction x with
  |nil=>intro y;cases y<;>rfl|cons a x ih=>
   intro y;cases y with
    |nil=>rfl|cons b y=>
     show(match Nat.blt a.toNat b.toNat with|true=>true|false=>match Nat.beq a.toNat b.toNat with|true=>a7C x y|false=>false)=(decide (a<b)||(a==b&&Op.bytesLess x y));rw[ih];by_cases h:a<b;have:Nat.blt a.toNat b.toNat=true:=by rw[uE];exact UInt8.lt_iff_toNat_lt.1 h
     rw[this];simp[h];have h1:Nat.blt a.toNat b.toNat=false:=by cases q:Nat.blt a.toNat b.toNat<;>first|rfl|grind[Nat.blt_eq,UInt8.lt_iff_toNat_lt]
     rw[h1];by_cases h2:a=b;subst h2;simp;grind[UInt8.toNat_inj,Nat.eq_of_beq_eq_true]
section
variable {P:Program}{T:Tab}{B0:Nat}{w0:Base}{w:World}{K:KM}{s s':S}{a:Act}{fr:List Value}{v:Value}
theorem c8Z {op k n m}(h:b3O op k n m=some v)(t w):(binOp op t (.int k n) (.int k m)).run P w=.ok v w:=by cases op<;>first|(cases h;done)|(cases h;simp[binOp,Op.intArith,Op.intCmp,a5Z];done)|(cases h;simp[binOp,Op.intCmp];rfl)
theorem a8I {k k'}(h:a2f k k'=true):k=k':=by cases k<;>cases k'<;>first|rfl|cases h
theorem c2h (k m):b0B k m=min m k.bits:=by grind[b0B,Nat.le_of_ble_eq_true,Nat.ble_eq_true_of_le]
theorem c2D {op k k' n m}(h:a4X op k n m=some v)(t w):(binOp op t (.int k (.ofNat n)) (.int k' (.ofNat m))).run P w=.ok v w:=by
 have hneg:¬(Int.ofNat m<0):=zn;have htn:(Int.ofNat m).toNat=m:=rfl;cases op with
  |shl=>cases h;show(Op.shift .shl k (.ofNat n) k' (.ofNat m)).run P w=_;simp_all[Op.shift,vg,a5Z,c2h]|shr=>
   cases h;show(Op.shift .shr k (.ofNat n) k' (.ofNat m)).run P w=_;unfold Op.shift;rw[vg hneg];simp only[htn,wI,c2h];have:(Int.ofNat n).fdiv (2^min m k.bits)=Int.ofNat (Nat.div n (Nat.pow 2 (min m k.bits))):=by
    show((n:Int)).fdiv (2^min m k.bits)=((n/2^min m k.bits:Nat):Int);have:(2^min m k.bits:Int)=((2^min m k.bits:Nat):Int):=by rfl
    rw[this];grind
   rw[this]|_=>cases h
theorem d0U {op k n m}(h:c0d op k n m=some v)(t w):(binOp op t (.int k (.ofNat n)) (.int k (.ofNat m))).run P w=.ok v w:=by
 have hbv:∀n:Nat,(BitVec.ofInt k.bits (Int.ofNat n)).toNat=n%2^k.bits:=λn=>by rfl
 cases op with
  |quo=>cases m with|zero=>cases h|succ m=>cases h;show(if k≠k then _ else Op.intDiv .quo k (.ofNat n) (.ofNat (m+1))).run P w=_;rw[vg zn];unfold Op.intDiv;rw[vg (show¬Int.ofNat (m+1)=0 fromλq=>zb)];simp only[wI,a5Z];rfl
  |rem=>cases m with|zero=>cases h|succ m=>cases h;show(if k≠k then _ else Op.intDiv .rem k (.ofNat n) (.ofNat (m+1))).run P w=_;rw[vg zn];rfl
  |and=>cases h;show(if k≠k then _ else Op.intBits .and k (.ofNat n) (.ofNat m)).run P w=_;rw[vg zn];unfold Op.intBits;simp only[wI,a5Z,BitVec.toNat_and,hbv];rfl|or=>cases h;show(if k≠k then _ else Op.intBits .or k (.ofNat n) (.ofNat m)).run P w=_;rw[vg zn];unfold Op.intBits;simp only[wI,a5Z,BitVec.toNat_or,hbv];rfl|xor=>cases h;show(if k≠k then _ else Op.intBits .xor k (.ofNat n) (.ofNat m)).run P w=_;rw[vg zn];unfold Op.intBits;simp only[wI,a5Z,BitVec.toNat_xor,hbv];rfl|_=>cases h
theorem b5T {f a b}(h:a6e f a b=some v):∃n m,a=.ofNat n/\b=.ofNat m/\f n m=some v:=by unfold a6e at h;cases a with|ofNat n=>cases b<;>grind|negSucc n=>cases h
theorem b6o {op k k' n m}(h:a3h op k k' n m=some v)(t w):(binOp op t (.int k n) (.int k' m)).run P w=.ok v w/\plain v=true:=by
 have pl:∀{o:BinOp} {a b:Nat} {u:Value},a4X o k a b=some u->plain u=true:=λ{o a b u} q=>by cases o<;>first|(cases q;rfl)|cases q
 have pl2:∀{o:BinOp} {a b:Nat} {u:Value},c0d o k a b=some u->plain u=true:=λ{o a b u} q=>by
  cases o with
   |quo=>cases b with|zero=>cases q|succ b=>cases q;rfl
   |rem=>cases b with|zero=>cases q|succ b=>cases q;rfl
   |and=>cases q;rfl|or=>cases q;rfl|xor=>cases q;rfl|_=>cases q
 have pl3:∀{o:BinOp} {a b:Int} {u:Value},b3O o k a b=some u->plain u=true:=λ{o a b u} q=>by cases o<;>first|(cases q;rfl)|cases q
 unfold a3h at h;cases h1:a6e (a4X op k) n m with|some u=>rw[h1]at h;cases h;obtain⟨a,b,rfl,rfl,q⟩:=b5T h1;grind[c2D]|none=>rw[h1]at h;simp only at h;cases hk:a2f k k' with|false=>rw[hk]at h;cases h|true=>rw[hk]at h;have:=a8I hk;subst this;simp only at h;cases h2:b3O op k n m with|some u=>rw[h2]at h;grind[c8Z]|none=>rw[h2]at h;simp only at h;obtain⟨a,b,rfl,rfl,q⟩:=b5T h;grind[d0U]
theorem c4c {op t x y k k' n m}(w):(eqGuard op t x y (.int k n) (.int k' m)).run P w=.ok () w:=by simp_all[eqGuard]
theorem c4d {op t x y p q}(w):(eqGuard op t x y (.string p) (.string q)).run P w=.ok () w:=by simp_all[eqGuard]
theorem d1a {op x y}(h:b3R op x.data.toList y.data.toList=some v)(t w):(binOp op t (.string x) (.string y)).run P w=.ok v w:=by
 have hx:x.toList=x.data.toList:=ByteArray.toList_eq x;have hy:y.toList=y.data.toList:=ByteArray.toList_eq y;cases op with
  |add=>
   have h':(match Nat.blt (F9 x.data.toList+F9 y.data.toList) a7M with|true=>fList (I9 x.data.toList y.data.toList) λl=>some (Value.string ⟨⟨l⟩⟩)|false=>none)=some v:=h;rw[a0g]at h';split at h';rename_i hb;cases h';have hb:x.size+y.size<4294967296:=by have:F9 x.data.toList+F9 y.data.toList<a7M:=zm;rw[J2,J2]at this;exact this
   have hm:¬(((x.size+y.size:Nat):Int)>IntKind.i64.max):=by have:IntKind.i64.max=9223372036854775807:=rfl;rw[this];omega
   show(Op.stringOp .add x y).run P w=_;unfold Op.stringOp;simp only[vg hm,wI];congr 2;rw[V7];have:(x++y).data=x.data++y.data:=zn;rfl;cases h'|eql=>cases h;show(Op.stringOp .eql x y).run P w=_;simp[Op.stringOp,hx,hy,a2N]|neq=>cases h;show(Op.stringOp .neq x y).run P w=_;simp[Op.stringOp,hx,hy,a2N]|lss=>cases h;show(Op.stringOp .lss x y).run P w=_;simp[Op.stringOp,hx,hy,a7S]|leq=>cases h;show(Op.stringOp .leq x y).run P w=_;simp[Op.stringOp,hx,hy,a7S,a2N]|gtr=>cases h;show(Op.stringOp .gtr x y).run P w=_;simp[Op.stringOp,hx,hy,a7S,a2N]|geq=>cases h;show(Op.stringOp .geq x y).run P w=_;simp[Op.stringOp,hx,hy,a7S]|_=>cases h
end
end Go.V
end
section
namespace Go.V
open Go.RowKit (Below)
section
variable {P:Program}{T:Tab}{B0:Nat}{w0:Base}{w:World}{K:KM}{s s':S}{a:Act}{fr:List Value}{v:Value}
theorem b0J {o}(h:pureV o s=some (v,s')):∃z,o=some z/\M7 3 z=true/\v=z/\s'=s:=by obtain⟨z,hz,h1⟩:=H9 h;obtain⟨hg,h2⟩:=I4 h1;obtain⟨rfl,rfl⟩:=y8 h2;simp_all
theorem b6n {d x' x p}(h:a4a d x=some p)(r:VR K x' x):a4a d x'=some p:=by
 cases r with
  |plain _=>exact h|ptr _ _=>cases d<;>first|exact h|cases h
  |slice _ _ _ _ _ _=>cases d<;>first|exact h|cases h
  |map _=>cases d<;>first|exact h|cases h
  |agg _ _=>cases d<;>cases h|tuple _ _=>cases d<;>cases h|func _ _ _ _=>cases d<;>first|exact h|cases h
  |iface _=>cases d<;>first|exact h|cases h
theorem d0r (hT:TabOk P T){t:TypeId}{d}(hd:T.types.get t=some d){x y p q}(h1:a4a d.und x=some p)(h2:a4a d.und y=some q)(h3:(p||q)=true)(w):(Op.equal t x y).run P w=.ok (p&&q) w:=by
 have hu:=Z7 hT hd w;unfold Op.equal Op.maxDepth Op.equalIn;simp only[wQ,hu,wV];generalize d.und=u at*;cases u with
  |pointer e=>
   cases x with
    |pointer o1=>
     cases y with
      |pointer o2=>cases o1<;>cases o2<;>cases h1<;>cases h2<;>first|rfl|cases h3
      |_=>cases h2
    |_=>cases h1
  |slice e=>
   cases x with
    |slice o1 _ _=>
     cases y with
      |slice o2 _ _=>cases o1<;>cases o2<;>cases h1<;>cases h2<;>first|rfl|cases h3
      |_=>cases h2
    |_=>cases h1
  |map e f=>
   cases x with
    |map o1=>
     cases y with
      |map o2=>cases o1<;>cases o2<;>cases h1<;>cases h2<;>first|rfl|cases h3
      |_=>cases h2
    |_=>cases h1
  |func e f g=>cases x<;>first|(cases h1;done)|(cases y<;>first|(cases h2;done)|(cases h1;cases h2;first|rfl|cases h3))
  |interface e=>cases x<;>first|(cases h1;done)|(cases y<;>first|(cases h2;done)|(cases h1;cases h2;first|rfl|cases h3))
  |_=>cases h1
theorem c3S {d x y p q}(h1:a4a d x=some p)(h2:a4a d y=some q)(t):binOp .eql t x y=(do pure (.bool (<-Op.equal t x y)))/\binOp .neq t x y=(do pure (.bool (!(<-Op.equal t x y)))):=by cases x<;>first|(cases d<;>cases h1;done)|(cases y<;>first|(cases d<;>cases h2;done)|exact⟨rfl,rfl⟩)
theorem b9k {d x y p q op X Y}(h1:a4a d x=some p)(h2:a4a d y=some q)(hc:(isConstO X||isConstO Y)=true)(t w):(eqGuard op t X Y x y).run P w=.ok () w:=by cases op<;>first|rfl|(cases x<;>first|(cases d<;>cases h1;done)|(cases y<;>first|(cases d<;>cases h2;done)|rfl|(cases X<;>cases Y<;>first|rfl|(cases hc;done))))
theorem d5X (hT:TabOk P T){t:TypeId}{d op X Y}(hop:d1L op=true)(hd:T.types.get t=some d){x y p q}(h1:a4a d.und x=some p)(h2:a4a d.und y=some q)(h3:(p||q)=true)(hc:(isConstO X||isConstO Y)=true)(w):(do eqGuard op t X Y x y;binOp op t x y).run P w=.ok (.bool (b5q op (p&&q))) w:=by obtain⟨b1,b2⟩:=c3S h1 h2 t;have he:=d0r hT hd h1 h2 h3 w;simp only[wQ,b9k h1 h2 hc t w,wV];cases op<;>first|(cases hop;done)|(rw[b1];simp[he,b5q];done)|(rw[b2];simp[he,b5q];done)
theorem d2w (hT:TabOk P T){op t X Y x y x' y'}(h:a9s P T op t X Y x y s=some (v,s'))(rx:VR K x' x)(ry:VR K y' y)(w):∃v',(do eqGuard op t X Y x' y';binOp op t x' y').run P w=.ok v' w/\VR K v' v/\s'=s:=by unfold a9s at h;cases hn:b1j T op t X Y x y with|some r=>rw[hn]at h;obtain⟨rfl,rfl⟩:=y8 h;unfold b1j at hn;split at hn;rename_i hc;simp only[wh]at hc;split at hn;rename_i d hd;split at hn;rename_i p hp;split at hn;rename_i q hq;split at hn;rename_i hpq;cases hn;exact⟨_,d5X hT hc.1 hd (b6n hp rx) (b6n hq ry) hpq hc.2 w,.plain rfl,rfl⟩;cases hn;cases hn;cases hn;cases hn;cases hn|none=>rw[hn]at h;obtain⟨hg,h1⟩:=I4 h;obtain⟨z,hz,hna,rfl,rfl⟩:=b0J h1;simp only[wh]at hg;rw[rx.eq_of_noAddr 8 hg.1,ry.eq_of_noAddr 8 hg.2];exact⟨v,a6S hz w,a0S _ _ hna,rfl⟩
theorem d9n (hT:TabOk P T){op t x y}(h:b2A P T fr op t x y s=some (v,s'))(S:Sim B0 w0 K s.h w)(hf:VRL K a.tmps.toList fr)(hg:GK T K):S9 P B0 w0 K s' (do pure (Next.value (<-(do eqGuard op t x y (a.eval x) (a.eval y);binOp op t (a.eval x) (a.eval y))))) w v:=by
 obtain⟨vx,e1,h1⟩:=a0j h;obtain⟨vy,e2,h2⟩:=a0j h1;have rx:=O7 hf hg e1;have ry:=O7 hf hg e2;have hbin:a9s P T op t x y vx vy s=some (v,s')->S9 P B0 w0 K s' (do pure (Next.value (<-(do eqGuard op t x y (a.eval x) (a.eval y);binOp op t (a.eval x) (a.eval y))))) w v:=by intro hb;obtain⟨v',q1,q2,rfl⟩:=d2w hT hb rx ry w;exact S9.quiet S rfl q1 q2
 cases vx with
  |int k n=>
   cases vy with
    |int k' m=>have h3:(match a3h op k k' n m with|some v=>M.pure v|none=>a9s P T op t x y (.int k n) (.int k' m)) s=some (v,s'):=h2;cases hi:a3h op k k' n m with|none=>rw[hi]at h3;grind|some z=>rw[hi]at h3;obtain⟨rfl,rfl⟩:=y8 h3;have ex:=rx.eq_of_plain rfl;have ey:=ry.eq_of_plain rfl;refine S9.quiet S rfl (v':=v) ?_ (.plain (b6o (P:=P) hi t w).2);rw[ex,ey];grind[Sem.run_bind,c4c,Result.andThen_ok,b6o]
    |_=>exact absurd h2 zk
  |string p=>
   cases vy with
    |string q=>have h3:M.lift (b3R op p.data.toList q.data.toList) s=some (v,s'):=h2;obtain⟨h4,rfl⟩:=a5a h3;have ex:=rx.eq_of_plain rfl;have ey:=ry.eq_of_plain rfl;refine S9.quiet S rfl (v':=v) ?_ ?_;rw[ex,ey];grind[Sem.run_bind,c4d,Result.andThen_ok,d1a];refine .plain ?_;cases op<;>first|(cases h4;done)|(have h5:(match Nat.blt (F9 p.data.toList+F9 q.data.toList) a7M with|true=>fList (I9 p.data.toList q.data.toList) λl=>some (Value.string ⟨⟨l⟩⟩)|false=>none)=some v:=h4;rw[a0g]at h5;split at h5<;>cases h5;rfl)|(cases h4;rfl)
    |_=>exact absurd h2 zk
  |_=>exact hbin h2
theorem e3u {op x}(h:b5p P T fr op x s=some (v,s'))(S:Sim B0 w0 K s.h w)(hf:VRL K a.tmps.toList fr)(hg:GK T K):S9 P B0 w0 K s' (do pure (Next.value (<-Op.unary op (a.eval x)))) w v:=by obtain⟨vx,e1,h1⟩:=a0j h;obtain⟨hgd,h2⟩:=I4 h1;obtain⟨z,hz,hna,rfl,rfl⟩:=b0J h2;have ex:=(O7 hf hg e1).eq_of_plain hgd;rw[ex];exact S9.quiet S rfl (a6S hz w) (a0S _ _ hna)
theorem d1X (hT:TabOk P T){t x y}(h:a8w T fr t x y s=some (v,s'))(S:Sim B0 w0 K s.h w)(hf:VRL K a.tmps.toList fr)(hg:GK T K):S9 P B0 w0 K s' (do pure (Next.value (<-Instr.index t (a.eval x) (a.eval y)))) w v:=by
 obtain⟨vx,e1,h1⟩:=a0j h;obtain⟨vy,e2,h2⟩:=a0j h1;obtain⟨j,hj,h3⟩:=H9 h2;obtain⟨d,hd,h4⟩:=X9 h3;obtain⟨k,rfl⟩:=a7w hj;have ey:=(O7 hf hg e2).eq_of_plain rfl;have rx:=O7 hf hg e1;generalize hu:d.und=u at h4;cases u with
  |string=>
   cases vx with
    |string b=>
     obtain⟨c,hc,h5⟩:=H9 h4;obtain⟨rfl,rfl⟩:=y8 h5;have ex:=rx.eq_of_plain rfl;rw[a2E]at hc;have hc':b[j]?=some c:=by have hlt:j<b.data.toList.length:=(xC.1 hc).1;have hlt':j<b.size:=hlt;rw[getElem?_pos b j hlt'];rw[wz hlt]at hc;exact hc
     refine S9.quiet S rfl (v':=a7b c) ?_ (.plain rfl);rw[ex,ey];simp only[Instr.index,wQ,asIntOf,wI,wV,Z7 hT hd,hu];simp[hc',a7b]|_=>exact absurd h4 zk
  |array len elem=>cases vx with|agg cs=>obtain⟨e,he,h5⟩:=X9 h4;obtain⟨hlt,h6⟩:=I4 h5;obtain⟨cs',ex,r⟩:=c8E rx;obtain⟨u',q1,q2,rfl⟩:=c1L hT h6 r w;have hlt:j<len:=zm;refine S9.quiet S rfl ?_ q2;rw[ex,ey];simp only[Instr.index,wQ,asIntOf,wI,wV,Z7 hT hd,hu];simp[hlt,a0V hT he]at q1⊢;exact q1|_=>exact absurd h4 zk
  |_=>exact absurd h4 zk
end
end Go.V
end
