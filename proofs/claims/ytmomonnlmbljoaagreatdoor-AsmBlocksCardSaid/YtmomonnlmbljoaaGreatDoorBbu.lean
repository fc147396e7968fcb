/- AsmBlocks: for every list of instructions, every block type and every label the law returns true: the row (the first form), and its tied card. Conditions: those of the given row alone (the listed package variables hold what the text of the program lays). The other texts of the folder: an evaluator of the code of the model, proved sound; the plain forms of the functions; their contracts; the reading back of printed text. Made short by a program (names, blanks). -/
import Derived.Test.YtmomonnlmbljoaaGreatDoorRows
import Derived.Test.YtmomonnlmbljoaaGreatDoorTie
import Derived.Test.YtmomonnlmbljoaaGreatDoorCards
import Derived.Test.YtmomonnlmbljoaaGreatDoorBbg
import Derived.Test.YtmomonnlmbljoaaGreatDoorBbs
import Derived.Test.YtmomonnlmbljoaaGreatDoorBbt
set_option maxRecDepth 1000000
set_option maxHeartbeats 4000000
set_option linter.unusedVariables false
set_option linter.unusedSimpArgs false
section
namespace Go.Proofs.YtmomonnlmbljoaaGreatDoor.S
open Go.ChangeShapes Go.WideShapes Go.ChangeAt Go.RowKit
theorem e6S {α:Type}{cs:List α}(h:cs.length=9):∃a0 a1 a2 a3 a4 a5 a6 a7 a8,cs=[a0,a1,a2,a3,a4,a5,a6,a7,a8]:=by match cs,h with|[a0,a1,a2,a3,a4,a5,a6,a7,a8],_=>exact⟨a0,a1,a2,a3,a4,a5,a6,a7,a8,rfl⟩
theorem e5u {α:Type}{cs:List α}(h:cs.length=7):∃a0 a1 a2 a3 a4 a5 a6,cs=[a0,a1,a2,a3,a4,a5,a6]:=by match cs,h with|[a0,a1,a2,a3,a4,a5,a6],_=>exact⟨a0,a1,a2,a3,a4,a5,a6,rfl⟩
theorem d4l {α:Type}{cs:List α}(h:cs.length=3):∃a0 a1 a2,cs=[a0,a1,a2]:=by match cs,h with|[a0,a1,a2],_=>exact⟨a0,a1,a2,rfl⟩
theorem b6s {H}{enc:TypeId×Value->H}{W sp fuel cs x}(h:DataW.trod enc Tryz.prog W 0 sp true fuel 26 cs=some x):∃k v i,cs=[.int .i64 k,.int .i64 v,.int .i64 i]/\(Lit.int .i64 i).wf=true:=by obtain⟨xs,n,_,_,hl,hlen,hf⟩:=DataW.trod_struct Tryz.underlying26 h;obtain⟨c0,c1,c2,rfl⟩:=d4l (hl.trans zw);obtain⟨y0,y1,y2,rfl⟩:=d4l (hlen.trans zw);have k3:Tryz.prog.cellsOf 3=1:=zw;have k24:Tryz.prog.cellsOf 24=1:=zw;have f0:DataW.trod enc Tryz.prog W 0 sp true n 3 (([c0,c1,c2].drop 0).take (Tryz.prog.cellsOf 3))=some y0:=hf 0 _ rfl;have f1:DataW.trod enc Tryz.prog W 0 sp true n 24 (([c0,c1,c2].drop 1).take (Tryz.prog.cellsOf 24))=some y1:=hf 1 _ rfl;have f2:DataW.trod enc Tryz.prog W 0 sp true n 3 (([c0,c1,c2].drop 2).take (Tryz.prog.cellsOf 3))=some y2:=hf 2 _ rfl;rw[k3]at f0 f2;rw[k24]at f1;obtain⟨k,e0,_,_⟩:=sS uX f0;obtain⟨v,e1,_,_⟩:=sS Tryz.underlying24 f1;obtain⟨i,e2,_,w2⟩:=sS uX f2;simp at e0 e1 e2;exact⟨k,v,i,by rw[e0,e1,e2],w2⟩
theorem c6m {H enc W fuel cs x}(h:DataW.trod enc Tryz.prog W 0 (λ_=>true) true fuel 30 cs=some x):∃(op A B N k v i:Int) (tv lv:Value) (n:Nat) (x1 x2:DataW H×List MemPlace),cs=[.int .i64 op,.int .i64 A,.int .i64 B,.int .u64 N,.int .i64 k,.int .i64 v,.int .i64 i,tv,lv]/\(Lit.int .u64 N).wf=true/\(Lit.int .i64 i).wf=true/\DataW.trod enc Tryz.prog W 0 (λ_=>true) true n 27 [tv]=some x1/\DataW.trod enc Tryz.prog W 0 (λ_=>true) true n 28 [lv]=some x2:=by obtain⟨xs,n,_,_,hl,hlen,hf⟩:=DataW.trod_struct Tryz.underlying30 h;obtain⟨c0,c1,c2,c3,c4,c5,c6,c7,c8,rfl⟩:=e6S (hl.trans zw);obtain⟨y0,y1,y2,y3,y4,y5,y6,rfl⟩:=e5u (hlen.trans zw);have k3:Tryz.prog.cellsOf 3=1:=zw;have k22:Tryz.prog.cellsOf 22=1:=zw;have k23:Tryz.prog.cellsOf 23=1:=zw;have k26:Tryz.prog.cellsOf 26=3:=zw;have k27:Tryz.prog.cellsOf 27=1:=zw;have k28:Tryz.prog.cellsOf 28=1:=zw;have f0:DataW.trod enc Tryz.prog W 0 (λ_=>true) true n 22 (([c0,c1,c2,c3,c4,c5,c6,c7,c8].drop 0).take (Tryz.prog.cellsOf 22))=some y0:=hf 0 _ rfl;have f1:DataW.trod enc Tryz.prog W 0 (λ_=>true) true n 3 (([c0,c1,c2,c3,c4,c5,c6,c7,c8].drop 1).take (Tryz.prog.cellsOf 3))=some y1:=hf 1 _ rfl;have f2:DataW.trod enc Tryz.prog W 0 (λ_=>true) true n 3 (([c0,c1,c2,c3,c4,c5,c6,c7,c8].drop 2).take (Tryz.prog.cellsOf 3))=some y2:=hf 2 _ rfl;have f3:DataW.trod enc Tryz.prog W 0 (λ_=>true) true n 23 (([c0,c1,c2,c3,c4,c5,c6,c7,c8].drop 3).take (Tryz.prog.cellsOf 23))=some y3:=hf 3 _ rfl;have f4:DataW.trod enc Tryz.prog W 0 (λ_=>true) true n 26 (([c0,c1,c2,c3,c4,c5,c6,c7,c8].drop 4).take (Tryz.prog.cellsOf 26))=some y4:=hf 4 _ rfl;have f5:DataW.trod enc Tryz.prog W 0 (λ_=>true) true n 27 (([c0,c1,c2,c3,c4,c5,c6,c7,c8].drop 7).take (Tryz.prog.cellsOf 27))=some y5:=hf 5 _ rfl;have f6:DataW.trod enc Tryz.prog W 0 (λ_=>true) true n 28 (([c0,c1,c2,c3,c4,c5,c6,c7,c8].drop 8).take (Tryz.prog.cellsOf 28))=some y6:=hf 6 _ rfl;rw[k22]at f0;rw[k3]at f1 f2;rw[k23]at f3;rw[k26]at f4;rw[k27]at f5;rw[k28]at f6;obtain⟨op,e0,_,_⟩:=sS Tryz.underlying22 f0;obtain⟨A,e1,_,_⟩:=sS uX f1;obtain⟨B,e2,_,_⟩:=sS uX f2;obtain⟨N,e3,_,w3⟩:=sS sG f3;obtain⟨k,v,i,e4,w4⟩:=b6s f4;simp at e0 e1 e2 e3 e4;exact⟨op,A,B,N,k,v,i,c7,c8,n,y5,y6,by rw[e0,e1,e2,e3,e4.1,e4.2.1,e4.2.2],w3,w4,f5,f6⟩
end Go.Proofs.YtmomonnlmbljoaaGreatDoor.S
end
section
namespace Go.Proofs.YtmomonnlmbljoaaGreatDoor.S
open Go.V Go.RowKit Go.Shelf Go.Proofs
variable {mL:Int}
theorem d0R:∀l,y8 0 (l.map λx=>(x,0)) l.length=some l:=by intro l;induction l with|nil=>rfl|cons x l ih=>show(match Nat.ble 0 0 with|true=>(match y8 0 (l.map λx=>(x,0)) l.length with|some vs=>some (x::vs)|none=>none)|false=>none)=_;rw[ih]
theorem e2x {N}(h:(Lit.int .u64 N).wf=true):∃n,N=.ofNat n/\n<18446744073709551616:=by
 have h':(0:Int)<=N/\N<=18446744073709551615:=by simp[Lit.wf,IntKind.min,IntKind.max,IntKind.signed,IntKind.bits]at h;omega
 exact⟨N.toNat,zm,zy⟩
end Go.Proofs.YtmomonnlmbljoaaGreatDoor.S
end
section
noncomputable section
namespace Go.V
open Go.RowKit (Below)
section
variable {P:Program}{T:Tab}{w:World}{rows:a2G}
theorem c9E {R}(hR:∀k,w.heap.size<=k->R k)(locs)(hlen:locs.length=rows.length)(hlt:∀p∈locs,p.1<w.heap.size/\R p.1)(hcell:∀(b:Nat) (p) (l),locs[b]?=some p->rows[b]?=some l->∀(off) (v),l[off]?=some v->∃v',w.cell? ⟨p.1,p.2+off,none⟩=some v'/\VR (a6G locs) v' v):Sim w.heap.size ⟨w,R⟩ (a6G locs) (a3d rows).h w:=by
 have hcs:∀b cs cur ro,(a3d rows).h.get b=some (.cells cs cur ro)->∃l,rows[b]?=some l/\cs=l.map (λx=>(x,0))/\cur=0/\ro=true:=by intro b cs cur ro h;rw[a1x]at h;grind
 refine⟨⟨wQ _,hR⟩,rV _ _,?_,?_,?_,?_,?_,?_,?_,?_,?_,?_,λb g l h _=>by grind[a3x]⟩;intro b g l h;obtain⟨p,h1,_,rfl⟩:=a3x h;grind;intro b g l h;obtain⟨p,h1,_,rfl⟩:=a3x h;have hb:b<rows.length:=by rw[<-hlen];grind
 rw[a1x,wO hb];simp_all;intro b g l h ho;obtain⟨_,_,_,rfl⟩:=a3x h;cases ho;intro b g l b' g' l' h _ _ ho;obtain⟨_,_,_,rfl⟩:=a3x h;cases ho;intro b g l g' l' h h';obtain⟨p,h1,_,rfl⟩:=a3x h;obtain⟨p',h1',_,rfl⟩:=a3x h';rw[h1]at h1';simp_all;intro b g l cs cur ro h ho;obtain⟨_,_,_,rfl⟩:=a3x h;cases ho;intro b cs cur ro h;obtain⟨l,h1,rfl,rfl,rfl⟩:=hcs b cs cur ro h;have hb:b<locs.length:=by rw[hlen];grind
 refine⟨λg l' q=>?_,λg hg=>?_,λc hc=>?_⟩;obtain⟨_,_,rfl,rfl⟩:=a3x q;simp_all;obtain rfl:g=0:=ol.1 hg;simp_all[b0j];grind;intro b cs cur ro g l h hk off v st hv hst hlo;obtain⟨l',h1,rfl,rfl,rfl⟩:=hcs b cs cur ro h;obtain⟨p,h2,rfl,rfl⟩:=a3x hk;rw[vM]at hv;grind;grind[a1x];grind[a1x]
theorem b7j {vs}(hT:TabOk P T)(hM:P.follows .mixedOrders=true)(locs)(hlen:locs.length=rows.length)(hlt:∀p∈locs,p.1<w.heap.size)(hcell:∀(b:Nat) (p) (l),locs[b]?=some p->rows[b]?=some l->∀(off) (v),l[off]?=some v->∃v',w.cell? ⟨p.1,p.2+off,none⟩=some v'/\VR (a6G locs) v' v)(hng:∀g,g<T.ng->locs[g]?=some (g,0))(hL:LaidV vs w){ext}(hE:a2B P T vs ext){N}{sh}(hs:a7T P T ext N sh){n f}{fn}{c}{args' args}{v}{s'}(hPf:P.funcs[f]?=some fn)(hnum:(fn.name== "runtime.NumGoroutine")=false)(hb:fn.body=some c)(ha:VRL (a6G locs) args' args)(hv:K9 8 v=true)(h:o8 sh n f args (a3d rows)=some (.ret v,s')):Calls P f args'.toArray w λe w'=>e=.returned v/\Below w.heap.size w w':=by have hE':=hE w.heap.size ⟨w,λ_=>True⟩ hL hL.size;rcases b0S hT hM hE' hs n f args (a3d rows) (.ret v) s' w (a6G locs) args' h (c9E (λ_ _=>trivial) locs hlen (λp hp=>⟨hlt p hp,trivial⟩) hcell) (λg hg=>⟨_,b0j (hng g hg),rfl,rfl,rfl⟩) (λi hi _=>by rw[a1x];have:rows.length<=i:=yE;rw[vo this]) ha with⟨v1,v',w',K',_,q1,_⟩|⟨_,q⟩;rw[V4 hPf hnum hb]at q1;cases q1;refine q.mono λe w' hq=>?_;obtain⟨v',K',e1,st,r⟩:=hq;rw[e1,r.eq_of_noAddr 8 hv];exact⟨rfl,st.sim.below⟩
end
end Go.V
end
section
namespace Go.Proofs.YtmomonnlmbljoaaGreatDoor.S
open Go.ChangeShapes Go.WideShapes Go.ChangeAt Go.RowKit Go.V
theorem d3n {W base t e v}(ht:Tryz.prog.underlying t=some (.slice e))(h:Value.okWide Tryz.prog W .any base t v):v=.slice none 0 0\/∃a len cap,v=.slice (some a) len cap/\a.spot=none/\a.block<W.heap.size:=by
 have h1:Cell.okWide Tryz.prog W .any base t v:=by unfold Value.okWide at h;rw[ht]at h;exact h
 have h2:Cell.ok Tryz.prog W .any base t v:=by unfold Cell.okWide at h1;rw[ht]at h1;cases v<;>exact h1
 cases v with
  |slice o len cap=>
   cases o with
    |none=>
     unfold Cell.ok at h2;rw[ht]at h2;cases len with
      |zero=>cases cap with|zero=>exact Or.inl rfl|succ n=>exact(h2:False).elim
      |succ n=>exact(h2:False).elim
    |some a=>unfold Cell.ok at h2;rw[ht]at h2;obtain⟨_,_,_,hs,row,cells,hsh,_⟩:=h2;refine Or.inr ⟨a,len,cap,rfl,hs,?_⟩;rcases ui a.block W.heap.size with q|q;exact q;unfold World.shape? at hsh;rw[Array.getElem?_eq_none q]at hsh;cases hsh
  |_=>unfold Cell.ok at h2;rw[ht]at h2;exact(h2:False).elim
def b2B (W:World)(v:Value)(l:List Int):Prop:=(v=.slice none 0 0/\l=[])\/(∃a,v=.slice (some a) 0 0/\l=[])\/∃(a:Addr) (cap:Nat),v=.slice (some a) l.length (cap+1)/\l.length<=cap+1/\a.spot=none/\a.block<W.heap.size/\∀(i:Nat) (z:Int),l[i]?=some z->W.cell? ⟨a.block,a.off+i,none⟩=some (.int .i64 z)
theorem b6i {H}{enc:TypeId×Value->H}{W fuel v x t e}(ht:Tryz.prog.underlying t=some (.slice e))(he:Tryz.prog.underlying e=some (.int .i64))(hc:Tryz.prog.cellsOf e=1)(h:DataW.trod enc Tryz.prog W 0 (λ_=>true) true fuel t [v]=some x):∃l,b2B W v l:=by
 rcases open_ints ht he hc h with⟨e0,_⟩|⟨a,len,cap,zs,e0,_,h1,h2,h3,_,h4,_⟩;exact⟨[],Or.inl ⟨by simpa using e0,rfl⟩⟩;have h3':zs.length=cap:=by simpa using h3
 have e0':v=.slice (some a) len cap:=by simpa using e0
 cases cap with
  |zero=>obtain rfl:len=0:=zy;exact⟨[],Or.inr (Or.inl ⟨a,e0',rfl⟩)⟩|succ cap=>
   have hl:(zs.take len).length=len:=by rw[tN];omega
   have c0:=h4 0 zy;have hs:a.spot=none:=by simpa[Addr.add]using World.cell?_spot c0
   have hb:a.block<W.heap.size:=by simpa[Addr.add]using World.block_lt_of_cell? _ _ c0
   refine⟨zs.take len,Or.inr (Or.inr ⟨a,cap,by rw[hl];exact e0',zy,hs,hb,λi z hz=>?_⟩)⟩;have hi:i<len:=by rw[<-hl];exact(wM.1 hz).1
   have e:=h4 i zy;obtain⟨ab,ao,asp⟩:=a;cases hs;rw[show(⟨ab,ao,none⟩:Addr).add i=⟨ab,ao+i,none⟩ by simp[Addr.add]]at e;show W.cell? ⟨ab,ao+i,none⟩=_;rw[e];rw[tL,vH hi]at hz;simp[List.getD,hz]
def b3c (j:Nat):Value->Value|.slice (some _) n _=>.slice (some ⟨j,0,some 0⟩) n 1|_=>.slice none 0 0
def pOf:Value->Nat×Nat|.slice (some a) _ (_+1)=>(a.block,a.off)|_=>(0,0)
theorem c4j {W v l}(h0:0<W.heap.size)(H:b2B W v l):(pOf v).1<W.heap.size:=by rcases H with⟨rfl,rfl⟩|⟨a,rfl,rfl⟩|⟨a,cap,rfl,_,_,h3,_⟩;exact h0;exact h0;exact h3
theorem b6K {W v l}(H:b2B W v l)(off x)(hx:(M0 l)[off]?=some x):W.cell? ⟨(pOf v).1,(pOf v).2+off,none⟩=some x/\plain x=true:=by rcases H with⟨rfl,rfl⟩|⟨a,rfl,rfl⟩|⟨a,cap,rfl,_,_,h3,h4⟩;cases hx;cases hx;unfold M0 at hx;rw[vM]at hx;cases q:l[off]? with|none=>rw[q]at hx;cases hx|some z=>rw[q]at hx;cases hx;exact⟨h4 off z q,rfl⟩
theorem c0W {W v l}(H:b2B W v l){j locs}(hj:locs[j]?=some (pOf v)):VR (a6G locs) v (b3c j v):=by rcases H with⟨rfl,rfl⟩|⟨a,rfl,rfl⟩|⟨a,cap,rfl,h1,h2,h3,h4⟩;exact VR.plain rfl;exact VR.slice (b0j hj) (wQ _) zu (wQ _) (Or.inl rfl) (Or.inl rfl);exact VR.slice (b0j hj) (wQ _) zu h1 (Or.inr h2) (Or.inr ⟨rfl,by simp[pOf],λh=>zg⟩)
theorem b8n {W v l}(H:b2B W v l){j rows}(hj:rows[j]?=some (M0 l)):K8 (Go.V.a3d rows).c (Go.V.a3d rows).h (b3c j v) (M0 l):=by
 have hlen:(M0 l).length=l.length:=by unfold M0;rw[wF]
 rcases H with⟨rfl,rfl⟩|⟨a,rfl,rfl⟩|⟨a,cap,rfl,h1,h2,h3,h4⟩;exact⟨none,0,rfl,Or.inl rfl⟩;exact⟨some ⟨j,0,some 0⟩,1,rfl,Or.inl rfl⟩;refine⟨some ⟨j,0,some 0⟩,1,by rw[hlen];rfl,Or.inr ⟨j,0,0,(M0 l).map λx=>(x,0),0,true,rfl,rfl,?_,?_,?_⟩⟩;show j<x8 rows;rw[F9];exact(wM.1 hj).1;rw[a1x,hj];rw[a0i];exact d0R _
theorem d5E {α:Type}{p:Nat->α->Prop}:∀n,(∀i,i<n->∃x,p i x)->∃l:List α,l.length=n/\∀i x,l[i]?=some x->p i x:=by
 intro n;induction n with
  |zero=>exactλ_=>⟨[],rfl,λi x h=>by simp at h⟩|succ n ih=>
   intro h;obtain⟨l,h1,h2⟩:=ih λi hi=>h i zy;obtain⟨x,hx⟩:=h n (wE n);refine⟨l++[x],by rw[wG,h1];rfl,λi y hy=>?_⟩;rcases ui i l.length with q|q;rw[vF q]at hy;exact h2 i y hy;rw[vG q]at hy;have hi:i-l.length=0:=by rcases rW (i-l.length)with r|r;exact r;rw[vo zm]at hy;cases hy
   rw[hi]at hy;cases hy;rw[show i=n by omega];exact hx
theorem b8L {α β:Type}(f g:Nat->α->β):∀(l:List α) (k i),((l.mapIdx λi y=>[f (k+i) y,g (k+i) y]).flatten)[2*i]?=(l[i]?).map (f (k+i))/\((l.mapIdx λi y=>[f (k+i) y,g (k+i) y]).flatten)[2*i+1]?=(l[i]?).map (g (k+i)):=by intro l;induction l with|nil=>intro k i;simp|cons y l ih=>intro k i;rw[List.mapIdx_cons];cases i with|zero=>simp|succ i=>have:=ih (k+1) i;have e:∀j,k+1+j=k+(j+1):=λj=>zy;simp only[e]at this;simp only[List.flatten_cons,vD,vR,show 2*(i+1)=2*i+1+1 by omega,tq];exact this
theorem c0i:∀(l:List IR) (i j) (x),l[i]?=some x->j<9->(l.flatMap a4R)[i*9+j]?=(a4R x)[j]?:=by intro l;induction l with|nil=>intro i j x h;simp at h|cons y l ih=>intro i j x h hj;have h9:(a4R y).length=9:=rfl;rw[vU];cases i with|zero=>cases h;rw[tT,vV,vF zy]|succ i=>rw[vG zy,h9,show(i+1)*9+j-9=i*9+j by omega];exact ih i j x (by simpa using h) hj
theorem c0p (l:List IR):(l.flatMap a4R).length=l.length*9:=by induction l with|nil=>rfl|cons y l ih=>rw[vU,wG,ih];show 9+l.length*9=(l.length+1)*9;omega
theorem d7E:∀(l:List Value) (n),n<=l.length->y8 0 (l.map λx=>(x,0)) n=some (l.take n):=by
 intro l;induction l with
  |nil=>
   intro n h;obtain rfl:n=0:=by simpa using h
   rfl|cons x l ih=>intro n h;cases n with|zero=>rfl|succ n=>show(match Nat.ble 0 0 with|true=>(match y8 0 (l.map λx=>(x,0)) n with|some vs=>some (x::vs)|none=>none)|false=>none)=_;rw[ih n (by simpa using h)];rfl
abbrev YR:Type:=Ins×Value×Value
structure HandI (W:World) (a:Addr) (i:Nat) (y:YR):Prop where
 cells:∀ (j:Nat) (x:Value),(a4R y)[j]?=some x→W.cell? ⟨a.block,a.off+(i * 9+j),none⟩=some x
 N:y.1.N<18446744073709551616
 t:b2B W y.2.1 y.1.types
 l:b2B W y.2.2 y.1.labels
def a6I (Ys:List YR):List IR:=Ys.mapIdx λi y=>(y.1,b3c (8+2*i) y.2.1,b3c (8+2*i+1) y.2.2)
def a8X (Ys:List YR):a2G:=(Ys.mapIdx λi y=>[(λ(_:Nat) (y:YR)=>M0 y.1.types) (0+i) y,(λ(_:Nat) (y:YR)=>M0 y.1.labels) (0+i) y]).flatten
def a9R (Ys:List YR):List (Nat×Nat):=(Ys.mapIdx λi y=>[(λ(_:Nat) (y:YR)=>pOf y.2.1) (0+i) y,(λ(_:Nat) (y:YR)=>pOf y.2.2) (0+i) y]).flatten
noncomputable def a6A (mL:Int)(Ys:List YR):a2G:=I6 mL++((a6I Ys).flatMap a4R::a8X Ys)
def a7N (p:Nat×Nat)(Ys:List YR):List (Nat×Nat):=[(0,0),(1,0),(2,0),(3,0),(4,0),(5,0),(6,0)]++(p::a9R Ys)
theorem c1y {Ys i y}(h:Ys[i]?=some y):(a6I Ys)[i]?=some (y.1,b3c (8+2*i) y.2.1,b3c (8+2*i+1) y.2.2):=by unfold a6I;rw[pI,h];rfl
theorem c9Z (Ys):(a6I Ys).length=Ys.length:=by unfold a6I;rw[List.length_mapIdx]
theorem c2T (mL Ys):(a6A mL Ys)[7]?=some ((a6I Ys).flatMap a4R):=rfl
theorem d9e (p Ys):(a7N p Ys)[7]?=some p:=rfl
theorem c2I (mL Ys k):(a6A mL Ys)[8+k]?=(a8X Ys)[k]?:=by show(I6 mL++((a6I Ys).flatMap a4R::a8X Ys))[8+k]?=_;rw[vG (by show 7<=_;omega),show 8+k-(I6 mL).length=k+1 by show 8+k-7=_;omega,tq]
theorem b5V (p Ys k):(a7N p Ys)[8+k]?=(a9R Ys)[k]?:=by show([(0,0),(1,0),(2,0),(3,0),(4,0),(5,0),(6,0)]++(p::a9R Ys))[8+k]?=_;rw[vG (by show 7<=_;omega),show 8+k-([(0,0),(1,0),(2,0),(3,0),(4,0),(5,0),(6,0)]:List (Nat×Nat)).length=k+1 by show 8+k-7=_;omega,tq]
theorem b1g (Ys i):(a8X Ys)[2*i]?=(Ys[i]?).map (λy=>M0 y.1.types)/\(a8X Ys)[2*i+1]?=(Ys[i]?).map λy=>M0 y.1.labels:=b8L (λ(_:Nat) (y:YR)=>M0 y.1.types) (λ(_:Nat) (y:YR)=>M0 y.1.labels) Ys 0 i
theorem a9h (Ys i):(a9R Ys)[2*i]?=(Ys[i]?).map (λy=>pOf y.2.1)/\(a9R Ys)[2*i+1]?=(Ys[i]?).map λy=>pOf y.2.2:=b8L (λ(_:Nat) (y:YR)=>pOf y.2.1) (λ(_:Nat) (y:YR)=>pOf y.2.2) Ys 0 i
theorem d3w (k):k=2*(k/2)\/k=2*(k/2)+1:=zy
theorem d1c (Ys):(a9R Ys).length=(a8X Ys).length:=by
 have h:∀k:Nat,((a9R Ys)[k]?).isSome=((a8X Ys)[k]?).isSome:=by intro k;rcases d3w k with q|q;rw[q,(a9h Ys (k/2)).1,(b1g Ys (k/2)).1];cases Ys[k/2]? <;>rfl;rw[q,(a9h Ys (k/2)).2,(b1g Ys (k/2)).2];cases Ys[k/2]? <;>rfl
 rcases oK (a9R Ys).length (a8X Ys).length with q|q|q;have:=h (a9R Ys).length;rw[vo (wQ _),wO q]at this;cases this;exact q;have:=h (a8X Ys).length;rw[vo (l:=a8X Ys) (wQ _),wO q]at this;cases this
theorem c7d (mL W a Ys)(hY:∀i y,Ys[i]?=some y->HandI W a i y)(v)(hv:v=.slice (some ⟨7,0,some 0⟩) Ys.length 9\/(Ys=[]/\∃o e,v=.slice o 0 e)):InsL (Go.V.a3d (a6A mL Ys)).c (Go.V.a3d (a6A mL Ys)).h v (a6I Ys):=by
 refine⟨?_,λx hx=>?_⟩;rcases hv with rfl|⟨rfl,o,e,rfl⟩;refine⟨_,9,by rw[c9Z],Or.inr ⟨7,0,0,((a6I Ys).flatMap a4R).map λx=>(x,0),0,true,rfl,rfl,?_,?_,λi x hx=>?_⟩⟩;show 7<x8 (a6A mL Ys);rw[F9];exact(wM.1 (c2T mL Ys)).1;rw[a1x,c2T];have hi:i<(a6I Ys).length:=(wM.1 hx).1;have hn:=c0p (a6I Ys);rw[vV,a0D,<-List.map_drop,d7E _ _ (by rw[uq];omega)];congr 1;refine uj λj=>?_;rcases ui j 9 with q|q;rw[tL,vH q,uT];exact c0i _ i j x hx q;rw[vo (by rw[tN];omega),vo (by show 9<=j;exact q)];exact⟨o,e,rfl,Or.inl rfl⟩;obtain⟨i,hi⟩:=sN.1 hx;cases q:Ys[i]? with
  |none=>
   have:(a6I Ys)[i]?=none:=by unfold a6I;rw[pI,q];rfl
   rw[this]at hi;cases hi|some y=>
   rw[c1y q]at hi;cases hi;have h1:(a6A mL Ys)[8+2*i]?=some (M0 y.1.types):=by rw[c2I,(b1g Ys i).1,q];rfl
   have h2:(a6A mL Ys)[8+2*i+1]?=some (M0 y.1.labels):=by rw[sJ,c2I,(b1g Ys i).2,q];rfl
   exact⟨b8n (hY i y q).t h1,b8n (hY i y q).l h2⟩
theorem c3H {H}{enc:TypeId×Value->H}{W fuel v x}(h:DataW.trod enc Tryz.prog W 0 (λ_=>true) true fuel 32 [v]=some x):(v=.slice none 0 0)\/∃(a:Addr) (cap:Nat) (Ys:List YR),v=.slice (some a) Ys.length cap/\Ys.length<=cap/\∀i y,Ys[i]?=some y->HandI W a i y:=by
 have k30:Tryz.prog.cellsOf 30=9:=zw;rcases Go.Deep.open_slice Tryz.underlying32 h with⟨e0,_⟩|⟨a,len,cap,m,n,D,Pl,e0,_,hle,_,hm,_,hi⟩;exact Or.inl (by simpa using e0);have hm':m=cap:=by rw[hm];rfl
 subst hm';have e0':v=.slice (some a) len m:=by simpa using e0
 rw[k30]at hi;have key:∀i,i<len->∃y:YR,HandI W a i y:=by
  intro i hil;obtain⟨cs',h1,h2⟩:=hi i zy;obtain⟨op,A,B,N,k,v1,i1,tv,lv,n',x1,x2,rfl,wN,_,t1,t2⟩:=c6m h2;obtain⟨N,rfl,hN⟩:=e2x wN;obtain⟨lt,Ht⟩:=b6i Tryz.underlying27 Tryz.underlying24 zw t1;obtain⟨ll,Hl⟩:=b6i Tryz.underlying28 uX zw t2;refine⟨(⟨op,A,B,N,k,v1,i1,lt,ll⟩,tv,lv),⟨λj x hj=>?_,hN,Ht,Hl⟩⟩;have hj9:j<9:=(wM.1 hj).1;unfold World.cells? at h1;rw[vH (vC _)]at h1;have hx:=mapM_some_get h1 j j (by simp[hj9]);have hs:a.spot=none\/a.spot≠none:=by cases a.spot<;>simp
  have c0:=mapM_some_get h1 0 0 zq;have hx':W.cell? ((a.add (i*9)).add j)=some x:=hx.trans hj;rw[Go.Deep.add_add]at hx';have hsp:=World.cell?_spot hx';have e:a.add (i*9+j)=⟨a.block,a.off+(i*9+j),none⟩:=by obtain⟨ab,ao,asp⟩:=a;unfold Addr.add at hsp⊢;by_cases q:i*9+j=0;rw[vH q]at hsp⊢;simp only at hsp;rw[hsp,q];rfl;rw[vN q]
  rw[e]at hx';exact hx'
 obtain⟨Ys,hlen,hY⟩:=d5E len key;exact Or.inr ⟨a,m,Ys,by rw[hlen];exact e0',zy,hY⟩
theorem d1o {W a p Ys i y}(hy:Ys[i]?=some y)(HI:HandI W a i y)(j:Nat)(x)(hx:(a4R (y.1,b3c (8+2*i) y.2.1,b3c (8+2*i+1) y.2.2))[j]?=some x):∃x',(a4R y)[j]?=some x'/\VR (a6G (a7N p Ys)) x' x:=by
 have g1:(a7N p Ys)[8+2*i]?=some (pOf y.2.1):=by rw[b5V,(a9h Ys i).1,hy];rfl
 have g2:(a7N p Ys)[8+2*i+1]?=some (pOf y.2.2):=by rw[sJ,b5V,(a9h Ys i).2,hy];rfl
 rcases j with _|_|_|_|_|_|_|_|_|j;cases hx;exact⟨_,rfl,VR.plain rfl⟩;cases hx;exact⟨_,rfl,VR.plain rfl⟩;cases hx;exact⟨_,rfl,VR.plain rfl⟩;cases hx;exact⟨_,rfl,VR.plain rfl⟩;cases hx;exact⟨_,rfl,VR.plain rfl⟩;cases hx;exact⟨_,rfl,VR.plain rfl⟩;cases hx;exact⟨_,rfl,VR.plain rfl⟩;cases hx;exact⟨_,rfl,c0W HI.t g1⟩;cases hx;exact⟨_,rfl,c0W HI.l g2⟩;cases hx
end Go.Proofs.YtmomonnlmbljoaaGreatDoor.S
end
section
namespace Go.Proofs.YtmomonnlmbljoaaGreatDoor.S
open Go.V Go.RowKit Go.Shelf Go.Proofs
variable {mL:Int}
theorem d6f {W mL}(hL:LaidV (I6 mL) W)(a)(ha:a.block<W.heap.size)(Ys)(hY:∀i y,Ys[i]?=some y->HandI W a i y):∀p∈a7N (a.block,a.off) Ys,p.1<W.heap.size:=by
 have hsz:0<W.heap.size:=wD (show 0<(I6 mL).length from by show 0<7;decide) hL.size;have hb:∀j,j<7->j<W.heap.size:=λj hj=>wD hj (show 7<=W.heap.size from hL.size);intro p hp;obtain⟨k,hk⟩:=sN.1 hp;rcases ui k 8 with q|q;rcases k with _|_|_|_|_|_|_|_|k;cases hk;exact hb 0 zu;cases hk;exact hb 1 zu;cases hk;exact hb 2 zu;cases hk;exact hb 3 zu;cases hk;exact hb 4 zu;cases hk;exact hb 5 zu;cases hk;exact hb 6 zu;cases hk;exact ha;omega;obtain⟨k,rfl⟩:∃m,k=8+m:=⟨k-8,zy⟩;rw[b5V]at hk;rcases d3w k with e|e;rw[e,(a9h Ys (k/2)).1]at hk;cases q2:Ys[k/2]? with|none=>rw[q2]at hk;cases hk|some y=>rw[q2]at hk;cases hk;exact c4j hsz (hY _ y q2).t
 rw[e,(a9h Ys (k/2)).2]at hk;cases q2:Ys[k/2]? with|none=>rw[q2]at hk;cases hk|some y=>rw[q2]at hk;cases hk;exact c4j hsz (hY _ y q2).l
theorem d0x {W mL}(hL:LaidV (I6 mL) W)(a)(ha:a.block<W.heap.size)(Ys)(hY:∀i y,Ys[i]?=some y->HandI W a i y):∀(b:Nat) (p) (l),(a7N (a.block,a.off) Ys)[b]?=some p->(a6A mL Ys)[b]?=some l->∀(off) (x),l[off]?=some x->∃x',W.cell? ⟨p.1,p.2+off,none⟩=some x'/\VR (a6G (a7N (a.block,a.off) Ys)) x' x:=by
 intro b p l hp hl off x hx;rcases ui b 7 with q|q;·
  have hv':∀g l,(I6 mL)[g]?=some l->∀off x,l[off]?=some x->W.cell? ⟨g,0+off,none⟩=some x/\plain x=true:=λg l hl off x hx=>⟨by rw[vV];exact hL.cell g l hl off x hx,a2Q l (vP hl) x (vP hx)⟩;have hl':(I6 mL)[b]?=some l:=by have:(a6A mL Ys)[b]?=(I6 mL)[b]?:=vF (by show b<7;exact q);rw[<-this];exact hl
  have hp':p=(b,0):=by rcases b with _|_|_|_|_|_|_|b;all_goals first|(cases hp;rfl)|omega
  subst hp';obtain⟨e1,e2⟩:=hv' b l hl' off x hx;exact⟨x,e1,VR.plain e2⟩
 rcases Nat.eq_or_lt_of_le q with q|q;obtain rfl:=q.symm;rw[d9e]at hp;rw[c2T]at hl;cases hp;cases hl;have ho:off=off/9*9+off%9:=zy;have hi:off/9<(a6I Ys).length:=by have:=(wM.1 hx).1;rw[c0p]at this;omega
 cases q2:Ys[off/9]? with|none=>rw[c9Z]at hi;rw[wO hi]at q2;cases q2|some y=>rw[ho,c0i _ _ _ _ (c1y q2) zy]at hx;obtain⟨x',e1,e2⟩:=d1o (p:=(a.block,a.off)) q2 (hY _ y q2) _ x hx;refine⟨x',?_,e2⟩;have:=(hY _ y q2).cells _ x' e1;rw[<-ho]at this;exact this
 obtain⟨k,rfl⟩:∃m,b=8+m:=⟨b-8,zy⟩;rw[b5V]at hp;rw[c2I]at hl;rcases d3w k with e|e;rw[e,(a9h Ys (k/2)).1]at hp;rw[e,(b1g Ys (k/2)).1]at hl;cases q2:Ys[k/2]? with|none=>rw[q2]at hp;cases hp|some y=>rw[q2]at hp hl;cases hp;cases hl;obtain⟨e1,e2⟩:=b6K (hY _ y q2).t off x hx;exact⟨x,e1,VR.plain e2⟩
 rw[e,(a9h Ys (k/2)).2]at hp;rw[e,(b1g Ys (k/2)).2]at hl;cases q2:Ys[k/2]? with|none=>rw[q2]at hp;cases hp|some y=>rw[q2]at hp hl;cases hp;cases hl;obtain⟨e1,e2⟩:=b6K (hY _ y q2).l off x hx;exact⟨x,e1,VR.plain e2⟩
theorem d3q (mL p Ys):(a7N p Ys).length=(a6A mL Ys).length:=by have h7:(I6 mL).length=7:=rfl;unfold a7N a6A;simp only[wG,wI,vE,d1c,h7]
theorem b8q {W mL}(hL:LaidV (I6 mL) W)(a)(ha:a.block<W.heap.size)(Ys)(hY:∀i y,Ys[i]?=some y->HandI W a i y)(k v i T v0 v1)(hv:v1=.slice (some ⟨7,0,some 0⟩) Ys.length 9\/(Ys=[]/\∃o e,v1=.slice o 0 e))(hr:∀L,L[7]?=some (a.block,a.off)->VR (a6G L) v0 v1):Calls Tryz.prog 6 #[v0,.agg #[.int .i64 k,.int .i64 v,.int .i64 i],.string ⟨⟨T⟩⟩] W λe W'=>e=.returned (.bool true)/\Below W.heap.size W W':=by
 have hn:=d3q mL (a.block,a.off) Ys;obtain⟨M,hM⟩:∃M,3000000<=M:=⟨3000000,wQ _⟩;obtain⟨x,s,hrun,hx⟩:=c6Y (c7d mL W a Ys hY v1 hv) (λx hx=>by
  obtain⟨i,hi⟩:=sN.1 hx;cases q:Ys[i]? with
   |none=>
    have:(a6I Ys)[i]?=none:=by unfold a6I;rw[pI,q];rfl
    rw[this]at hi;cases hi|some y=>rw[c1y q]at hi;cases hi;exact(hY i y q).N) k v i T M hM [] [];subst hx;have hrun':o8 D8 (M+1+1) 6 [v1,.agg ⟨[.int .i64 k,.int .i64 v,.int .i64 i]⟩,.string ⟨⟨T⟩⟩] (Go.V.a3d (a6A mL Ys))=some (.ret (.bool true),s):=hrun;refine b7j (vs:=I6 mL) (rows:=a6A mL Ys) (args':=[v0,.agg #[.int .i64 k,.int .i64 v,.int .i64 i],.string ⟨⟨T⟩⟩]) V5 N7 (a7N (a.block,a.off) Ys) hn (d6f hL a ha Ys hY) (d0x hL a ha Ys hY) ?_ hL (pL5 (mL:=mL)).e (pL5 (mL:=mL)).s Tryz.func6 zw rfl ?_ rfl hrun';·intro g hg;have hg':g<7:=hg;rcases g with _|_|_|_|_|_|_|g;all_goals first|rfl|omega
 refine VRL.cons (hr _ rfl) (VRL.cons (VR.agg rfl λj x' x hx' hx=>?_) (VRL.cons (VR.plain rfl) (VRL.nil _)));rcases j with _|_|_|j;cases hx';cases hx;exact VR.plain rfl;cases hx';cases hx;exact VR.plain rfl;cases hx';cases hx;exact VR.plain rfl;cases hx'
theorem e2o {W base v}(h:Value.okWide Tryz.prog W .any base 9 v):∃bs,v=.string bs:=by
 have h1:Cell.okWide Tryz.prog W .any base 9 v:=by unfold Value.okWide at h;rw[uJ]at h;exact h
 have h2:Cell.ok Tryz.prog W .any base 9 v:=by unfold Cell.okWide at h1;rw[uJ]at h1;cases v<;>exact h1
 cases v with|string bs=>exact⟨bs,rfl⟩|_=>unfold Cell.ok at h2;rw[uJ]at h2;exact(h2:False).elim
theorem c1C {H}{enc:TypeId×Value->H}{W base v0 v1 v2 d0 d1 p0 p1 mL}(hL:LaidV (I6 mL) W)(hv0:Value.okWide Tryz.prog W .any base 32 v0)(hv1:Value.okWide Tryz.prog W .any base 26 v1)(hv2:Value.okWide Tryz.prog W .any base 9 v2)(h0:DataW.Trod enc Tryz.prog W 0 (λ_=>true) true 32 v0 d0 p0)(h1:DataW.Trod enc Tryz.prog W 0 (λ_=>true) true 26 v1 d1 p1):Calls Tryz.prog 6 #[v0,v1,v2] W λe W'=>e=.returned (.bool true)/\Below W.heap.size W W':=by
 have hsz:0<W.heap.size:=wD (show 0<(I6 mL).length from by show 0<7;decide) hL.size;obtain⟨f0,hf0⟩:=h0;obtain⟨f1,hf1⟩:=h1;obtain⟨⟨⟨T⟩⟩,rfl⟩:=e2o hv2;obtain⟨k,v,i,e1,_⟩:=b6s hf1;obtain⟨cs,rfl⟩:∃cs:Array Value,v1=.agg cs:=by unfold Value.okWide at hv1;rw[Tryz.underlying26]at hv1;obtain⟨cs,rfl,_⟩:=hv1;exact⟨cs,rfl⟩
 have ecs:cs=#[.int .i64 k,.int .i64 v,.int .i64 i]:=by obtain⟨l⟩:=cs;exact wB Array.mk e1
 subst ecs;rcases d3n Tryz.underlying32 hv0 with rfl|⟨a,len,cap,rfl,hs,hb⟩;exact b8q hL ⟨0,0,none⟩ hsz [] (λi y h=>zg) k v i T _ (.slice none 0 0) (Or.inr ⟨rfl,_,_,rfl⟩) λ_ _=>VR.plain rfl;have hf:DataW.trod enc Tryz.prog W 0 (λ_=>true) true f0 32 [.slice (some a) len cap]=some (d0,p0):=hf0;rcases c3H hf with e|⟨a',cap',Ys,e,hle,hY⟩;cases e;cases e;refine b8q hL a hb Ys hY k v i T _ (.slice (some ⟨7,0,some 0⟩) Ys.length 9) (Or.inl rfl) λL hL7=>?_;exact VR.slice (b0j hL7) (wQ _) zu hle (Or.inr hs) (Or.inr ⟨rfl,zq,λh=>zg⟩)
theorem d3G {H}{enc:TypeId×Value->H}{P w b sp held n t e k fuel cs}{zs:List Int}{p}(ht:P.underlying t=some (.array n e))(he:P.underlying e=some (.int k))(hc:P.cellsOf e=1)(hct:P.cellsOf t=n)(h:DataW.trod enc P w b sp held fuel t cs=some (.agg (zs.map λz=>.lit (.int k z)),p)):cs=zs.map λz=>.int k z:=by
 obtain⟨xs,m,_,hx,hl,hlen,hf⟩:=DataW.trod_array ht h;have hx1:zs.map (λz=>(DataW.lit (.int k z):DataW H))=xs.map (·.1):=by have:=wB Prod.fst hx;simpa using this
 have hzs:zs.length=n:=by have:=wB List.length hx1;simpa[hlen]using this
 rw[hct]at hl;refine uj λi=>?_;by_cases hi:i<n;have h1:=hf i hi;rw[hc,uu,wO zy]at h1;obtain⟨z,e1,e2,_⟩:=sS he h1;have e3:(xs.map (·.1))[i]?=some (DataW.lit (.int k z)):=by rw[vM,wO zy,pX,e2]
 rw[<-hx1,vM,wO zy,pX]at e3;have e4:zs[i]=z:=by simpa using e3
 have e5:(cs.drop i)[0]?=some (.int k z):=by have:=wB (λl=>l[0]?) e1;simpa[tL]using this
 rw[uT,vB]at e5;rw[e5,vM,wO zy,e4];rfl;rw[vo zy,vo zm]
theorem b2v {W name G T e n k}{zs:List Int}(hG:Tryz.prog.globalNamed name=some G)(hT:(Tryz.prog.globals[G]?).map (·.type)=some T)(ht:Tryz.prog.underlying T=some (.array n e))(he:Tryz.prog.underlying e=some (.int k))(hc:Tryz.prog.cellsOf e=1)(hct:Tryz.prog.cellsOf T=n){g}{t}{cs}{fuel}{p}(h1:Tryz.prog.globalNamed name=some g)(h2:(Tryz.prog.globals[g]?).map (·.type)=some t)(h3:W.var? Tryz.prog name=some cs)(h4:DataW.trod (λ_=>()) Tryz.prog W 0 (λ_=>true) false fuel t cs.toList=some (.agg (zs.map λz=>.lit (.int k z)),p)):∃ty fz,W.heap[G]?=some (.cells ⟨zs.map λz=>.int k z⟩ ty fz):=by
 obtain rfl:G=g:=tX (hG.symm.trans h1);obtain rfl:T=t:=tX (hT.symm.trans h2);have hcs:=d3G ht he hc hct h4;have ecs:cs=⟨zs.map λz=>.int k z⟩:=by obtain⟨l⟩:=cs;exact wB Array.mk hcs
 subst ecs;unfold World.var? at h3;rw[hG,Option.bind_some]at h3;split at h3;rename_i cs' ty fz hh;cases h3;exact⟨_,_,hh⟩;cases h3
theorem c8L {W}(h:laidMet Tryz.prog Rows.asmLinesRow.laid W):(∃ty fz,W.heap[5]?=some (.cells ⟨b3L⟩ ty fz))/\(∃ty fz,W.heap[4]?=some (.cells ⟨b3e⟩ ty fz))/\(∃ty fz,W.heap[2]?=some (.cells ⟨b0a⟩ ty fz))/\∃ty fz,W.heap[0]?=some (.cells ⟨a3C⟩ ty fz):=by obtain⟨ps,hV,_⟩:=h;obtain⟨g1,t1,cs1,f1,p1,q1,a1,b1,c1,d1,hV,_⟩:=hV;obtain⟨g2,t2,cs2,f2,p2,q2,a2,b2,c2,d2,hV,_⟩:=hV;obtain⟨g3,t3,cs3,f3,p3,q3,a3,b3,c3,d3,hV,_⟩:=hV;obtain⟨g4,t4,cs4,f4,p4,q4,a4,b4,c4,d4,hV,_⟩:=hV;obtain⟨g5,t5,cs5,f5,p5,q5,a5,b5,c5,d5,hV,_⟩:=hV;have x1:(Rows.laid_math_bits_deBruijn32tab:DataW Unit)=.agg ((b3L.map intOf).map λz=>.lit (.int .u8 z)):=zw;have x2:(Rows.laid_math_bits_deBruijn64tab:DataW Unit)=.agg ((b3e.map intOf).map λz=>.lit (.int .u8 z)):=zw;have x3:(Rows.laid_internal_strconv_uint64pow10:DataW Unit)=.agg ((b0a.map intOf).map λz=>.lit (.int .u64 z)):=zw;have x5:(Rows.laid_strings_asciiSpace:DataW Unit)=.agg ((a3C.map intOf).map λz=>.lit (.int .u8 z)):=zw;have y1:(b3L.map intOf).map (λz=>Value.int .u8 z)=b3L:=zw;have y2:(b3e.map intOf).map (λz=>Value.int .u8 z)=b3e:=zw;have y3:(b0a.map intOf).map (λz=>Value.int .u64 z)=b0a:=zw;have y5:(a3C.map intOf).map (λz=>Value.int .u8 z)=a3C:=zw;rw[x1]at d1;rw[x2]at d2;rw[x3]at d3;rw[x5]at d5;have z1:=b2v (G:=5) (T:=271) zw zw oV uO zw zw a1 b1 c1 d1;have z2:=b2v (G:=4) (T:=253) zw zw oU uO zw zw a2 b2 c2 d2;have z3:=b2v (G:=2) (T:=250) zw zw oW sG zw zw a3 b3 c3 d3;have z5:=b2v (G:=0) (T:=219) zw zw Tryz.underlying219 uO zw zw a5 b5 c5 d5;rw[y1]at z1;rw[y2]at z2;rw[y3]at z3;rw[y5]at z5;exact⟨z1,z2,z3,z5⟩
theorem e5O:((begin Tryz.prog (λ_ _=>0) default).world.heap[3]?).bind Obj.row?=some (#[.int .i64 0],3):=zw
theorem e6k:(((begin Tryz.prog (λ_ _=>0) default).world.heap[6]?).bind Obj.row?).isSome=true:=zw
theorem d1q {W}(h:laidMet Tryz.prog Rows.asmLinesRow.laid W)(hS:W.ShapedOpen Tryz.prog):∃mL,LaidV (I6 mL) W:=by
 obtain⟨⟨t5,z5,h5⟩,⟨t4,z4,h4⟩,⟨t2,z2,h2⟩,⟨t0,z0,h0⟩⟩:=c8L h;have hg:Tryz.prog.globals.size=7:=zw;obtain⟨cs,e3,hsz,hrow⟩:=hS.1 3 _ _ (by rw[hg];decide) e5O;obtain⟨⟨zero6,ty6⟩,e6⟩:=tH.1 e6k;obtain⟨cs6,e6',_,_⟩:=hS.1 6 _ _ (by rw[hg];decide) e6;obtain⟨ts,hts,_,hc⟩:=hrow zw;have ets:ts=[3]:=(tX ((show Tryz.prog.cellTypes Tryz.prog.depth 3=some [3] by kernel_rfl).symm.trans hts)).symm;subst ets;obtain⟨l⟩:=cs;have hl:l.length=1:=hsz;obtain⟨x,rfl⟩:∃x,l=[x]:=by match l,hl with|[x],_=>exact⟨x,rfl⟩
 obtain⟨u,hu,hk⟩:=hc 0 x rfl;cases hu;unfold Cell.ok at hk;rw[uX]at hk;obtain⟨m,rfl⟩:∃m,x=.int .i64 m:=by cases x with|int k n=>obtain⟨rfl,_⟩:=hk;exact⟨n,rfl⟩|_=>exact(hk:False).elim
 have hrows:∀(g:Nat) (l:List Value),(I6 m)[g]?=some l->l≠[]->∃t fz,W.heap[g]?=some (.cells ⟨l⟩ t fz):=by intro g l hl hne;rcases g with _|_|_|_|_|_|_|g;cases hl;exact⟨_,_,h0⟩;cases hl;exact absurd rfl hne;cases hl;exact⟨_,_,h2⟩;cases hl;exact⟨_,_,e3⟩;cases hl;exact⟨_,_,h4⟩;cases hl;exact⟨_,_,h5⟩;cases hl;exact absurd rfl hne;cases hl
 refine⟨m,?_,λg l hl off v hv=>?_,hrows⟩;rcases ui 6 W.heap.size with q|q;exact q;rw[Array.getElem?_eq_none q]at e6';cases e6';obtain⟨t,fz,hh⟩:=hrows g l hl (λe=>by rw[e]at hv;cases hv);simp only[World.cell?,hh];simpa using hv
end Go.Proofs.YtmomonnlmbljoaaGreatDoor.S
end
section
namespace Go
open Go.ChangeShapes
section
variable {H:Type}{enc:TypeId×Value->H}
theorem a7M {a C os f fn s conds apart fresh handsOn again}{X:World->Array Value->Prop}(hX:∀(w w') (args),w.heap=w'.heap->X w args->X w' args)(own:ownKnob C.prog.godebug=none)(started:os.Started)(noInit:C.prog.inits.idxOf? f=none)(hfn:C.prog.funcs[f]?=some fn)(witness:∃(w:World) (tape:Tape) (i:Input),w.os=os/\(w.forCall tape i).Shaped C.prog/\i.vars=[]/\Input.okWide C.prog (w.forCall tape i) .any w.heap.size f i/\((s.pre enc C.prog fn conds apart (w.forCall tape i).memory i.args/\X (w.forCall tape i).memory i.args)/\sizedMet enc C.prog fn (OpenSpec.ofChange s) apart (w.forCall tape i).memory i.args)/\a.holds C.prog (lone (Frame.enter C.prog f i.args .normal) [] (w.forCall tape i)))(contract:∀(W) (base) (args) (ds gs) (before),(∀(j:Nat) t v,fn.params[j]?=some t->args[j]?=some v->Value.okWide C.prog W .any base t v)->DataW.Whole enc C.prog fn.params.toList s.vars apart W args.toList ds gs before->X W args->W.ShapedOpen C.prog->Calls C.prog f args W λe W'=>∃v,e=.returned v/\s.post enc C.prog fn apart fresh handsOn again W args v W'):ReturnsInHanded a C os f .any (λw args=>(s.pre enc C.prog fn conds apart w args/\X w args)/\sizedMet enc C.prog fn (OpenSpec.ofChange s) apart w args) (s.post enc C.prog fn apart fresh handsOn again):=by refine returnsInHanded_of_calls own started noInit witness ?_;intro w tape i _ hsh _ hok hpre hholds;obtain⟨_,_,_,fn',hfn',_,_,_,_,hval⟩:=hok;have e:fn'=fn:=tX (hfn'.symm.trans hfn);subst e;obtain⟨⟨⟨ds,gs,before,hw,hc⟩,hx⟩,hz⟩:=hpre;have hw':=DataW.Whole.of_heap (w':=w.forCall tape i) (by rfl) hw;refine(contract (w.forCall tape i) w.heap.size i.args ds gs before hval hw' (hX _ _ _ (by rfl) hx) hsh).mono λe W' ⟨v,he,hp⟩=>?_;grind[ChangeSpec.post_blind]
end
end Go
end
section
namespace Go.Proofs.YtmomonnlmbljoaaGreatDoor.S
open Go.V Go.RowKit Go.ChangeShapes Go.WideShapes Go.ChangeAt
theorem Tryz.ownB:ownKnob Tryz.prog.godebug=none:=zw
theorem Tryz.laidOutB:laidOutB Tryz.prog=true:=zw
noncomputable def d7s:Array Value:=#[.slice none 0 0,.agg #[.int .i64 0,.int .i64 0,.int .i64 0],.string ⟨⟨[]⟩⟩]
theorem c0H (os args):laidMet Tryz.prog Rows.asmBlocksRow.laid ((World.laidAll Tryz.prog os Rows.asmBlocksRow.laid).forCall (λ_ _=>0) ⟨#[],args,[]⟩).memory:=laidMet_laidAll args zw zw
theorem b6v (os args):((World.laidAll Tryz.prog os Rows.asmBlocksRow.laid).forCall (λ_ _=>0) ⟨#[],args,[]⟩).Shaped Tryz.prog:=World.shaped_of_ZipB zw zw
theorem c3A {H}{enc:TypeId×Value->H}{W base args ds gs before}(hval0:∀(j:Nat) t v,Tryz.f6.params[j]?=some t->args[j]?=some v->Value.okWide Tryz.prog W .any base t v)(hW:DataW.Whole enc Tryz.prog Tryz.f6.params.toList Rows.asmBlocksSpec.vars false W args.toList ds gs before)(hX:laidMet Tryz.prog Rows.asmBlocksRow.laid W)(hS:W.ShapedOpen Tryz.prog):Calls Tryz.prog 6 args W λe W'=>∃v,e=.returned v/\Rows.asmBlocksSpec.post enc Tryz.prog Tryz.f6 false true false false W args v W':=by
 have hval:=hval0;have hW':=hW;obtain⟨p,q,hA0,hV,rfl,hfz,hnd⟩:=hW;have hA:DataW.TrodAll enc Tryz.prog W 0 (λ_=>true) true Tryz.f6.params.toList args.toList ds p:=hA0;rw[Tryz.params6]at hA hval;obtain⟨v0,v1,v2,d0,d1,d2,p0,p1,p2,rfl,rfl,rfl,h0,h1,h2⟩:=trodAll_three hA;obtain⟨rfl,rfl⟩:=trodVars_none hV;obtain⟨mL,hL⟩:=d1q hX hS;refine(c1C hL (hval 0 32 v0 rfl rfl) (hval 1 26 v1 rfl rfl) (hval 2 9 v2 rfl rfl) h0 h1).mono λe W' ⟨he,hb⟩=>?_;subst he;have hlt:∀x∈p0++(p1++p2),x.block<W.heap.size:=λx hx=>by simpa using hW'.lt x (by simpa using hx)
 refine⟨_,rfl,_,_,_,[],p0++(p1++p2),[],hW',?_,?_,?_,hb.frame _,λh=>zg⟩;exact trodAll_mk1 (shut_bool sV true);exact trodAll_mk3 (Below.trod Tryz.laidOutB zw (vS zw) h0 hb (λx hx=>hlt x zZ)) (Below.trod Tryz.laidOutB zw (vS zw) h1 hb (λx hx=>hlt x zZ)) (Below.trod Tryz.laidOutB zw (vS zw) h2 hb (λx hx=>hlt x zZ));rfl
theorem b8Z (os) (started:os.Started) (H) (enc:TypeId×Value→H) :
 ReturnsInHanded {} Tryz.checked os 6 .any (fun w args=>(Rows.asmBlocksSpec.pre enc Tryz.prog Tryz.f6 [] false w args∧laidMet Tryz.prog Rows.asmBlocksRow.laid w)∧sizedMet enc Tryz.prog Tryz.f6 (OpenSpec.ofChange Rows.asmBlocksSpec) false w args)
  (Rows.asmBlocksSpec.post enc Tryz.prog Tryz.f6 false true false false):=by
 refine a7M (C:=Tryz.checked) (X:=fun w _=>laidMet Tryz.prog Rows.asmBlocksRow.laid w) (fun _ _ _ hh h=>h.of_heap hh) Tryz.ownB started zw Tryz.func6
  (ChangeSpec.witness_shaped (enc:=enc) (C:=Tryz.checked) (os:=os) (X:=fun w _=>laidMet Tryz.prog Rows.asmBlocksRow.laid w) false (World.laidAll Tryz.prog os Rows.asmBlocksRow.laid) d7s 8 (World.laidAll_os _ _ _) (b6v os _) zw zw zw (c0H os _)) ?_
 intro W base args ds gs before hval hW hX hS
 exact c3A hval hW hX hS
theorem c3x:Rows.AsmBlocksSaid:=OpenClaim.holds_of_wide 6 Tryz.f6 rfl rfl rfl rfl rfl rfl rfl ⟨rfl,rfl,rfl,rfl,rfl⟩ rfl rfl rfl rfl rfl zw Tryz.func6 zw (vS zw) (by unfold Func.isWrapper;rw[vN (uQ zw)];exact⟨rfl,rfl⟩) (λos started H enc _=>b8Z os started H enc)
theorem asmBlocks_holds:Rows.AsmBlocksCardSaid:=Claim7.holds_tied_plain_at .later [] _ _ _ _ c3x (λ_ h=>zg) zw (λ_ h=>zg) asmBlocks_row_tie rfl ⟨rfl,rfl⟩ zw rfl (λf fn hf hfn=>by
 obtain rfl:f=6:=tX ((show Tryz.prog.funcNamed Rows.asmBlocksRow.func=some 6 by kernel_rfl).symm.trans hf)|>.symm;obtain rfl:fn=Tryz.f6:=(tX (Tryz.func6.symm.trans hfn)).symm;refine⟨zw,λj t ht=>?_⟩;rw[Tryz.params6]at ht;have h3:t=32\/t=26\/t=9:=by simpa using Array.mem_of_getElem? ht
 rcases h3 with rfl|rfl|rfl;exact(show Tryz.prog.wantsStandIn 32=false by kernel_rfl);exact(show Tryz.prog.wantsStandIn 26=false by kernel_rfl);exact(show Tryz.prog.wantsStandIn 9=false by kernel_rfl)) zw
end Go.Proofs.YtmomonnlmbljoaaGreatDoor.S
end
