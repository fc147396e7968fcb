/- AsmBack: the law returns true for every list of instructions and every scope of names: the row (the second form) and its tied card. Conditions: those of the given row alone. -/
import Derived.Test.YtmomonnlmbljoaaGreatDoorTie
import Derived.Test.YtmomonnlmbljoaaGreatDoorCards
import Derived.Test.YtmomonnlmbljoaaGreatDoorKbk
set_option maxRecDepth 1000000
set_option maxHeartbeats 4000000
set_option linter.unusedVariables false
set_option linter.unusedSimpArgs false
noncomputable section
section
namespace Go.Proofs.YtmomonnlmbljoaaGreatDoor.S
open Go.ChangeShapes Go.WideShapes Go.ChangeAt Go.RowKit Go.V
abbrev YR:Type:=Ins×Value×Value
structure HandI (W:World) (a:Addr) (i:Nat) (y:YR):Prop where
 cells:∀ (j:Nat) (x:Value),(a5b y)[j]?=some x→W.cell? ⟨a.block,a.off+(i * 9+j),none⟩=some x
 N:y.1.N<18446744073709551616
 t:b2Q W y.2.1 y.1.types
 l:b2Q W y.2.2 y.1.labels
def a6h (Ys:List YR):List IR:=Ys.mapIdx λi y=>(y.1,a4Q (8+2*i) y.2.1,a4Q (8+2*i+1) y.2.2)
def a9d (Ys:List YR):a2Q:=(Ys.mapIdx λi y=>[(λ(_:Nat) (y:YR)=>M0 y.1.types) (0+i) y,(λ(_:Nat) (y:YR)=>M0 y.1.labels) (0+i) y]).flatten
def a9T (Ys:List YR):List (Nat×Nat):=(Ys.mapIdx λi y=>[(λ(_:Nat) (y:YR)=>pOf y.2.1) (0+i) y,(λ(_:Nat) (y:YR)=>pOf y.2.2) (0+i) y]).flatten
def a2m (mL:Int)(Ys:List YR):a2Q:=I5 mL++((a6h Ys).flatMap a5b::a9d Ys)
def a6C (p:Nat×Nat)(Ys:List YR):List (Nat×Nat):=[(0,0),(1,0),(2,0),(3,0),(4,0),(5,0),(6,0)]++(p::a9T Ys)
theorem c1A {Ys i y}(h:Ys[i]?=some y):(a6h Ys)[i]?=some (y.1,a4Q (8+2*i) y.2.1,a4Q (8+2*i+1) y.2.2):=by grind[a6h]
theorem d0l (Ys):(a6h Ys).length=Ys.length:=by unfold a6h;rw[List.length_mapIdx]
theorem c2k (mL Ys):(a2m mL Ys)[7]?=some ((a6h Ys).flatMap a5b):=rfl
theorem d9a (p Ys):(a6C p Ys)[7]?=some p:=rfl
theorem c1h (mL Ys k):(a2m mL Ys)[8+k]?=(a9d Ys)[k]?:=by show(I5 mL++((a6h Ys).flatMap a5b::a9d Ys))[8+k]?=_;rw[vV (by show 7<=_;omega),show 8+k-(I5 mL).length=k+1 by show 8+k-7=_;omega,tV]
theorem b6o (p Ys k):(a6C p Ys)[8+k]?=(a9T Ys)[k]?:=by show([(0,0),(1,0),(2,0),(3,0),(4,0),(5,0),(6,0)]++(p::a9T Ys))[8+k]?=_;rw[vV zo,show 8+k-([(0,0),(1,0),(2,0),(3,0),(4,0),(5,0),(6,0)]:List (Nat×Nat)).length=k+1 by grind,tV]
theorem b1I (Ys i):(a9d Ys)[2*i]?=(Ys[i]?).map (λy=>M0 y.1.types)/\(a9d Ys)[2*i+1]?=(Ys[i]?).map λy=>M0 y.1.labels:=b8V (λ(_:Nat) (y:YR)=>M0 y.1.types) (λ(_:Nat) (y:YR)=>M0 y.1.labels) Ys 0 i
theorem a9r (Ys i):(a9T Ys)[2*i]?=(Ys[i]?).map (λy=>pOf y.2.1)/\(a9T Ys)[2*i+1]?=(Ys[i]?).map λy=>pOf y.2.2:=b8V (λ(_:Nat) (y:YR)=>pOf y.2.1) (λ(_:Nat) (y:YR)=>pOf y.2.2) Ys 0 i
theorem d2m (k):k=2*(k/2)\/k=2*(k/2)+1:=zy
theorem d3Q (Ys):(a9T Ys).length=(a9d Ys).length:=by
 have h:∀k:Nat,((a9T Ys)[k]?).isSome=((a9d Ys)[k]?).isSome:=by intro k;rcases d2m k with q|q;rw[q,(a9r Ys (k/2)).1,(b1I Ys (k/2)).1];cases Ys[k/2]? <;>rfl;rw[q,(a9r Ys (k/2)).2,(b1I Ys (k/2)).2];cases Ys[k/2]? <;>rfl
 rcases oM (a9T Ys).length (a9d Ys).length with q|q|q;have:=h (a9T Ys).length;rw[vg (wP _),wO q]at this;cases this;exact q;have:=h (a9d Ys).length;rw[vg (l:=a9d Ys) (wP _),wO q]at this;cases this
theorem c5D (mL W a Ys)(hY:∀i y,Ys[i]?=some y->HandI W a i y)(v)(hv:v=.slice (some ⟨7,0,some 0⟩) Ys.length 9\/(Ys=[]/\∃o e,v=.slice o 0 e)):InsL (Go.V.a3p (a2m mL Ys)).c (Go.V.a3p (a2m mL Ys)).h v (a6h Ys):=by
 refine⟨?_,λx hx=>?_⟩;rcases hv with rfl|⟨rfl,o,e,rfl⟩;refine⟨_,9,by rw[d0l],Or.inr ⟨7,0,0,((a6h Ys).flatMap a5b).map λx=>(x,0),0,true,rfl,rfl,?_,?_,λi x hx=>?_⟩⟩;show 7<z8 (a2m mL Ys);rw[G8];grind[c2k];rw[a0K,c2k];have hi:i<(a6h Ys).length:=(wM.1 hx).1;have hn:=c1G (a6h Ys);rw[vY,a0z,<-List.map_drop,d7t _ _ (by rw[uw];omega)];congr 1;refine ui λj=>?_;rcases uj j 9 with q|q;rw[tJ,vG q,uG];grind[c2P];rw[vg (by rw[rA];omega),vg (by show 9<=j;exact q)];exact⟨o,e,rfl,Or.inl rfl⟩;obtain⟨i,hi⟩:=uC.1 hx;cases q:Ys[i]? with
  |none=>
   have:(a6h Ys)[i]?=none:=by grind[a6h]
   rw[this]at hi;cases hi|some y=>
   rw[c1A q]at hi;cases hi;have h1:(a2m mL Ys)[8+2*i]?=some (M0 y.1.types):=by rw[c1h,(b1I Ys i).1,q];rfl
   have h2:(a2m mL Ys)[8+2*i+1]?=some (M0 y.1.labels):=by rw[ru,c1h,(b1I Ys i).2,q];rfl
   exact⟨b8Q (hY i y q).t h1,b8Q (hY i y q).l h2⟩
theorem c4f {H}{enc:TypeId×Value->H}{W fuel v x}(h:DataW.trod enc Tryz.prog W 0 (λ_=>true) true fuel 32 [v]=some x):(v=.slice none 0 0)\/∃(a:Addr) (cap:Nat) (Ys:List YR),v=.slice (some a) Ys.length cap/\Ys.length<=cap/\∀i y,Ys[i]?=some y->HandI W a i y:=by
 have k30:Tryz.prog.cellsOf 30=9:=zw;rcases Go.Deep.open_slice Tryz.underlying32 h with⟨e0,_⟩|⟨a,len,cap,m,n,D,Pl,e0,_,hle,_,hm,_,hi⟩;simp_all;have hm':m=cap:=by rw[hm];rfl
 subst hm';have e0':v=.slice (some a) len m:=zo;rw[k30]at hi;have key:∀i,i<len->∃y:YR,HandI W a i y:=by
  intro i hil;obtain⟨cs',h1,h2⟩:=hi i zy;obtain⟨op,A,B,N,k,v1,i1,tv,lv,n',x1,x2,rfl,wN,_,t1,t2⟩:=c7O h2;obtain⟨N,rfl,hN⟩:=d9y wN;obtain⟨lt,Ht⟩:=b6T Tryz.underlying27 Tryz.underlying24 zw t1;obtain⟨ll,Hl⟩:=b6T Tryz.underlying28 uU zw t2;refine⟨(⟨op,A,B,N,k,v1,i1,lt,ll⟩,tv,lv),⟨λj x hj=>?_,hN,Ht,Hl⟩⟩;have hj9:j<9:=(wM.1 hj).1;unfold World.cells? at h1;rw[vG (vH _)]at h1;have hx:=mapM_some_get h1 j j (by simp[hj9]);have hs:a.spot=none\/a.spot≠none:=by cases a.spot<;>simp
  have c0:=mapM_some_get h1 0 0 zq;have hx':W.cell? ((a.add (i*9)).add j)=some x:=hx.trans hj;rw[Go.Deep.add_add]at hx';have hsp:=qF hx';have e:a.add (i*9+j)=⟨a.block,a.off+(i*9+j),none⟩:=by obtain⟨ab,ao,asp⟩:=a;unfold Addr.add at hsp⊢;grind
  rw[e]at hx';exact hx'
 obtain⟨Ys,hlen,hY⟩:=b8m len key;grind
theorem d2p {W a p Ys i y}(hy:Ys[i]?=some y)(HI:HandI W a i y)(j:Nat)(x)(hx:(a5b (y.1,a4Q (8+2*i) y.2.1,a4Q (8+2*i+1) y.2.2))[j]?=some x):∃x',(a5b y)[j]?=some x'/\VR (a4v (a6C p Ys)) x' x:=by
 have g1:(a6C p Ys)[8+2*i]?=some (pOf y.2.1):=by rw[b6o,(a9r Ys i).1,hy];rfl
 have g2:(a6C p Ys)[8+2*i+1]?=some (pOf y.2.2):=by rw[ru,b6o,(a9r Ys i).2,hy];rfl
 rcases j with _|_|_|_|_|_|_|_|_|j;iterate 7(cases hx;exact⟨_,rfl,VR.plain rfl⟩)
 cases hx;exact⟨_,rfl,c2s HI.t g1⟩;cases hx;exact⟨_,rfl,c2s HI.l g2⟩;cases hx
end Go.Proofs.YtmomonnlmbljoaaGreatDoor.S
end
namespace Go.Proofs.YtmomonnlmbljoaaGreatDoor
open Go.V Go.RowKit Go.Shelf Go.Proofs
variable {mL:Int}
namespace S
theorem d7Q {W mL}(hL:LaidV (I5 mL) W)(a)(ha:a.block<W.heap.size)(Ys)(hY:∀i y,Ys[i]?=some y->HandI W a i y):∀p∈a6C (a.block,a.off) Ys,p.1<W.heap.size:=by
 have hsz:0<W.heap.size:=wD (show 0<(I5 mL).length from by show 0<7;decide) hL.size;have hb:∀j,j<7->j<W.heap.size:=λj hj=>wD hj (show 7<=W.heap.size from hL.size);intro p hp;obtain⟨k,hk⟩:=uC.1 hp;rcases uj k 8 with q|q;rcases k with _|_|_|_|_|_|_|_|k;cases hk;omega;cases hk;simp_all;cases hk;simp_all;cases hk;simp_all;cases hk;simp_all;cases hk;simp_all;cases hk;simp_all;cases hk;exact ha;omega;obtain⟨k,rfl⟩:∃m,k=8+m:=⟨k-8,zy⟩;rw[b6o]at hk;rcases d2m k with e|e;rw[e,(a9r Ys (k/2)).1]at hk;cases q2:Ys[k/2]? with|none=>rw[q2]at hk;cases hk|some y=>rw[q2]at hk;cases hk;exact c4I hsz (hY _ y q2).t
 rw[e,(a9r Ys (k/2)).2]at hk;cases q2:Ys[k/2]? with|none=>rw[q2]at hk;cases hk|some y=>rw[q2]at hk;cases hk;exact c4I hsz (hY _ y q2).l
theorem c8M {W mL}(hL:LaidV (I5 mL) W)(a)(ha:a.block<W.heap.size)(Ys)(hY:∀i y,Ys[i]?=some y->HandI W a i y):∀(b:Nat) (p) (l),(a6C (a.block,a.off) Ys)[b]?=some p->(a2m mL Ys)[b]?=some l->∀(off) (x),l[off]?=some x->∃x',W.cell? ⟨p.1,p.2+off,none⟩=some x'/\VR (a4v (a6C (a.block,a.off) Ys)) x' x:=by
 intro b p l hp hl off x hx;rcases uj b 7 with q|q;·
  have hv':∀g l,(I5 mL)[g]?=some l->∀off x,l[off]?=some x->W.cell? ⟨g,0+off,none⟩=some x/\plain x=true:=λg l hl off x hx=>⟨by rw[vY];exact hL.cell g l hl off x hx,a3e l (vT hl) x (vT hx)⟩;have hl':(I5 mL)[b]?=some l:=by have:(a2m mL Ys)[b]?=(I5 mL)[b]?:=vQ (by show b<7;exact q);rw[<-this];exact hl
  have hp':p=(b,0):=by rcases b with _|_|_|_|_|_|_|b;all_goals first|(cases hp;rfl)|omega
  subst hp';obtain⟨e1,e2⟩:=hv' b l hl' off x hx;exact⟨x,e1,VR.plain e2⟩
 rcases Nat.eq_or_lt_of_le q with q|q;obtain rfl:=q.symm;rw[d9a]at hp;rw[c2k]at hl;cases hp;cases hl;have ho:off=off/9*9+off%9:=zy;have hi:off/9<(a6h Ys).length:=by have:=(wM.1 hx).1;rw[c1G]at this;omega
 cases q2:Ys[off/9]? with|none=>rw[d0l]at hi;rw[wO hi]at q2;cases q2|some y=>rw[ho,c2P _ _ _ _ (c1A q2) zy]at hx;obtain⟨x',e1,e2⟩:=d2p (p:=(a.block,a.off)) q2 (hY _ y q2) _ x hx;refine⟨x',?_,e2⟩;have:=(hY _ y q2).cells _ x' e1;rw[<-ho]at this;exact this
 obtain⟨k,rfl⟩:∃m,b=8+m:=⟨b-8,zy⟩;rw[b6o]at hp;rw[c1h]at hl;rcases d2m k with e|e;rw[e,(a9r Ys (k/2)).1]at hp;rw[e,(b1I Ys (k/2)).1]at hl;cases q2:Ys[k/2]? with|none=>rw[q2]at hp;cases hp|some y=>rw[q2]at hp hl;cases hp;cases hl;obtain⟨e1,e2⟩:=b7q (hY _ y q2).t off x hx;exact⟨x,e1,VR.plain e2⟩
 rw[e,(a9r Ys (k/2)).2]at hp;rw[e,(b1I Ys (k/2)).2]at hl;cases q2:Ys[k/2]? with|none=>rw[q2]at hp;cases hp|some y=>rw[q2]at hp hl;cases hp;cases hl;obtain⟨e1,e2⟩:=b7q (hY _ y q2).l off x hx;exact⟨x,e1,VR.plain e2⟩
theorem d1S (l m):(a4v l).le (a4v (l++m)):=by intro b g x h;grind[a3l,a6p]
theorem d2d (mL p Ys):(a6C p Ys).length=(a2m mL Ys).length:=by have h7:(I5 mL).length=7:=rfl;grind[a6C,a2m,List.length_cons,d3Q]
def a9Y (W:World)(v:Value)(l:List Value):Prop:=(v=.slice none 0 0/\l=[])\/(∃a,v=.slice (some a) 0 0/\l=[])\/∃(a:Addr) (cap:Nat),v=.slice (some a) l.length (cap+1)/\l.length<=cap+1/\a.spot=none/\a.block<W.heap.size/\∀(i:Nat) (z:Value),l[i]?=some z->W.cell? ⟨a.block,a.off+i,none⟩=some z
theorem d6O {W v l}(h0:0<W.heap.size)(H:a9Y W v l):(pOf v).1<W.heap.size:=xU
theorem c7Q {W v l}(H:a9Y W v l)(off x)(hx:l[off]?=some x):W.cell? ⟨(pOf v).1,(pOf v).2+off,none⟩=some x:=by rcases H with⟨rfl,rfl⟩|⟨a,rfl,rfl⟩|⟨a,cap,rfl,_,_,h3,h4⟩;cases hx;cases hx;exact h4 off x hx
theorem d3T {W v l}(H:a9Y W v l){j locs}(hj:locs[j]?=some (pOf v)):VR (a4v locs) v (a4Q j v):=yu
def c1D (j:Nat):Value->Sl|.slice (some _) n _=>⟨some ⟨j,0,some 0⟩,n,1⟩|_=>⟨none,0,0⟩
theorem a5K (j v):sv (c1D j v)=a4Q j v:=by cases v with|slice o n e=>cases o<;>rfl|_=>rfl
theorem c8R {W v l}(H:a9Y W v (ls_ l)){j rows}(hj:rows[j]?=some (ls_ l)):Y4 (Go.V.a3p rows).c (Go.V.a3p rows).h (sv (c1D j v)) l:=by have hlen:(ls_ l).length=l.length:=a3P l;have nil:ls_ l=[]->l=[]:=λh=>ug.1 (by rw[<-hlen,h];rfl);rcases H with⟨rfl,h⟩|⟨a,rfl,h⟩|⟨a,cap,rfl,h1,h2,h3,h4⟩;exact⟨none,0,by rw[nil h];rfl,Or.inl (nil h)⟩;exact⟨some ⟨j,0,some 0⟩,1,by rw[nil h];rfl,Or.inl (nil h)⟩;refine⟨some ⟨j,0,some 0⟩,1,by rw[hlen];rfl,Or.inr ⟨j,0,0,(ls_ l).map λx=>(x,0),0,true,rfl,rfl,?_,?_,?_⟩⟩;show j<z8 rows;rw[G8];exact(wM.1 hj).1;rw[a0K,hj];rw[a0f,<-hlen];exact b8Y _
theorem c1P {H}{d:DataW H}:∀{l},d∈l->Rows.uptoBulk d<=Rows.uptoBulkAll l:=by intro l;induction l with|nil=>intro h;cases h|cons x r ih=>intro h;show _<=Rows.uptoBulk x+Rows.uptoBulkAll r;rcases uy.1 h with rfl|h;omega;have:=ih h;omega
theorem b9w {H}{enc:TypeId×Value->H}{W fuel v x}(h:DataW.trod enc Tryz.prog W 0 (λ_=>true) true fuel 38 [v]=some x)(hb:Rows.uptoBulk x.1<=1048576):∃l,a9Y W v (ls_ l)/\∀T∈l,T.length<1100000:=by
 rcases Go.Deep.open_slice1 oL zw h with⟨e0,_⟩|⟨a,len,cap,m,n,V,D,Pl,e0,_,hle,_,hm,hx,hi⟩;exact⟨[],Or.inl ⟨by simpa using e0,rfl⟩,λT hT=>by cases hT⟩;have hm':m=cap:=by rw[hm];rfl
 subst hm';have e0':v=.slice (some a) len m:=by simpa using e0
 cases m with
  |zero=>obtain rfl:len=0:=zy;exact⟨[],Or.inr (Or.inl ⟨a,e0',rfl⟩),λT hT=>by cases hT⟩|succ m=>
   have key:∀i,i<len->∃T:List UInt8,W.cell? ⟨a.block,a.off+i,none⟩=some (.string ⟨⟨T⟩⟩)/\D i=.lit (.string T)/\a.spot=none/\a.block<W.heap.size:=by
    intro i hil;obtain⟨c1,c2⟩:=hi i zy;obtain⟨⟨⟨T⟩⟩,s1,s2,_⟩:=DataW.trod_string tK c2;have hV:V i=.string ⟨⟨T⟩⟩:=by simpa using s1
    have hD:D i=.lit (.string T):=vw Prod.fst s2;rw[hV]at c1;obtain⟨z1,z2⟩:=hi 0 zy;have hsp:a.spot=none:=by simpa[Addr.add]using qF z1
    have hbl:a.block<W.heap.size:=by simpa[Addr.add]using qb _ _ z1
    refine⟨T,?_,hD,hsp,hbl⟩;obtain⟨ab,ao,asp⟩:=a;cases hsp;rw[show(⟨ab,ao,none⟩:Addr).add i=⟨ab,ao+i,none⟩ by simp[Addr.add]]at c1;exact c1
   obtain⟨l,hl,hk⟩:=b8m len key;have hll:(ls_ l).length=len:=by rw[a3P,hl]
   have h0:0<len->a.spot=none/\a.block<W.heap.size:=λh=>by obtain⟨T,_,_,q⟩:=key 0 h;exact q
   refine⟨l,?_,λT hT=>?_⟩;cases len with
    |zero=>
     have:l=[]:=ug.1 hl;subst this;obtain⟨z1,z2⟩:=hi 0 zy;have hsp:a.spot=none:=by simpa[Addr.add]using qF z1
     have hbl:a.block<W.heap.size:=by simpa[Addr.add]using qb _ _ z1
     exact Or.inr (Or.inr ⟨a,m,e0',vH _,hsp,hbl,λi z hz=>by cases hz⟩)|succ len=>obtain⟨q1,q2⟩:=h0 (rG _);refine Or.inr (Or.inr ⟨a,m,by rw[hll];exact e0',by rw[hll];exact hle,q1,q2,λi z hz=>?_⟩);unfold ls_ at hz;rw[vW]at hz;cases e:l[i]? with|none=>rw[e]at hz;cases hz|some T=>rw[e]at hz;cases hz;exact(hk i T e).1
   obtain⟨i,hiT⟩:=uC.1 hT;have hil:i<len:=by rw[<-hl];exact(wM.1 hiT).1
   have hD:=(hk i T hiT).2.1;have hmem:(DataW.lit (.string T):DataW H)∈(List.range len).map D:=uQ.2 ⟨i,uH.2 hil,hD⟩;have h1:=c1P hmem;rw[hx]at hb;simp only[Rows.uptoBulk]at hb h1;omega
theorem c6c {H}{enc:TypeId×Value->H}{W fuel cs x}(h:DataW.trod enc Tryz.prog W 0 (λ_=>true) true fuel 54 cs=some x)(hb:Rows.uptoBulk x.1<=1048576):cs.length=10/\∀(k:Nat) (v),cs[k]?=some v->∃l,a9Y W v (ls_ l)/\∀T∈l,T.length<1100000:=by
 obtain⟨xs,n,_,hx,hl,hlen,hf⟩:=oJ Tryz.underlying54 h;have hl:cs.length=10:=hl.trans zw;have k52:Tryz.prog.cellsOf 52=9:=zw;have k38:Tryz.prog.cellsOf 38=1:=zw;have f0:DataW.trod enc Tryz.prog W 0 (λ_=>true) true n 52 ((cs.drop 0).take (Tryz.prog.cellsOf 52))=xs[0]?:=hf 0 _ rfl;have f1:DataW.trod enc Tryz.prog W 0 (λ_=>true) true n 38 ((cs.drop 9).take (Tryz.prog.cellsOf 38))=xs[1]?:=hf 1 _ rfl;have hlen:xs.length=2:=hlen.trans zw;obtain⟨y0,y1,rfl⟩:∃y0 y1,xs=[y0,y1]:=by match xs,hlen with|[y0,y1],_=>exact⟨y0,y1,rfl⟩
 rw[k52]at f0;rw[k38]at f1;have f0:DataW.trod enc Tryz.prog W 0 (λ_=>true) true n 52 ((cs.drop 0).take 9)=some y0:=f0;have f1:DataW.trod enc Tryz.prog W 0 (λ_=>true) true n 38 ((cs.drop 9).take 1)=some y1:=f1;obtain⟨zs,m,_,hz,hzl,hz9,hzf⟩:=DataW.trod_array Tryz.underlying52 f0;rw[k38]at hzf;rw[hx]at hb;have hb':Rows.uptoBulk y0.1+(Rows.uptoBulk y1.1+0)+1<=1048576:=hb;refine⟨hl,λk v hv=>?_⟩;have hk:k<10:=by rw[<-hl];exact(wM.1 hv).1
 have one:∀j,(cs.drop j).take 1=match cs[j]? with|some v=>[v]|none=>[]:=λj=>by rw[List.take_one,List.head?_drop];cases cs[j]? <;>rfl
 rcases uj k 9 with q|q;have:=hzf k q;rw[vD,tX,List.drop_take,List.take_take,Nat.min_eq_left zy,one k,hv]at this;obtain⟨z,hzk⟩:∃z,zs[k]?=some z:=⟨_,wO zy⟩;rw[hzk]at this;refine b9w this ?_;have hm:z.1∈zs.map (·.1):=uQ.2 ⟨z,vT hzk,rfl⟩;have h1:=c1P hm;rw[hz]at hb';have hb2:Rows.uptoBulkAll (zs.map (·.1))+1+(Rows.uptoBulk y1.1+0)+1<=1048576:=hb';omega;obtain rfl:k=9:=zy;rw[one 9,hv]at f1;exact b9w f1 zy
theorem c5y {W mL}(hL:LaidV (I5 mL) W)(a)(ha:a.block<W.heap.size)(Ys)(hY:∀i y,Ys[i]?=some y->HandI W a i y)(cs)(hcs:cs.length=10)(hn:∀(k:Nat) (v),cs[k]?=some v->∃l,a9Y W v (ls_ l)/\∀T∈l,T.length<1100000)(v0 v1)(hv:v1=.slice (some ⟨7,0,some 0⟩) Ys.length 9\/(Ys=[]/\∃o e,v1=.slice o 0 e))(hr:∀L,L[7]?=some (a.block,a.off)->VR (a4v L) v0 v1):Calls Tryz.prog 9 #[v0,.agg ⟨cs⟩] W λe W'=>e=.returned (.bool true)/\Below W.heap.size W W':=by
 have hsz:0<W.heap.size:=wD (show 0<(I5 mL).length from by show 0<7;decide) hL.size;have hll:=d2d mL (a.block,a.off) Ys;obtain⟨nl,hnl,hnk⟩:=b8m (p:=λk (l:List (List UInt8))=>∀v,cs[k]?=some v->a9Y W v (ls_ l)/\∀T∈l,T.length<1100000) 10 λk hk=>by obtain⟨v,e⟩:∃v,cs[k]?=some v:=⟨_,wO zy⟩;obtain⟨l,h1⟩:=hn k v e;exact⟨l,λv' e'=>by rw[e]at e';cases e';exact h1⟩
 have hH:∀(k:Nat) (v:Value) (l:List (List UInt8)),cs[k]?=some v->nl[k]?=some l->a9Y W v (ls_ l)/\∀T∈l,T.length<1100000:=λk v l h1 h2=>hnk k l h2 v h1;obtain⟨v_0,v_1,v_2,v_3,v_4,v_5,v_6,v_7,v_8,v_9,rfl⟩:∃v_0 v_1 v_2 v_3 v_4 v_5 v_6 v_7 v_8 v_9,cs=[v_0,v_1,v_2,v_3,v_4,v_5,v_6,v_7,v_8,v_9]:=by match cs,hcs with|[v_0,v_1,v_2,v_3,v_4,v_5,v_6,v_7,v_8,v_9],_=>exact⟨_,_,_,_,_,_,_,_,_,_,rfl⟩
 obtain⟨n_0,n_1,n_2,n_3,n_4,n_5,n_6,n_7,n_8,n_9,rfl⟩:∃n_0 n_1 n_2 n_3 n_4 n_5 n_6 n_7 n_8 n_9,nl=[n_0,n_1,n_2,n_3,n_4,n_5,n_6,n_7,n_8,n_9]:=by match nl,hnl with|[n_0,n_1,n_2,n_3,n_4,n_5,n_6,n_7,n_8,n_9],_=>exact⟨_,_,_,_,_,_,_,_,_,_,rfl⟩
 generalize hB:(a2m mL Ys).length=B at*;have hB8:8<=B:=by have h7:(I5 mL).length=7:=rfl;rw[<-hB];unfold a2m;simp only[wC,wE,h7];omega
 have hrow:∀(k:Nat) (l:List (List UInt8)),[n_0,n_1,n_2,n_3,n_4,n_5,n_6,n_7,n_8,n_9][k]?=some l->(a2m mL Ys++([n_0,n_1,n_2,n_3,n_4,n_5,n_6,n_7,n_8,n_9].map ls_))[B+k]?=some (ls_ l):=λk l h=>by rw[vV zy,hB,show B+k-B=k by omega,vW,h];rfl
 have hloc:∀(k:Nat) (v:Value),[v_0,v_1,v_2,v_3,v_4,v_5,v_6,v_7,v_8,v_9][k]?=some v->(a6C (a.block,a.off) Ys++([v_0,v_1,v_2,v_3,v_4,v_5,v_6,v_7,v_8,v_9].map pOf))[B+k]?=some (pOf v):=λk v h=>by rw[vV zy,hll,show B+k-B=k by omega,vW,h];rfl
 have hI:InsL (Go.V.a3p (a2m mL Ys++([n_0,n_1,n_2,n_3,n_4,n_5,n_6,n_7,n_8,n_9].map ls_))).c (Go.V.a3p (a2m mL Ys++([n_0,n_1,n_2,n_3,n_4,n_5,n_6,n_7,n_8,n_9].map ls_))).h v1 (a6h Ys):=(c5D mL W a Ys hY v1 hv).mono (by show z8 (a2m mL Ys)<=z8 (a2m mL Ys++_);rw[G8,G8,wC];omega) λb hb=>by
  have hb':b<(a2m mL Ys).length:=by have:b<z8 (a2m mL Ys):=hb;rwa[G8]at this
  rw[a0K,a0K,vQ hb']
 have hS:∀(k:Nat) (v:Value) (l:List (List UInt8)),[v_0,v_1,v_2,v_3,v_4,v_5,v_6,v_7,v_8,v_9][k]?=some v->[n_0,n_1,n_2,n_3,n_4,n_5,n_6,n_7,n_8,n_9][k]?=some l->Y4 (Go.V.a3p (a2m mL Ys++([n_0,n_1,n_2,n_3,n_4,n_5,n_6,n_7,n_8,n_9].map ls_))).c (Go.V.a3p (a2m mL Ys++([n_0,n_1,n_2,n_3,n_4,n_5,n_6,n_7,n_8,n_9].map ls_))).h (sv (c1D (B+k) v)) l/\∀T∈l,T.length<1100000:=λk v l h1 h2=>by obtain⟨q1,q2⟩:=hH k v l h1 h2;exact⟨c8R q1 (hrow k l h2),q2⟩
 obtain⟨M,hM⟩:∃M,3000001<=M:=⟨3000001,wP _⟩;obtain⟨x,s,hrun,hx⟩:=d4i (xs:=λk=>c1D (B+k) ([v_0,v_1,v_2,v_3,v_4,v_5,v_6,v_7,v_8].getD k undef)) (xl:=c1D (B+9) v_9) (Xs:=λk=>[n_0,n_1,n_2,n_3,n_4,n_5,n_6,n_7,n_8].getD k []) (Xl:=n_9) hI (λx hx=>by
  obtain⟨i,hi⟩:=uC.1 hx;cases q:Ys[i]? with
   |none=>
    have:(a6h Ys)[i]?=none:=by unfold a6h;rw[List.getElem?_mapIdx,q];rfl
    rw[this]at hi;cases hi|some y=>rw[c1A q]at hi;cases hi;exact(hY i y q).N) (λk hk=>by match k,hk with|0,_=>exact hS 0 _ _ rfl rfl|1,_=>exact hS 1 _ _ rfl rfl|2,_=>exact hS 2 _ _ rfl rfl|3,_=>exact hS 3 _ _ rfl rfl|4,_=>exact hS 4 _ _ rfl rfl|5,_=>exact hS 5 _ _ rfl rfl|6,_=>exact hS 6 _ _ rfl rfl|7,_=>exact hS 7 _ _ rfl rfl|8,_=>exact hS 8 _ _ rfl rfl) (hS 9 _ _ rfl rfl).1 M hM [] [];subst hx;have hrun':o9 D7 (M+1) 9 [v1,.agg ⟨[a4Q B v_0,a4Q (B+1) v_1,a4Q (B+2) v_2,a4Q (B+3) v_3,a4Q (B+4) v_4,a4Q (B+5) v_5,a4Q (B+6) v_6,a4Q (B+7) v_7,a4Q (B+8) v_8,a4Q (B+9) v_9]⟩] (Go.V.a3p (a2m mL Ys++([n_0,n_1,n_2,n_3,n_4,n_5,n_6,n_7,n_8,n_9].map ls_)))=some (.ret (.bool true),s):=by rw[<-a5K,<-a5K,<-a5K,<-a5K,<-a5K,<-a5K,<-a5K,<-a5K,<-a5K,<-a5K];exact hrun
 refine b7Q (vs:=I5 mL) (rows:=a2m mL Ys++([n_0,n_1,n_2,n_3,n_4,n_5,n_6,n_7,n_8,n_9].map ls_)) (args':=[v0,.agg ⟨[v_0,v_1,v_2,v_3,v_4,v_5,v_6,v_7,v_8,v_9]⟩]) V7 M9 (a6C (a.block,a.off) Ys++([v_0,v_1,v_2,v_3,v_4,v_5,v_6,v_7,v_8,v_9].map pOf)) ?_ ?_ ?_ ?_ hL (pL5 (mL:=mL)).e (pL5 (mL:=mL)).s Tryz.func9 zw rfl ?_ rfl hrun';rw[wC,wC,hll,hB];rfl;intro p hp;rcases uf.1 hp with hp|hp;exact d7Q hL a ha Ys hY p hp;obtain⟨v,hv,rfl⟩:=uQ.1 hp;obtain⟨k,hk⟩:=uC.1 hv;have hk10:k<10:=(wM.1 hk).1;obtain⟨l,hl⟩:∃l,[n_0,n_1,n_2,n_3,n_4,n_5,n_6,n_7,n_8,n_9][k]?=some l:=⟨_,wO hk10⟩;exact d6O hsz (hH k v l hk hl).1;intro b p l hp hl off x hx;rcases uj b B with hb|hb;rw[vQ zy]at hp;rw[vQ zy]at hl;obtain⟨x',g1,g2⟩:=c8M hL a ha Ys hY b p l hp hl off x hx;exact⟨x',g1,g2.mono (d1S _ _)⟩;obtain⟨m,rfl⟩:∃m,b=B+m:=⟨b-B,zy⟩;rw[vV zy,hll,show B+m-B=m by omega,vW]at hp;rw[vV zy,hB,show B+m-B=m by omega,vW]at hl;cases hv':[v_0,v_1,v_2,v_3,v_4,v_5,v_6,v_7,v_8,v_9][m]? with
  |none=>rw[hv']at hp;cases hp|some v=>
   cases hl':[n_0,n_1,n_2,n_3,n_4,n_5,n_6,n_7,n_8,n_9][m]? with
    |none=>rw[hl']at hl;cases hl|some nm=>
     rw[hv']at hp;rw[hl']at hl;cases hp;cases hl;have hpl:plain x=true:=by have:=vT hx;unfold ls_ at this;obtain⟨T,_,rfl⟩:=uQ.1 this;rfl
     exact⟨x,c7Q (hH m v nm hv' hl').1 off x hx,VR.plain hpl⟩
 ·intro g hg;have hg':g<7:=hg;rcases g with _|_|_|_|_|_|_|g;all_goals first|rfl|omega
 refine VRL.cons (hr _ rfl) (VRL.cons (VR.agg rfl λj x' x hx' hx=>?_) (VRL.nil _));have hv2:∀(k:Nat) (v:Value) (l:List (List UInt8)),[v_0,v_1,v_2,v_3,v_4,v_5,v_6,v_7,v_8,v_9][k]?=some v->[n_0,n_1,n_2,n_3,n_4,n_5,n_6,n_7,n_8,n_9][k]?=some l->VR (a4v (a6C (a.block,a.off) Ys++([v_0,v_1,v_2,v_3,v_4,v_5,v_6,v_7,v_8,v_9].map pOf))) v (a4Q (B+k) v):=λk v l h1 h2=>d3T (hH k v l h1 h2).1 (hloc k v h1);rcases j with _|_|_|_|_|_|_|_|_|_|j;cases hx';cases hx;exact hv2 0 _ _ rfl rfl;cases hx';cases hx;exact hv2 1 _ _ rfl rfl;cases hx';cases hx;exact hv2 2 _ _ rfl rfl;cases hx';cases hx;exact hv2 3 _ _ rfl rfl;cases hx';cases hx;exact hv2 4 _ _ rfl rfl;cases hx';cases hx;exact hv2 5 _ _ rfl rfl;cases hx';cases hx;exact hv2 6 _ _ rfl rfl;cases hx';cases hx;exact hv2 7 _ _ rfl rfl;cases hx';cases hx;exact hv2 8 _ _ rfl rfl;cases hx';cases hx;exact hv2 9 _ _ rfl rfl;cases hx'
theorem c7v {H}{enc:TypeId×Value->H}{W base v0 v1 d0 d1 p0 p1 mL}(hL:LaidV (I5 mL) W)(hv0:Value.okWide Tryz.prog W .any base 32 v0)(hv1:Value.okWide Tryz.prog W .any base 54 v1)(h0:DataW.Trod enc Tryz.prog W 0 (λ_=>true) true 32 v0 d0 p0)(h1:DataW.Trod enc Tryz.prog W 0 (λ_=>true) true 54 v1 d1 p1)(hk:Rows.uptoBulkAll [d0,d1]<=1048576):Calls Tryz.prog 9 #[v0,v1] W λe W'=>e=.returned (.bool true)/\Below W.heap.size W W':=by
 have hsz:0<W.heap.size:=wD (show 0<(I5 mL).length from by show 0<7;decide) hL.size;obtain⟨f0,hf0⟩:=h0;obtain⟨f1,hf1⟩:=h1;have hb1:Rows.uptoBulk d1<=1048576:=by have:Rows.uptoBulk d0+(Rows.uptoBulk d1+0)<=1048576:=hk;omega
 obtain⟨⟨cs⟩,rfl⟩:∃cs:Array Value,v1=.agg cs:=by unfold Value.okWide at hv1;rw[Tryz.underlying54]at hv1;obtain⟨cs,rfl,_⟩:=hv1;exact⟨cs,rfl⟩
 obtain⟨hc,hn⟩:=c6c hf1 hb1;rcases d3e Tryz.underlying32 hv0 with rfl|⟨a,len,cap,rfl,hs,hb⟩;exact c5y hL ⟨0,0,none⟩ hsz [] (λi y h=>zg) cs hc hn _ (.slice none 0 0) (Or.inr ⟨rfl,_,_,rfl⟩) λ_ _=>VR.plain rfl;have hf:DataW.trod enc Tryz.prog W 0 (λ_=>true) true f0 32 [.slice (some a) len cap]=some (d0,p0):=hf0;rcases c4f hf with e|⟨a',cap',Ys,e,hle,hY⟩;cases e;cases e;refine c5y hL a hb Ys hY cs hc hn _ (.slice (some ⟨7,0,some 0⟩) Ys.length 9) (Or.inl rfl) λL hL7=>?_;exact VR.slice (a6p hL7) (wP _) zu hle (Or.inr hs) (Or.inr ⟨rfl,zq,λh=>zg⟩)
theorem d2D {H}{enc:TypeId×Value->H}{P w b sp held n t e k fuel cs}{zs:List Int}{p}(ht:P.underlying t=some (.array n e))(he:P.underlying e=some (.int k))(hc:P.cellsOf e=1)(hct:P.cellsOf t=n)(h:DataW.trod enc P w b sp held fuel t cs=some (.agg (zs.map λz=>.lit (.int k z)),p)):cs=zs.map λz=>.int k z:=by
 obtain⟨xs,m,_,hx,hl,hlen,hf⟩:=DataW.trod_array ht h;have hx1:zs.map (λz=>(DataW.lit (.int k z):DataW H))=xs.map (·.1):=by have:=vw Prod.fst hx;simpa using this
 have hzs:zs.length=n:=by have:=vw List.length hx1;simpa[hlen]using this
 rw[hct]at hl;refine ui λi=>?_;by_cases hi:i<n;have h1:=hf i hi;rw[hc,vD,wO zy]at h1;obtain⟨z,e1,e2,_⟩:=sW he h1;have e3:(xs.map (·.1))[i]?=some (DataW.lit (.int k z)):=by rw[vW,wO zy,qA,e2]
 rw[<-hx1,vW,wO zy,qA]at e3;have e4:zs[i]=z:=by simpa using e3
 have e5:(cs.drop i)[0]?=some (.int k z):=by have:=vw (λl=>l[0]?) e1;simpa[tJ]using this
 rw[uG,vC]at e5;rw[e5,vW,wO zy,e4];rfl;rw[vg zy,vg zl]
theorem b2h {W name G T e n k}{zs:List Int}(hG:Tryz.prog.globalNamed name=some G)(hT:(Tryz.prog.globals[G]?).map (·.type)=some T)(ht:Tryz.prog.underlying T=some (.array n e))(he:Tryz.prog.underlying e=some (.int k))(hc:Tryz.prog.cellsOf e=1)(hct:Tryz.prog.cellsOf T=n){g}{t}{cs}{fuel}{p}(h1:Tryz.prog.globalNamed name=some g)(h2:(Tryz.prog.globals[g]?).map (·.type)=some t)(h3:W.var? Tryz.prog name=some cs)(h4:DataW.trod (λ_=>()) Tryz.prog W 0 (λ_=>true) false fuel t cs.toList=some (.agg (zs.map λz=>.lit (.int k z)),p)):∃ty fz,W.heap[G]?=some (.cells ⟨zs.map λz=>.int k z⟩ ty fz):=by
 obtain rfl:G=g:=sQ (hG.symm.trans h1);obtain rfl:T=t:=sQ (hT.symm.trans h2);have hcs:=d2D ht he hc hct h4;have ecs:cs=⟨zs.map λz=>.int k z⟩:=by obtain⟨l⟩:=cs;exact vw Array.mk hcs
 subst ecs;unfold World.var? at h3;rw[hG,Option.bind_some]at h3;split at h3;rename_i cs' ty fz hh;cases h3;exact⟨_,_,hh⟩;cases h3
theorem d0y {W}(h:laidMet Tryz.prog Rows.asmLinesRow.laid W):(∃ty fz,W.heap[5]?=some (.cells ⟨b3E⟩ ty fz))/\(∃ty fz,W.heap[4]?=some (.cells ⟨b3h⟩ ty fz))/\(∃ty fz,W.heap[2]?=some (.cells ⟨b0s⟩ ty fz))/\∃ty fz,W.heap[0]?=some (.cells ⟨a3J⟩ ty fz):=by obtain⟨ps,hV,_⟩:=h;obtain⟨g1,t1,cs1,f1,p1,q1,a1,b1,c1,d1,hV,_⟩:=hV;obtain⟨g2,t2,cs2,f2,p2,q2,a2,b2,c2,d2,hV,_⟩:=hV;obtain⟨g3,t3,cs3,f3,p3,q3,a3,b3,c3,d3,hV,_⟩:=hV;obtain⟨g4,t4,cs4,f4,p4,q4,a4,b4,c4,d4,hV,_⟩:=hV;obtain⟨g5,t5,cs5,f5,p5,q5,a5,b5,c5,d5,hV,_⟩:=hV;have x1:(Rows.laid_math_bits_deBruijn32tab:DataW Unit)=.agg ((b3E.map intOf).map λz=>.lit (.int .u8 z)):=zw;have x2:(Rows.laid_math_bits_deBruijn64tab:DataW Unit)=.agg ((b3h.map intOf).map λz=>.lit (.int .u8 z)):=zw;have x3:(Rows.laid_internal_strconv_uint64pow10:DataW Unit)=.agg ((b0s.map intOf).map λz=>.lit (.int .u64 z)):=zw;have x5:(Rows.laid_strings_asciiSpace:DataW Unit)=.agg ((a3J.map intOf).map λz=>.lit (.int .u8 z)):=zw;have y1:(b3E.map intOf).map (λz=>Value.int .u8 z)=b3E:=zw;have y2:(b3h.map intOf).map (λz=>Value.int .u8 z)=b3h:=zw;have y3:(b0s.map intOf).map (λz=>Value.int .u64 z)=b0s:=zw;have y5:(a3J.map intOf).map (λz=>Value.int .u8 z)=a3J:=zw;rw[x1]at d1;rw[x2]at d2;rw[x3]at d3;rw[x5]at d5;have z1:=b2h (G:=5) (T:=271) zw zw oZ uM zw zw a1 b1 c1 d1;have z2:=b2h (G:=4) (T:=253) zw zw oW uM zw zw a2 b2 c2 d2;have z3:=b2h (G:=2) (T:=250) zw zw og sM zw zw a3 b3 c3 d3;have z5:=b2h (G:=0) (T:=219) zw zw Tryz.underlying219 uM zw zw a5 b5 c5 d5;rw[y1]at z1;rw[y2]at z2;rw[y3]at z3;rw[y5]at z5;exact⟨z1,z2,z3,z5⟩
theorem e4k:((begin Tryz.prog (λ_ _=>0) default).world.heap[3]?).bind Obj.row?=some (#[.int .i64 0],3):=zw
theorem e6Y:(((begin Tryz.prog (λ_ _=>0) default).world.heap[6]?).bind Obj.row?).isSome=true:=zw
theorem d2I {W}(h:laidMet Tryz.prog Rows.asmLinesRow.laid W)(hS:W.ShapedOpen Tryz.prog):∃mL,LaidV (I5 mL) W:=by
 obtain⟨⟨t5,z5,h5⟩,⟨t4,z4,h4⟩,⟨t2,z2,h2⟩,⟨t0,z0,h0⟩⟩:=d0y h;have hg:Tryz.prog.globals.size=7:=zw;obtain⟨cs,e3,hsz,hrow⟩:=hS.1 3 _ _ (by rw[hg];decide) e4k;obtain⟨⟨zero6,ty6⟩,e6⟩:=tF.1 e6Y;obtain⟨cs6,e6',_,_⟩:=hS.1 6 _ _ (by rw[hg];decide) e6;obtain⟨ts,hts,_,hc⟩:=hrow zw;have ets:ts=[3]:=(sQ ((show Tryz.prog.cellTypes Tryz.prog.depth 3=some [3] by kernel_rfl).symm.trans hts)).symm;subst ets;obtain⟨l⟩:=cs;have hl:l.length=1:=hsz;obtain⟨x,rfl⟩:∃x,l=[x]:=by match l,hl with|[x],_=>exact⟨x,rfl⟩
 obtain⟨u,hu,hk⟩:=hc 0 x rfl;cases hu;unfold Cell.ok at hk;rw[uU]at hk;obtain⟨m,rfl⟩:∃m,x=.int .i64 m:=by cases x with|int k n=>obtain⟨rfl,_⟩:=hk;exact⟨n,rfl⟩|_=>exact(hk:False).elim
 have hrows:∀(g:Nat) (l:List Value),(I5 m)[g]?=some l->l≠[]->∃t fz,W.heap[g]?=some (.cells ⟨l⟩ t fz):=by intro g l hl hne;rcases g with _|_|_|_|_|_|_|g;cases hl;exact⟨_,_,h0⟩;cases hl;exact absurd rfl hne;cases hl;exact⟨_,_,h2⟩;cases hl;exact⟨_,_,e3⟩;cases hl;exact⟨_,_,h4⟩;cases hl;exact⟨_,_,h5⟩;cases hl;exact absurd rfl hne;cases hl
 refine⟨m,?_,λg l hl off v hv=>?_,hrows⟩;rcases uj 6 W.heap.size with q|q;exact q;rw[Array.getElem?_eq_none q]at e6';cases e6';obtain⟨t,fz,hh⟩:=hrows g l hl (λe=>by rw[e]at hv;cases hv);simp only[World.cell?,hh];simpa using hv
end S
end Go.Proofs.YtmomonnlmbljoaaGreatDoor
section
namespace Go.Proofs.YtmomonnlmbljoaaGreatDoor.S
open Go.V Go.RowKit Go.ChangeShapes Go.WideShapes Go.ChangeAt
theorem Tryz.ownK:ownKnob Tryz.prog.godebug=none:=zw
theorem Tryz.laidOutK:laidOutB Tryz.prog=true:=zw
theorem d1f {H}{enc:TypeId×Value->H}{W base args ds gs before}(hval0:∀(j:Nat) t v,Tryz.f9.params[j]?=some t->args[j]?=some v->Value.okWide Tryz.prog W .any base t v)(hW:DataW.Whole enc Tryz.prog Tryz.f9.params.toList Rows.asmBackSpec.vars false W args.toList ds gs before)(hX:laidMet Tryz.prog Rows.asmBackUptoRow.laid W)(hS:W.ShapedOpen Tryz.prog)(hk:Rows.uptoBulkAll (ds++gs)<=1048576):Calls Tryz.prog 9 args W λe W'=>∃v,e=.returned v/\Rows.asmBackSpec.post enc Tryz.prog Tryz.f9 false true false false W args v W':=by
 have hval:=hval0;have hW':=hW;obtain⟨p,q,hA0,hV,rfl,hfz,hnd⟩:=hW;have hA:DataW.TrodAll enc Tryz.prog W 0 (λ_=>true) true Tryz.f9.params.toList args.toList ds p:=hA0;rw[Tryz.params9]at hA hval;obtain⟨v0,v1,d0,d1,p0,p1,rfl,rfl,rfl,h0,h1⟩:=trodAll_two hA;obtain⟨rfl,rfl⟩:=trodVars_none hV;obtain⟨mL,hL⟩:=d2I hX hS;refine(c7v hL (hval 0 32 v0 rfl rfl) (hval 1 54 v1 rfl rfl) h0 h1 (by simpa using hk)).mono λe W' ⟨he,hb⟩=>?_;subst he;have hlt:∀x∈p0++p1,x.block<W.heap.size:=λx hx=>by simpa using hW'.lt x (by simpa using hx)
 refine⟨_,rfl,_,_,_,[],p0++p1,[],hW',?_,?_,?_,hb.frame _,λh=>zg⟩;exact trodAll_mk1 (shut_bool si true);exact trodAll_mk2 (Below.trod Tryz.laidOutK zw (vS zw) h0 hb (λx hx=>hlt x (List.mem_append_left _ hx))) (Below.trod Tryz.laidOutK zw (vS zw) h1 hb (λx hx=>hlt x (List.mem_append_right _ hx)));rfl
def b2N:Array Value:=#[.slice none 0 0,.agg #[.slice none 0 0,.slice none 0 0,.slice none 0 0,.slice none 0 0,.slice none 0 0,.slice none 0 0,.slice none 0 0,.slice none 0 0,.slice none 0 0,.slice none 0 0]]
theorem c3s (os args):laidMet Tryz.prog Rows.asmBackUptoRow.laid ((World.laidAll Tryz.prog os Rows.asmBackUptoRow.laid).forCall (λ_ _=>0) ⟨#[],args,[]⟩).memory:=laidMet_laidAll args zw zw
theorem b7B (os args):((World.laidAll Tryz.prog os Rows.asmBackUptoRow.laid).forCall (λ_ _=>0) ⟨#[],args,[]⟩).Shaped Tryz.prog:=World.shaped_of_ZipB zw zw
def d5b {H:Type}:List (DataW H):=[.nil,.agg [.agg [.nil,.nil,.nil,.nil,.nil,.nil,.nil,.nil,.nil],.nil]]
theorem c5P (os){H}(enc:TypeId×Value->H):DataW.whole enc Tryz.prog ((World.laidAll Tryz.prog os Rows.asmBackUptoRow.laid).forCall (λ_ _=>0) ⟨#[],b2N,[]⟩).memory Tryz.f9.params.toList (Rows.OpenSpec.upto Rows.asmBackSpec).vars false b2N.toList 12=some (d5b,[],[]):=zw
theorem c5L {H}:Rows.uptoSmall H (d5b++[])=true:=zw
theorem c5a (os):Input.okWideB Tryz.prog ((World.laidAll Tryz.prog os Rows.asmBackUptoRow.laid).forCall (λ_ _=>0) ⟨#[],b2N,[]⟩) 9 ⟨#[],b2N,[]⟩=true:=zw
theorem c8q (os){H}(enc:TypeId×Value->H):(Rows.OpenSpec.upto Rows.asmBackSpec).bare.sizedB enc Tryz.prog Tryz.f9 false ((World.laidAll Tryz.prog os Rows.asmBackUptoRow.laid).forCall (λ_ _=>0) ⟨#[],b2N,[]⟩).memory b2N 12=true:=zw
theorem c3E (os) (started:os.Started) (H) (enc:TypeId×Value→H) (F) :
 ReturnsInHanded {} Tryz.checked os 9 .any ((Rows.OpenSpec.upto Rows.asmBackSpec).preRow enc Tryz.prog Tryz.f9 Rows.asmBackUptoRow.domain false Rows.asmBackUptoRow.laid) (((Rows.OpenSpec.upto Rows.asmBackSpec).at F).post enc Tryz.prog Tryz.f9 false true false false):=by
 have hx:=c5P os enc
 refine returnsInHanded_of_row (C:=Tryz.checked) (s:=Rows.OpenSpec.upto Rows.asmBackSpec) Tryz.ownK started zw Tryz.func9
  ⟨World.laidAll Tryz.prog os Rows.asmBackUptoRow.laid,fun _ _=>0,⟨#[],b2N, []⟩,World.laidAll_os _ _ _,b7B os _,(ny (base:=0) (c5a os)).1,(ny (c5a os)).2,
   OpenSpec.preRow_of_cond 12 hx (show List.all [] _=true from rfl) (fun k hk=>by cases hk; exact c5L) (c8q os enc) (c3s os _),by
    simp only [Assume.holds]
    exact ⟨zq,zq,fun _=>Modest.zero,zq,zq⟩⟩ ?_
 intro W base args ds gs before hval hW _ hcond _ hL hS _
 exact d1f hval hW hL hS (vS (hcond _ rfl))
theorem c8S:Rows.AsmBackUptoSaid:=OpenClaim.holds_of_cond 9 Tryz.f9 rfl rfl rfl rfl rfl rfl rfl ⟨rfl,rfl,rfl,rfl,rfl⟩ rfl rfl rfl rfl rfl zw Tryz.func9 zw (vS zw) (by unfold Func.isWrapper;rw[vN (uP zw)];exact⟨rfl,rfl⟩) (λos started H enc _ F=>by rw[OpenClaim.pre_eq_preRow];exact c3E os started H enc F)
theorem asmBack_holds:Rows.AsmBackUptoCardSaid:=Claim7.holds_tied_plain_at .later [] _ _ _ _ c8S (λ_ h=>zg) zw (λ_ h=>zg) asmBackUpto_row_tie rfl ⟨rfl,rfl⟩ zw rfl (λf fn hf hfn=>by
 obtain rfl:f=9:=sQ ((show Tryz.prog.funcNamed Rows.asmBackUptoRow.func=some 9 by kernel_rfl).symm.trans hf)|>.symm;obtain rfl:fn=Tryz.f9:=(sQ (Tryz.func9.symm.trans hfn)).symm;refine⟨zw,λj t ht=>?_⟩;rw[Tryz.params9]at ht;have h3:t=32\/t=54:=by simpa using Array.mem_of_getElem? ht
 rcases h3 with rfl|rfl<;>exact(show Tryz.prog.wantsStandIn _=false by kernel_rfl)) zw
end Go.Proofs.YtmomonnlmbljoaaGreatDoor.S
end
