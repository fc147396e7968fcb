import Derived.Test.YtmomonnlmbljoaaGreatDoorGaq
import Derived.Test.YtmomonnlmbljoaaGreatDoorGbb
import Derived.Test.YtmomonnlmbljoaaGreatDoorGbd
import Derived.Test.YtmomonnlmbljoaaGreatDoorGbg
set_option maxRecDepth 1000000
set_option maxHeartbeats 4000000
set_option linter.unusedVariables false
set_option linter.unusedSimpArgs false
noncomputable section
namespace Go.Proofs.YtmomonnlmbljoaaGreatDoor
open Go.V Go.RowKit Go.Shelf Go.Proofs
variable {mL:Int}
section
attribute [local congr] q9 x8 A8 z8 D5 x9 D6 D8 D7
def ls_ (l:List (List UInt8)):List Value:=l.map λt=>.string ⟨⟨t⟩⟩
theorem a5q (l):(ls_ l).length=l.length:=wK ..
theorem d1e (a b):beqBytes a b=true↔a=b:=by rw[V.a2N,rJ]
theorem a2m {a b}(h:a≠b):beqBytes a b=false:=by cases e:beqBytes a b<;>first|rfl|grind[d1e]
theorem a8o (a):beqBytes a a=true:=(d1e a a).2 rfl
def b1a (es:List (Value×Value)):Prop:=∀e∈es,∃W,e.1=.string ⟨⟨W⟩⟩
theorem b8G (T W v):∀es,b1a es->Y9 (.string ⟨⟨T⟩⟩) (a1G (.string ⟨⟨W⟩⟩) v es)=bcase (beqBytes T W) (some (some v)) (Y9 (.string ⟨⟨T⟩⟩) es):=by
 intro es;have e3:∀(q:List UInt8) (x:Value) (l:List (Value×Value)),Y9 (.string ⟨⟨T⟩⟩) ((.string ⟨⟨q⟩⟩,x)::l)=bcase (beqBytes T q) (some (some x)) (Y9 (.string ⟨⟨T⟩⟩) l):=λq x l=>by show(match some (beqBytes T q)with|none=>none|some true=>some (some x)|some false=>Y9 (.string ⟨⟨T⟩⟩) l)=_;cases beqBytes T q<;>rfl
 induction es with|nil=>intro _;exact e3 W v []|cons e es ih=>intro h;obtain⟨q,hq⟩:=h e zn;obtain⟨e1,e2⟩:=e;simp only at hq;subst hq;have hih:=ih λe he=>h e (vW _ he);have e0:a1G (.string ⟨⟨W⟩⟩) v ((.string ⟨⟨q⟩⟩,e2)::es)=(match some (beqBytes W q)with|some true=>(.string ⟨⟨W⟩⟩,v)::es|_=>(.string ⟨⟨q⟩⟩,e2)::a1G (.string ⟨⟨W⟩⟩) v es):=rfl;rw[e0];by_cases h1:W=q;grind[a8o,Y9];rw[a2m h1];show Y9 _ ((.string ⟨⟨q⟩⟩,e2)::a1G _ v es)=_;rw[e3,e3,hih];by_cases h2:T=q;subst h2;rw[a8o,a2m (λk=>h1 k.symm)];rfl;rw[a2m h2];rfl
theorem d0d (W v):∀es,b1a es->b1a (a1G (.string ⟨⟨W⟩⟩) v es):=by intro es;induction es with|nil=>intro _ e he;have:e=(.string ⟨⟨W⟩⟩,v):=wN.1 he;rw[this];simp_all|cons x es ih=>intro h e he;obtain⟨q,hq⟩:=h x zn;obtain⟨x1,x2⟩:=x;simp only at hq;subst hq;have e0:a1G (.string ⟨⟨W⟩⟩) v ((.string ⟨⟨q⟩⟩,x2)::es)=(match some (beqBytes W q)with|some true=>(.string ⟨⟨W⟩⟩,v)::es|_=>(.string ⟨⟨q⟩⟩,x2)::a1G (.string ⟨⟨W⟩⟩) v es):=rfl;rw[e0]at he;cases hb:beqBytes W q with|true=>rw[hb]at he;rcases vG.1 he with k|k;rw[k];simp_all;exact h e (vW _ k)|false=>rw[hb]at he;rcases vG.1 he with k|k;rw[k];simp_all;exact ih (λe he=>h e (vW _ he)) e k
def fsR:List (List UInt8)->List (Value×Value)|[]=>[]|T::r=>bcase (beqBytes T []) (fsR r) (a1G (.string ⟨⟨T⟩⟩) (.int .i64 (.ofNat r.length)) (fsR r))
theorem c2s:∀r,b1a (fsR r):=by intro r;induction r with|nil=>intro e he;cases he|cons T r ih=>show b1a (bcase _ _ _);cases beqBytes T [];exact d0d _ _ _ ih;exact ih
def memB (T:List UInt8)(l:List (List UInt8)):Bool:=l.any λW=>beqBytes W T
theorem c3w (T):∀r,(∃n,Y9 (.string ⟨⟨T⟩⟩) (fsR r)=some (some (.int .i64 (.ofNat n)))/\beqBytes T []=false/\memB T r=true)\/(Y9 (.string ⟨⟨T⟩⟩) (fsR r)=some none/\(beqBytes T []=true\/memB T r=false)):=by intro r;induction r with|nil=>exact Or.inr ⟨rfl,Or.inr rfl⟩|cons W r ih=>have em:memB T (W::r)=(beqBytes W T||memB T r):=rfl;have ef:fsR (W::r)=bcase (beqBytes W []) (fsR r) (a1G (.string ⟨⟨W⟩⟩) (.int .i64 (.ofNat r.length)) (fsR r)):=rfl;rw[em,ef];by_cases hW:W=[];subst hW;rw[a8o,C9];rcases ih with⟨n,h1,h2,h3⟩|⟨h1,h2⟩;grind;refine Or.inr ⟨h1,?_⟩;by_cases hT:T=[];grind;simp_all[a2m];rw[a2m hW,F7,b8G T W _ _ (c2s r)];by_cases hT:T=W;subst hT;rw[a8o,C9];exact Or.inl ⟨_,rfl,a2m hW,rfl⟩;rw[a2m hT,F7,a2m (λk=>hT k.symm),wF];exact ih
theorem c2Q (T l):memB T l.reverse=memB T l:=by unfold memB;rw[List.any_reverse]
def okN (Ns:List (List UInt8))(T:List UInt8):Bool:=bcase (beqBytes T []) true (a1l T&& !(memB T Ns))
def a4N (Ns:List (List UInt8))(T:List UInt8):List (List UInt8):=bcase (okN Ns T) (Ns++[T]) Ns
def a2j {α:Type}(f:Nat->α)(k:Nat)(x:α):Nat->α:=λj=>if j=k then x else f j
theorem a1h {α}(f:Nat->α)(k x):a2j f k x k=x:=vX rfl
theorem a2h {α}(f:Nat->α){k j}(x)(h:j≠k):a2j f k x j=f j:=vg h
structure SN (c0 c:Nat) (h:Trie VObj) (Ns:Nat→List (List UInt8)) (us:Nat→Sl) (Lb:List (List UInt8)) (ul:Sl):Prop where
 cc:c0+20≤c
 m:h.get c0=some (.map (esN c0 9))
 s:h.get (c0+1)=some (.cells [(.map (some c0), 0),(.slice ul.a ul.n ul.e, 0)] 0 false)
 k:∀ j,j<9→h.get (c0+2+2 * j)=some (.map (fsR (Ns j).reverse))∧h.get (c0+3+2 * j)=some (.cells [(.int .i64 (.ofNat (Ns j).length), 0),(.slice (us j).a (us j).n (us j).e, 0),(.map (some (c0+2+2 * j)), 0)] 0 false)
 g:∀ j,j<9→∃ rows,R7 2 c h (us j) rows∧(us j).n≤(Ns j).length
 gl:R7 1 c h ul (Lb.map a1R)
 o:∀ j,j<9→∀ i,(us j).own i→c0+20≤i
 ol:∀ i,ul.own i→c0+20≤i
 d:∀ j j',j<9→j'<9→j≠j'→∀ i,(us j).own i→¬ (us j').own i
 dl:∀ j,j<9→∀ i,(us j).own i→¬ ul.own i
def SnP (c0:Nat)(us:Nat->Sl)(ul:Sl)(i:Nat):Prop:=(c0<=i/\i<c0+20)\/(∃j,j<9/\(us j).own i)\/ul.own i
theorem SN.scs {c0 c h Ns us Lb ul}(H:SN c0 c h Ns us Lb ul):ScS (c0+1) c0 (λk=>fsR (Ns k).reverse) Lb c h ul λi=>i<c/\i≠c0+1/\¬ul.own i:=by
 have hcc:=H.cc;have no:∀i,i<c0+20->¬ul.own i:=λi hi ho=>by have:=H.ol i ho;omega
 refine⟨zy,H.s,H.gl,λi ho=>by have:=H.ol i ho;omega,⟨⟨zy,zy,no _ zy⟩,⟨esN c0 9,H.m,λk hk=>?_⟩,λk hk T=>?_⟩,λi hi=>⟨hi.1,hi.2.1,hi.2.2⟩⟩;obtain⟨g1,g2⟩:=H.k k hk;refine⟨c0+3+2*k,0,0,_,0,false,_,_,c0+2+2*k,?_,⟨zy,zy,no _ zy⟩,g2,rfl,⟨zy,zy,no _ zy⟩,g1⟩;rw[b4Z,ww hk];rfl;rcases c3w T (Ns k).reverse with⟨n,h1,_⟩|⟨h1,_⟩;grind;simp_all
abbrev G83:=λp0 p1 p2 p3 p4 s=>P6 (e7x p0 p1 p2 p3 p4) s
abbrev b8g:=λp0 p1 p2 p3 p4 p5 s=>P6 (c9H p0 p1 p2 p3 p4 p5) s
theorem e1p (N call){k}(hk:k<9):b2F o9 N call (.int .i64 (.ofNat k))=V.M.pure (.ret (.bool true)):=by have e1:decide (Int.ofNat 0<=Int.ofNat k)=true:=ww (sD.2 (vY k));have e2:decide (Int.ofNat k<Int.ofNat 9)=true:=ww (vv.2 hk);simp only[e6n,U1,Y6,Q4,G6,Q3,Q6,Q7,l_0,l_s,X8,I6,V.e7i,a3N,I7,e1,e2]
def plB (T:List UInt8)(l:List (List UInt8)):Bool:=memB T l&& !(beqBytes T [])
def U8 (c:Nat)(h:Trie VObj)(v:Value)(l:List (List UInt8)):Prop:=∃a e,v=.slice a l.length e/\(l=[]\/∃b o g cs cur ro,a=some ⟨b,o,some g⟩/\e=1/\b<c/\h.get b=some (.cells cs cur ro)/\A7 g (F8 cs o) l.length=some (ls_ l))
theorem U8.len {c h v l}(H:U8 c h v l):b1Z v=V.M.pure (.int .i64 (.ofNat l.length)):=by obtain⟨a,e,rfl,_⟩:=H;rfl
theorem U8.mono {c c' h h' v l}(H:U8 c h v l)(hc:c<=c')(hh:∀b,b<c->h'.get b=h.get b):U8 c' h' v l:=yM
theorem U8.read {c h v l}(H:U8 c h v l){i z}(hi:l[i]?=some z):∃b p g cs cur ro,a7l 1 v (.int .i64 (.ofNat i))=V.M.pure (.pointer (some ⟨b,p,some g⟩))/\b<c/\h.get b=some (.cells cs cur ro)/\A7 g (F8 cs p) 1=some [.string ⟨⟨z⟩⟩]:=by obtain⟨a,e,rfl,hor⟩:=H;have hlt:i<l.length:=(xC.1 hi).1;rcases hor with rfl|⟨b,o,g,cs,cur,ro,rfl,rfl,e3,e4,e5⟩;cases hi;refine⟨b,o+i,g,cs,cur,ro,?_,e3,e4,?_⟩;rw[a1d 1 i l.length .i64 b o (some g) hlt zq,vQ];rw[a3y];grind[a1e,ls_]
theorem n83 {c h v l}(H:U8 c h v l)(hl:l.length<4294967296)(T N0 call):∀(m e) (xs) (r w),m<=l.length->C8 xs 16=.int .i64 (N8 .i64 (.ofNat m- .ofNat 1))->l9 (go (Q5 (c8e o9 N0 call v (.string ⟨⟨T⟩⟩)) (m+1+e) xs) ⟨c,h,r,w⟩) λy s=>s.c=c/\s.h=h/\s.w=w/\∃xs',(y=(.exit 0,xs')/\plB T (l.take m)=false)\/(y=(.ret,xs')/\plB T (l.take m)=true/\∃i,C8 xs' 13=.int .i64 (.ofNat i)):=by
 intro m;induction m with
  |zero=>intro e xs r w hm h1;rw[wX 0 1 e,O8];have e1:N8 .i64 (Int.ofNat 0-Int.ofNat 1)=.negSucc 0:=rfl;have e0:decide (Int.ofNat 0<=Int.negSucc 0)=false:=rfl;rw[e1]at h1;simp(disch:=try exact dz)only[b8g,h1,e0,↓gP,gY];exact l9.done ⟨rfl,rfl,rfl,_,Or.inl ⟨rfl,rfl⟩⟩|succ m ih=>
   intro e xs r w hm h1;rw[wX (m+1) 1 e,O8];rw[a1u m zy]at h1;obtain⟨z,hz⟩:∃z,l[m]?=some z:=⟨_,wz zy⟩;obtain⟨b,p,g,cs,cur,ro,q1,q2,q3,q4⟩:=H.read hz;have e0:decide (Int.ofNat 0<=Int.ofNat m)=true:=ww (sD.2 (vY m));have ht:l.take (m+1)=l.take m++[z]:=by rw[qM,hz];rfl
   have hp:plB T (l.take (m+1))=bcase (beqBytes z T&& !(beqBytes T [])) true (plB T (l.take m)):=by unfold plB memB;rw[ht,List.any_append];show((_||(beqBytes z T||false))&&_)=_;cases beqBytes z T<;>cases beqBytes T []<;>cases(l.take m).any λW=>beqBytes W T<;>rfl
   rw[hp];cases hb:(beqBytes z T&& !(beqBytes T []))with|true=>simp(disch:=try exact dz)only[b8g,h1,e0,q1,q3,q4,hb,↓gP,gY];exact l9.done ⟨rfl,rfl,rfl,_,Or.inr ⟨rfl,trivial,m,rfl⟩⟩|false=>simp(disch:=try exact dz)only[b8g,h1,e0,q1,q3,q4,hb,↓gP,gY];exact ih e _ _ _ zy rfl
theorem t83 {c h v l}(H:U8 c h v l)(hl:l.length<1000)(T call r w):l9 (go (b3e o9 NN call v (.string ⟨⟨T⟩⟩)) ⟨c,h,r,w⟩) λx s=>s.c=c/\s.h=h/\s.w=w/\∃z,x=.ret (.int .i64 z)/\decide (Int.ofNat 0<=z)=plB T l:=by have hlen:=H.len;obtain⟨e,hNe⟩:∃e,NN=l.length+1+e:=⟨NN-(l.length+1),zL⟩;have lp:=λxs r w h1=>n83 H zy T NN call l.length e xs r w (xD _) h1;rw[<-hNe,qA]at lp;simp(disch:=try exact dz)only[G83,hlen,↓gP,gY];refine l9.bindJ (lp _ _ _ rfl) λy xs' s hq=>?_;obtain⟨c1,h1,r1,w1⟩:=s;obtain⟨f1,f2,f3,xs1,⟨f4,f5⟩|⟨f4,f5,i,f6⟩⟩:=hq;cases f4;simp(disch:=try exact dz)only[J4,↓gP,gY];exact l9.done ⟨f1,f2,f3,.negSucc 0,rfl,by rw[f5];rfl⟩;cases f4;simp(disch:=try exact dz)only[f6,↓gP,gY];exact l9.done ⟨f1,f2,f3,.ofNat i,rfl,by rw[f5];rfl⟩
def sv (u:Sl):Value:=.slice u.a u.n u.e
def s9 (vs:Nat->Sl):List Value:=[sv (vs 0),sv (vs 1),sv (vs 2),sv (vs 3),sv (vs 4),sv (vs 5),sv (vs 6),sv (vs 7),sv (vs 8)]
def sR (vs:Nat->Sl)(vl:Sl):List Value:=[sv (vs 0),sv (vs 1),sv (vs 2),sv (vs 3),sv (vs 4),sv (vs 5),sv (vs 6),sv (vs 7),sv (vs 8),sv vl]
theorem b1u (vs){k}(hk:k<9):(s9 vs)[k]?=some (sv (vs k)):=by match k,hk with|0,_=>rfl|1,_=>rfl|2,_=>rfl|3,_=>rfl|4,_=>rfl|5,_=>rfl|6,_=>rfl|7,_=>rfl|8,_=>rfl
theorem d8F (vs){k}(hk:k<9)(u):(s9 vs).set k (sv u)=s9 (a2j vs k u):=by match k,hk with|0,_=>rfl|1,_=>rfl|2,_=>rfl|3,_=>rfl|4,_=>rfl|5,_=>rfl|6,_=>rfl|7,_=>rfl|8,_=>rfl
theorem a6u {k b o g}(hk:k<9):c7o 1 9 (.pointer (some ⟨b,o,some g⟩)) (.int .i64 (.ofNat k))=V.M.pure (.pointer (some ⟨b,o+k,some g⟩)):=by unfold c7o elemAtN;simp only[a9l,G7,a2T,L8 hk];show V.M.pure (Value.pointer (some ⟨b,o+k*1,some g⟩))=_;rw[vQ]
abbrev G68:=λp0 p1 p2 p3 p4 p5 s=>P6 (e7H p0 p1 p2 p3 p4 p5) s
theorem b3U {α}(f:Nat->α)(k):a2j f k (f k)=f:=by funext j;simp_all[a2j]
def z10:List Value:=[.slice none 0 0,.slice none 0 0,.slice none 0 0,.slice none 0 0,.slice none 0 0,.slice none 0 0,.slice none 0 0,.slice none 0 0,.slice none 0 0,.slice none 0 0]
abbrev cl (l:List Value):VObj:=.cells (J7 (λv=>(v,0)) l) 0 false
theorem st9 (vs ws){b c h}(hb:b<c)(hg:h.get b=some (cl (s9 ws)))(r w):go (a6o 9 (.pointer (some ⟨b,0,some 0⟩)) (.agg ⟨s9 vs⟩)) ⟨c,h,r,w⟩=some (undef,⟨c,V.upd h b (cl (s9 vs)),b::r,b::w⟩):=by rw[a2g c h r w 9 b 0 0 _ rfl,L8 hb,hg];rfl
theorem b2G (vs ws vl wl){b c h}(hb:b<c)(hg:h.get b=some (cl (sR ws wl)))(r w):go (a6o 10 (.pointer (some ⟨b,0,some 0⟩)) (.agg ⟨sR vs vl⟩)) ⟨c,h,r,w⟩=some (undef,⟨c,V.upd h b (cl (sR vs vl)),b::r,b::w⟩):=by rw[a2g c h r w 10 b 0 0 _ rfl,L8 hb,hg];rfl
theorem e9e (vs vl){b c h}(hb:b<c)(hg:h.get b=some (cl (sR vs vl)))(r w):go (b1g 10 (.pointer (some ⟨b,0,some 0⟩))) ⟨c,h,r,w⟩=some (.agg ⟨sR vs vl⟩,⟨c,h,b::r,w⟩):=by rw[a4R,L8 hb,hg];rfl
theorem e3V (vs vl){b c h}(hb:b<c)(hg:h.get b=some (cl (sR vs vl)))(r w):go (loadN ⟨b,0,some 0⟩ 10) ⟨c,h,r,w⟩=some (sR vs vl,⟨c,h,b::r,w⟩):=by rw[a2q,L8 hb,hg];rfl
theorem f0l (vs vl){b c k}(hk:k<9){h}(hb:b<c)(hg:h.get b=some (cl (sR vs vl)))(r w):go (a6U (.pointer (some ⟨b,k,some 0⟩))) ⟨c,h,r,w⟩=some (sv (vs k),⟨c,h,b::r,w⟩):=by have t9:A7 0 (J7 (λv=>(v,0)) (sR vs vl)) 9=some (s9 vs):=rfl;rw[a1s,L8 hb,hg];unfold cl;rw[Z5,a1e t9 k _ (b1u vs hk)];rfl
theorem b7J (vs vl){b c h}(hb:b<c)(hg:h.get b=some (cl (sR vs vl)))(r w):go (a6U (.pointer (some ⟨b,9,some 0⟩))) ⟨c,h,r,w⟩=some (sv vl,⟨c,h,b::r,w⟩):=by rw[a1s,L8 hb,hg];rfl
theorem e8j (vs u){b c k}(hk:k<9){h}(hb:b<c)(hg:h.get b=some (cl (s9 vs))):∃cs,A7 0 cs 9=some (s9 (a2j vs k u))/\∀r w,go (a6o 1 (.pointer (some ⟨b,k,some 0⟩)) (sv u)) ⟨c,h,r,w⟩=some (undef,⟨c,V.upd h b (.cells cs 0 false),b::r,b::w⟩):=by have t9:A7 0 (J7 (λv=>(v,0)) (s9 vs)) 9=some (s9 vs):=rfl;obtain⟨cs,z1,z2,z3⟩:=c4M (v:=sv u) _ k 9 _ t9 hk;refine⟨cs,by rw[z3,d8F vs hk],λr w=>?_⟩;rw[a2g c h r w 1 b k 0 _ rfl,L8 hb,hg];unfold cl;rw[a3w,show(sv u).cells.toList=[sv u]from rfl,z1];rfl;exact uO (show k+1<=9 from hk)
theorem U8.rows {c h x l}(H:U8 c h (sv x) l):b3f 1 c h x (ls_ l):=by obtain⟨a,e,he,hor⟩:=H;obtain⟨xa,xn,xe⟩:=x;cases he;refine⟨by rw[a5q,vQ],?_⟩;rcases hor with rfl|⟨b,o,g,cs,cur,ro,rfl,rfl,e3,e4,e5⟩;simp_all;exact Or.inr ⟨b,o,g,cs,cur,ro,rfl,rfl,e3,e4,by rw[a5q];exact e5⟩
theorem U8.grow {c h u l}(H:R7 1 c h u (ls_ l)):U8 c h (sv u) l:=by obtain⟨h1,h2⟩:=H;rw[a5q,vQ]at h1;obtain⟨ua,un,ue⟩:=u;simp only at h1 h2;subst h1;refine⟨ua,ue,rfl,?_⟩;rcases h2 with h2|⟨ab,g,cs,e1,e2,e3,e4,e5,e6⟩;simp_all;exact Or.inr ⟨ab,0,g,cs,g,false,e1,e2,e3,e4,by rw[Y7];rw[a5q]at e6;exact e6⟩
theorem c9E (l):M0 P8 (ls_ l)=true:=by rw[R5];intro y hy;unfold ls_ at hy;obtain⟨T,_,rfl⟩:=uj.1 hy;rfl
def U5:Sl:=⟨none,0,0⟩
theorem n68 {c h vs vl k}(hk:k<9){l}(H:U8 c h (sv (vs k)) l)(hl:l.length<1000)(T call)(h108:call 108 [.int .i64 (.ofNat k)]=V.M.pure (.ret (.bool true)))(h24:call 24 [.string ⟨⟨T⟩⟩]=V.M.pure (.ret (.bool (a1l T))))(h83:∀v,call 83 [v,.string ⟨⟨T⟩⟩]=b3e o9 NN call v (.string ⟨⟨T⟩⟩))(r w):l9 (go (c1J o9 NN call (.agg ⟨sR vs vl⟩) (.int .i64 (.ofNat k)) (.string ⟨⟨T⟩⟩)) ⟨c,h,r,w⟩) λx s=>c<=s.c/\(∀i,i<c->s.h.get i=h.get i)/\(∀i∈s.w,i∈w\/c<=i)/\∃u n e,x=.ret (.tuple ⟨[.agg ⟨sR (a2j vs k u) vl⟩,.int .i64 (.ofNat n),.int .i64 (.ofNat e)]⟩)/\U8 s.c s.h (sv u) (a4N l T)/\∀i,u.own i->(vs k).own i\/c<=i/\i<s.c:=by
 have hbx:∀c h r w,go (a7m (.agg ⟨sR vs vl⟩)) ⟨c,h,r,w⟩=some (.pointer (some ⟨c,0,some 0⟩),⟨c+1,V.upd h c (.cells (J7 (λv=>(v,0)) (sR vs vl)) 0 false),r,c::w⟩):=λc h r w=>a1n c h r w (sR vs vl) rfl;simp(disch:=try exact dz)only[G68,hbx,h108,h24,↓gP,gY,gT];have ga:∀X Y,(V.upd (V.upd h c X) (c+1) Y).get c=some X:=λX Y=>(d9 zy).trans (o7 _ _ _);have gc:∀X Y i,i<c->(V.upd (V.upd h c X) (c+1) Y).get i=h.get i:=λX Y i hi=>(d9 zy).trans (d9 zy);obtain⟨h2,eh,ga,gb,gc⟩:∃h2,V.upd (V.upd h c (.cells (J7 (λv=>(v,0)) (sR vs vl)) 0 false)) (c+1) (.cells [(.slice none 0 0,0),(.slice none 0 0,0),(.slice none 0 0,0),(.slice none 0 0,0),(.slice none 0 0,0),(.slice none 0 0,0),(.slice none 0 0,0),(.slice none 0 0,0),(.slice none 0 0,0),(.slice none 0 0,0)] 0 false)=h2/\h2.get c=some (cl (sR vs vl))/\h2.get (c+1)=some (cl (sR (λ_=>U5) U5))/\∀i,i<c->h2.get i=h.get i:=⟨_,rfl,ga _ _,o7 _ _ _,gc _ _⟩;rw[eh];have H2:=H.mono (show c<=c+1+1 by omega) gc;have q1:=λr w=>e9e vs vl (b:=c) (c:=c+1+1) (h:=h2) zy ga r w;have q2:=λr w=>b2G vs (λ_=>U5) vl U5 (b:=c+1) (c:=c+1+1) (h:=h2) zy gb r w;have q3:=λr w=>e3V vs vl (b:=c+1) (c:=c+1+1) (h:=V.upd h2 (c+1) (cl (sR vs vl))) zy (o7 _ _ _) r w;have q4:=λr w=>f0l vs vl hk (b:=c) (c:=c+1+1) (h:=h2) zy ga r w;have hsame:∀i,i<c->(V.upd h2 (c+1) (cl (sR vs vl))).get i=h.get i:=λi hi=>(d9 zy).trans (gc i hi);have Hs:U8 (c+1+1) (V.upd h2 (c+1) (cl (sR vs vl))) (sv (a2j vs k (vs k) k)) l:=by rw[a1h];exact H.mono zy hsame
 have t10:A7 0 (J7 (λv=>(v,0)) (sR vs vl)) 10=some (sR vs vl):=rfl;have t9:A7 0 (J7 (λv=>(v,0)) (sR vs vl)) 9=some (s9 vs):=rfl;cases hc:(!(beqBytes T [])&& !(a1l T))with
  |true=>
   simp(disch:=try exact dz)only[hc,t10,q2,↓gP,gY,gT];have hb:beqBytes T []=false:=zm;have hn:a1l T=false:=zm;have ha:a4N l T=l:=by unfold a4N okN;rw[hb,hn];rfl
   refine l9.done ⟨zu,hsame,λi hi=>?_,vs k,0,24,by rw[b3U],?_,λi k1=>Or.inl k1⟩;grind;rw[ha];exact H.mono zu hsame|false=>
   simp(disch:=try exact dz)only[hc,q4,a6u,h83,↓gP,gY,gT];refine l9.bindC (t83 H2 hl T call _ _) λx s hq=>?_;obtain⟨c3,h3,r3,w3⟩:=s;obtain⟨f1,f2,f3,z,rfl,f5⟩:=hq;simp only at f1 f2 f3;subst f1 f2 f3;cases hp:plB T l with
    |true=>
     rw[hp]at f5;have hb:beqBytes T []=false:=by cases hb:beqBytes T []<;>simp_all[beqBytes,plB,a1o,uM]
     have hm:memB T l=true:=by simp_all[plB]
     have ha:a4N l T=l:=by unfold a4N okN;rw[hb,hm,a1o,uM];rfl
     simp(disch:=try exact dz)only[f5,ga,t10,q2,↓gP,gY,gT];refine l9.done ⟨zu,hsame,λi hi=>?_,vs k,0,21,by rw[b3U],?_,λi k1=>Or.inl k1⟩;grind;rw[ha];exact H.mono zu hsame|false=>
     rw[hp]at f5;have ha:a4N l T=l++[T]:=by unfold plB at hp;unfold a4N okN;cases hb:beqBytes T []with|true=>rfl|false=>rw[hb,a0K,a4G]at hp;rw[hb]at hc;have hn:a1l T=true:=zm;rw[hp,hn];rfl
     have q5:=λr w=>st9 vs (λ_=>U5) (b:=c+1+1) (c:=c+1+1+1) (h:=V.upd h3 (c+1+1) (.cells [(.slice none 0 0,0),(.slice none 0 0,0),(.slice none 0 0,0),(.slice none 0 0,0),(.slice none 0 0,0),(.slice none 0 0,0),(.slice none 0 0,0),(.slice none 0 0,0),(.slice none 0 0,0)] 0 false)) zy (o7 _ _ _) r w;have tk:A7 0 (F8 (J7 (λv=>(v,0)) (sR vs vl)) k) 1=some [sv (vs k)]:=a1e t9 k _ (b1u vs hk);have tk0:(J7 (λv=>(v,0)) (sR vs vl))=(J7 (λv=>(v,0)) (sR vs vl)):=rfl;have hc2:c≠c+1+1:=zy;simp(disch:=try exact dz)only[f5,ga,t9,q5,tk,H2.len,a6u,↓gP,gY,gT];obtain⟨h4,eh4,g4,g4c,g4s⟩:∃h4,V.upd (V.upd h3 (c+1+1) (.cells [(.slice none 0 0,0),(.slice none 0 0,0),(.slice none 0 0,0),(.slice none 0 0,0),(.slice none 0 0,0),(.slice none 0 0,0),(.slice none 0 0,0),(.slice none 0 0,0),(.slice none 0 0,0)] 0 false)) (c+1+1) (cl (s9 vs))=h4/\h4.get (c+1+1)=some (cl (s9 vs))/\(∀i,i<c+1+1->h4.get i=h3.get i)/\∀i,i<c->h4.get i=h.get i:=⟨_,rfl,o7 _ _ _,λi hi=>(d9 zy).trans (d9 zy),λi hi=>((d9 zy).trans (d9 zy)).trans (gc i hi)⟩;rw[eh4];have no0:∀i,¬Sl.own ⟨none,0,0⟩ i:=λi hi=>by obtain⟨_,k,_⟩:=hi;cases k
     have H4:=H.mono (show c<=c+1+1+1 by omega) g4s;refine l9.bindS (a0M (u:=⟨none,0,0⟩) (x:=vs k) b4E zq b4t (R7.nil 1 _ _) H4.rows (c9E l) (by have:=H4.rows.1;rw[a5q]at this;grind) _ _) λy s hq=>?_;obtain⟨c5,h5,r5,w5⟩:=s;obtain⟨u1,rfl,n1,a1,a2,a3,a4,a5⟩:=hq;simp only at n1 a1 a2 a3 a4 a5;have a3:∀i,i<c+1+1+1->h5.get i=h4.get i:=λi hi=>a3 i hi (no0 i);have n1:u1.n=l.length:=by have:=H4.rows.1;rw[a5q]at this;omega
     simp(disch:=try exact dz)only[↓gP,gY,gT];refine l9.bindS (a0M (u:=u1) (x:=⟨some ⟨c5,0,some 0⟩,1,1⟩) (xs:=[.string ⟨⟨T⟩⟩]) b4E zq b4t (a1.mono (wZ _) λb hb _=>d9 zy) ⟨rfl,Or.inr ⟨c5,0,0,_,0,false,rfl,rfl,wu _,o7 _ _ _,rfl⟩⟩ rfl (by rw[n1];grind) _ _) λy s hq=>?_;obtain⟨c6,h6,r6,w6⟩:=s;obtain⟨u2,rfl,n2,b1,b2,b3,b4,b5⟩:=hq;simp only at b1 b2 b3 b4 b5;have own1:∀i,u1.own i->c+1+1+1<=i:=λi hi=>zu;have b3:∀i,i<c+1+1+1->h6.get i=h4.get i:=λi hi=>(b3 i zy λk=>by have:=own1 i k;omega).trans ((d9 zy).trans (a3 i hi));have g6:h6.get (c+1+1)=some (cl (s9 vs)):=(b3 _ zy).trans g4;have g6c:h6.get c=some (cl (sR vs vl)):=(b3 c zy).trans ((g4c c zy).trans ga);have g6d:h6.get (c+1)=some (cl (sR (λ_=>U5) U5)):=(b3 (c+1) zy).trans ((g4c (c+1) zy).trans gb);obtain⟨cs,z1,z2⟩:=e8j vs u2 hk (b:=c+1+1) (c:=c6) (h:=h6) zy g6;have z2:∀r w,go (a6o 1 (.pointer (some ⟨c+1+1,k,some 0⟩)) (.slice u2.a u2.n u2.e)) ⟨c6,h6,r,w⟩=some (undef,⟨c6,V.upd h6 (c+1+1) (.cells cs 0 false),(c+1+1)::r,(c+1+1)::w⟩):=z2;have hn1:c≠c+1+1:=zy;have hn2:c+1≠c+1+1:=zy;have q6:=λr w=>b7J vs vl (b:=c) (c:=c6) (h:=V.upd h6 (c+1+1) (.cells cs 0 false)) zy ((d9 hn1).trans g6c) r w;have q7:=λr w=>b2G (a2j vs k u2) (λ_=>U5) vl U5 (b:=c+1) (c:=c6) (h:=V.upd h6 (c+1+1) (.cells cs 0 false)) zy ((d9 hn2).trans g6d) r w;have hfill:a5l [(0,9),(9,1)] [.agg ⟨s9 (a2j vs k u2)⟩,sv vl] z10=some (sR (a2j vs k u2) vl):=rfl;unfold z10 at hfill;have t10b:A7 0 (J7 (λv=>(v,0)) (sR (a2j vs k u2) vl)) 10=some (sR (a2j vs k u2) vl):=rfl;simp(disch:=try exact dz)only[z1,z2,q6,q7,hfill,t10b,a6u,↓gP,gY,gT];have own2:∀i,u2.own i->c+1+1+1<=i:=λi hi=>zu;refine l9.done ⟨zu,λi hi=>(d9 (show i≠c+1 by omega)).trans ((d9 (show i≠c+1+1 by omega)).trans ((b3 i zy).trans (g4s i hi))),λi hi=>?_,u2,l.length,0,rfl,?_,λi k1=>Or.inr ⟨by have:=own2 i k1;omega,b1.own_lt k1⟩⟩;simp only[vG]at hi;rcases hi with k|k|k;omega;omega;rcases b5 i k with k|k|k;grind;have:=own1 i k;omega;omega;rw[ha];refine U8.grow ?_;have e:ls_ (l++[T])=ls_ l++[.string ⟨⟨T⟩⟩]:=ut;rw[e];exact b1.mono (xD _) λb hb ho=>by have:=own2 b ho;grind[d9]
theorem c6h {sh f N}{q:Cb->Nat->I5->Value->Value->Value->Value->Value->M CR}(h:sh.get f=some (ar5 (q a2y N)))(n a b c d e):o8 sh (n+1) f [a,b,c,d,e]=q o9 N (o8 sh n) a b c d e:=yl
theorem e8q {sh f N}{q:Cb->Nat->I5->Value->Value->Value->Value->Value->Value->M CR}(h:sh.get f=some (ar6 (q a2y N)))(n a b c d e g):o8 sh (n+1) f [a,b,c,d,e,g]=q o9 N (o8 sh n) a b c d e g:=yl
def Rv (m:M CR)(c:Nat)(h:Trie VObj)(v:Value):Prop:=∀r w,l9 (go m ⟨c,h,r,w⟩) λx s=>c<=s.c/\(∀i,i<c->s.h.get i=h.get i)/\x=.ret v
theorem Rv.bindC {β m c h v}{kn kp:Value->M β}{Q r w}(H:Rv m c h v)(k:∀c' h' r' w',c<=c'->(∀i,i<c->h'.get i=h.get i)->l9 (go (kn v) ⟨c',h',r',w'⟩) Q):l9 (Proofs.YtmomonnlmbljoaaGreatDoor.R9 (go m ⟨c,h,r,w⟩) kn kp) Q:=by refine l9.bindC (H r w) λx s hq=>?_;obtain⟨c',h',r',w'⟩:=s;obtain⟨h1,h2,rfl⟩:=hq;exact k c' h' r' w' h1 h2
theorem Rv.footC {β m c h v kp}{f:Value×a0A->M β}{Q r w}(H:Rv m c h v)(k:∀c' h' r' w' F,c<=c'->(∀i,i<c->h'.get i=h.get i)->l9 (go (f (v,F)) ⟨c',h',r',w'⟩) Q):l9 (U3 (V.b9y (Proofs.YtmomonnlmbljoaaGreatDoor.R9 (go m ⟨c,h,[],[]⟩) M.pure kp) r w) f) Q:=l9.footS (P:=λa s=>c<=s.c/\(∀i,i<c->s.h.get i=h.get i)/\a=v) (H.bindC λc' h' r' w' h1 h2=>l9.done ⟨h1,h2,rfl⟩) λa s hq=>by obtain⟨h1,h2,rfl⟩:=hq;exact k _ _ _ _ _ h1 h2
def RW (R:RV)(p e:Nat):List Value:=[.int .i64 (.ofNat R.op),.int .i64 (.ofNat R.A),.int .i64 (.ofNat R.B),.int .u64 (.ofNat R.N),.int .i64 (.ofNat R.k),.int .i64 (.ofNat R.v),.int .i64 (.ofNat R.bi),.slice R.ts.a R.ts.n R.ts.e,.slice R.ls.a R.ls.n R.ls.e,.string ⟨⟨R.nm⟩⟩,.int .i64 (.ofNat R.i),.int .i64 (.ofNat p),.int .i64 (.ofNat e)]
def cR (R:RV)(p e:Nat):VObj:=.cells (J7 (λv=>(v,0)) (RW R p e)) 0 false
def cS (vs:Nat->Sl)(vl:Sl):VObj:=.cells (J7 (λv=>(v,0)) (sR vs vl)) 0 false
section
variable (R:RV)(p e c b:Nat)(h:Trie VObj)(r w:List Nat)
theorem e6k:go (a7m (.agg ⟨RW R p e⟩)) ⟨c,h,r,w⟩=some (.pointer (some ⟨c,0,some 0⟩),⟨c+1,V.upd h c (cR R p e),r,c::w⟩):=a1n c h r w _ rfl
theorem e4u (vs vl):go (a7m (.agg ⟨sR vs vl⟩)) ⟨c,h,r,w⟩=some (.pointer (some ⟨c,0,some 0⟩),⟨c+1,V.upd h c (cS vs vl),r,c::w⟩):=a1n c h r w _ rfl
theorem e3p:go (b5j [(.int .i64 (.ofNat 0)),(.int .i64 (.ofNat 0)),(.int .i64 (.ofNat 0)),(.int .u64 (.ofNat 0)),(.int .i64 (.ofNat 0)),(.int .i64 (.ofNat 0)),(.int .i64 (.ofNat 0)),(.slice none 0 0),(.slice none 0 0),(.string ⟨⟨[]⟩⟩),(.int .i64 (.ofNat 0)),(.int .i64 (.ofNat 0)),(.int .i64 (.ofNat 0))]) ⟨c,h,r,w⟩=some (.pointer (some ⟨c,0,some 0⟩),⟨c+1,V.upd h c (cR (O0 0 0) 0 0),r,c::w⟩):=a5p c h r w _ rfl
theorem e8X:go (a6o 13 (.pointer (some ⟨b,0,some 0⟩)) (.agg ⟨RW R p e⟩)) ⟨c,h,r,w⟩=stS (Nat.blt b c) (h.get b) 0 0 (RW R p e) λcs cur ro=>some (undef,⟨c,V.upd h b (.cells cs cur ro),b::r,b::w⟩):=a2g c h r w 13 b 0 0 _ rfl
theorem f0K:a8R [(10,1)] [(.int .i64 (.ofNat 1))] [(.int .i64 (.ofNat 0)),(.int .i64 (.ofNat 0)),(.int .i64 (.ofNat 0)),(.int .u64 (.ofNat 0)),(.int .i64 (.ofNat 0)),(.int .i64 (.ofNat 0)),(.int .i64 (.ofNat 0)),(.slice none 0 0),(.slice none 0 0),(.string ⟨⟨[]⟩⟩),(.int .i64 (.ofNat 0)),(.int .i64 (.ofNat 0)),(.int .i64 (.ofNat 0))]=M.pure (.agg ⟨RW (O0 0 1) 0 0⟩):=rfl
theorem e9S (q f):a8R [(11,1),(12,1)] [(.int .i64 (.ofNat q)),(.int .i64 (.ofNat f))] [(.int .i64 (.ofNat 0)),(.int .i64 (.ofNat 0)),(.int .i64 (.ofNat 0)),(.int .u64 (.ofNat 0)),(.int .i64 (.ofNat 0)),(.int .i64 (.ofNat 0)),(.int .i64 (.ofNat 0)),(.slice none 0 0),(.slice none 0 0),(.string ⟨⟨[]⟩⟩),(.int .i64 (.ofNat 0)),(.int .i64 (.ofNat 0)),(.int .i64 (.ofNat 0))]=M.pure (.agg ⟨RW (O0 0 0) q f⟩):=rfl
section
variable {γ:Type}(k:List Value->Option γ)
theorem e5H:ldS true (some (cR R p e)) 0 0 13 k=k (RW R p e):=rfl
theorem e6t:ldS true (some (cR R p e)) 0 0 1 k=k [.int .i64 (.ofNat R.op)]:=rfl
theorem e4L:ldS true (some (cR R p e)) 9 0 1 k=k [.string ⟨⟨R.nm⟩⟩]:=rfl
theorem d9u:ldS true (some (cR R p e)) 10 0 1 k=k [.int .i64 (.ofNat R.i)]:=rfl
theorem d9Y:ldS true (some (cR R p e)) 11 0 1 k=k [.int .i64 (.ofNat p)]:=rfl
theorem e0Y:ldS true (some (cR R p e)) 12 0 1 k=k [.int .i64 (.ofNat e)]:=rfl
theorem e5p:ldS true (some (cR R p e)) 8 0 1 k=k [.slice R.ls.a R.ls.n R.ls.e]:=rfl
theorem e1c:ldS true (some (cR R p e)) 0 0 9 k=k (a0Y R):=rfl
theorem e3N (vs vl):ldS true (some (cS vs vl)) 0 0 10 k=k (sR vs vl):=rfl
theorem e3z (vs vl):ldS true (some (cS vs vl)) 9 0 1 k=k [sv vl]:=rfl
theorem e4V (vs vl):ldS true (some (cS vs vl)) 0 0 9 k=k (s9 vs):=rfl
end
theorem e5i (R0 p0 e0):stS true (some (cR R0 p0 e0)) 0 0 (RW R p e) (λcs cur ro=>some (undef,(⟨c,V.upd h b (.cells cs cur ro),r,w⟩:V.S)))=some (undef,⟨c,V.upd h b (cR R p e),r,w⟩):=rfl
theorem e6f (x):stS true (some (cR R p e)) 1 0 [.int .i64 (.ofNat x)] (λcs cur ro=>some (undef,(⟨c,V.upd h b (.cells cs cur ro),r,w⟩:V.S)))=some (undef,⟨c,V.upd h b (cR {R with A:=x} p e),r,w⟩):=rfl
theorem e2Q (x):stS true (some (cR R p e)) 2 0 [.int .i64 (.ofNat x)] (λcs cur ro=>some (undef,(⟨c,V.upd h b (.cells cs cur ro),r,w⟩:V.S)))=some (undef,⟨c,V.upd h b (cR {R with B:=x} p e),r,w⟩):=rfl
theorem e2T (x):stS true (some (cR R p e)) 3 0 [.int .u64 (.ofNat x)] (λcs cur ro=>some (undef,(⟨c,V.upd h b (.cells cs cur ro),r,w⟩:V.S)))=some (undef,⟨c,V.upd h b (cR {R with N:=x} p e),r,w⟩):=rfl
theorem e5Y (x y z):stS true (some (cR R p e)) 4 0 [.int .i64 (.ofNat x),.int .i64 (.ofNat y),.int .i64 (.ofNat z)] (λcs cur ro=>some (undef,(⟨c,V.upd h b (.cells cs cur ro),r,w⟩:V.S)))=some (undef,⟨c,V.upd h b (cR {R with k:=x,v:=y,bi:=z} p e),r,w⟩):=rfl
theorem e6x (a n q):stS true (some (cR R p e)) 7 0 [.slice a n q] (λcs cur ro=>some (undef,(⟨c,V.upd h b (.cells cs cur ro),r,w⟩:V.S)))=some (undef,⟨c,V.upd h b (cR {R with ts:=⟨a,n,q⟩} p e),r,w⟩):=rfl
theorem e2S (a n q):stS true (some (cR R p e)) 8 0 [.slice a n q] (λcs cur ro=>some (undef,(⟨c,V.upd h b (.cells cs cur ro),r,w⟩:V.S)))=some (undef,⟨c,V.upd h b (cR {R with ls:=⟨a,n,q⟩} p e),r,w⟩):=rfl
theorem e4I (x):stS true (some (cR R p e)) 9 0 [.string ⟨⟨x⟩⟩] (λcs cur ro=>some (undef,(⟨c,V.upd h b (.cells cs cur ro),r,w⟩:V.S)))=some (undef,⟨c,V.upd h b (cR {R with nm:=x} p e),r,w⟩):=rfl
theorem e0u (x):stS true (some (cR R p e)) 10 0 [.int .i64 (.ofNat x)] (λcs cur ro=>some (undef,(⟨c,V.upd h b (.cells cs cur ro),r,w⟩:V.S)))=some (undef,⟨c,V.upd h b (cR {R with i:=x} p e),r,w⟩):=rfl
theorem e0v (x):stS true (some (cR R p e)) 11 0 [.int .i64 (.ofNat x)] (λcs cur ro=>some (undef,(⟨c,V.upd h b (.cells cs cur ro),r,w⟩:V.S)))=some (undef,⟨c,V.upd h b (cR R x e),r,w⟩):=rfl
theorem e1n (x):stS true (some (cR R p e)) 12 0 [.int .i64 (.ofNat x)] (λcs cur ro=>some (undef,(⟨c,V.upd h b (.cells cs cur ro),r,w⟩:V.S)))=some (undef,⟨c,V.upd h b (cR R p x),r,w⟩):=rfl
end
abbrev gR:=om @e6k<|om @e4u<|om @e3p<|om @e8X<|om @f0K @e9S
abbrev gS:=om @e5H<|om @e6t<|om @e4L<|om @d9u<|om @d9Y<|om @e0Y<|om @e5p<|om @e1c<|om @e3N<|om @e3z<|om @e4V<|om @e5i<|om @e6f<|om @e2Q<|om @e2T<|om @e5Y<|om @e6x<|om @e2S<|om @e4I<|om @e0u<|om @e0v @e1n
def plR (T:List UInt8):List (List UInt8)->Option Nat|[]=>none|W::r=>bcase (beqBytes W T&& !(beqBytes T [])) (some r.length) (plR T r)
theorem d0b (T):∀(r) (n),plR T r=some n->n<r.length:=by intro r;induction r with|nil=>intro n h;cases h|cons W r ih=>intro n h;have h':bcase (beqBytes W T&& !(beqBytes T [])) (some r.length) (plR T r)=some n:=h;cases hb:(beqBytes W T&& !(beqBytes T []))with|true=>rw[hb]at h';cases h';exact wu _|false=>rw[hb]at h';exact sZ (ih n h')
theorem d5Q (T:List UInt8):∀r,Y9 (.string ⟨⟨T⟩⟩) (fsR r)=some (match plR T r with|some n=>some (.int .i64 (.ofNat n))|none=>none):=by
 intro r;induction r with
  |nil=>rfl|cons W r ih=>
   have ef:fsR (W::r)=bcase (beqBytes W []) (fsR r) (a1G (.string ⟨⟨W⟩⟩) (.int .i64 (.ofNat r.length)) (fsR r)):=rfl;have ep:plR T (W::r)=bcase (beqBytes W T&& !(beqBytes T [])) (some r.length) (plR T r):=rfl;rw[ef,ep];by_cases hW:W=[];subst hW;have:(beqBytes [] T&& !(beqBytes T []))=false:=by by_cases hT:T=[];subst hT;rw[a8o];rfl;rw[a2m (λk=>hT k.symm)];rfl
   rw[a8o,C9,this,F7];exact ih;rw[a2m hW,F7,b8G T W _ _ (c2s r)];by_cases hT:T=W;subst hT;rw[a8o,a2m hW];rfl;rw[a2m hT,a2m (λk=>hT k.symm)];exact ih
theorem d5U (l:List (List UInt8))(T:List UInt8):a0k (fsR l.reverse) T=bcase (a0X T [36]) (match plR T l.reverse with|some n=>(n,0)|none=>(0,24)) (a0T T):=by unfold a0k;rw[d5Q];cases plR T l.reverse<;>rfl
theorem c7c (T)(hT:beqBytes T []=false):∀(r) (i),a4e T r i=(plR T r).map λn=>i+(r.length-1-n):=by intro r;induction r with|nil=>intro i;rfl|cons W r ih=>intro i;have ef:a4e T (W::r) i=bcase (beqBytes W T) (some i) (a4e T r (i+1)):=rfl;have ep:plR T (W::r)=bcase (beqBytes W T&& !(beqBytes T [])) (some r.length) (plR T r):=rfl;rw[ef,ep,hT,ih];cases beqBytes W T with|true=>show some i=some (i+(r.length+1-1-r.length));congr 1;omega|false=>show(plR T r).map _=(plR T r).map _;cases h:plR T r with|none=>rfl|some n=>have:=d0b T r n h;refine wO some ?_;dsimp only;rw[wU];omega
theorem d7j (l:List (List UInt8))(T:List UInt8):L9 l T=bcase (a0X T [36]) (match plR T l.reverse with|some n=>(l.length-1-n,0)|none=>(0,24)) (a0T T):=by
 unfold L9;cases hp:a0X T [36]with
  |false=>rfl|true=>
   have hT:beqBytes T []=false:=by refine a2m λk=>?_;subst k;cases hp
   rw[c7c T hT];cases plR T l.reverse with|none=>rfl|some n=>show((0+(l.reverse.length-1-n),0):Nat×Nat)=_;rw[vo,a5f];rfl
def plZ (T:List UInt8)(l:List (List UInt8)):Int:=match plR T l.reverse with|some n=>.ofNat n|none=>.negSucc 0
theorem l83 {c h v l}(H:U8 c h v l)(hl:l.length<4294967296)(T N0 call):∀(m e) (xs) (r w),m<=l.length->C8 xs 16=.int .i64 (N8 .i64 (.ofNat m- .ofNat 1))->l9 (go (Q5 (c8e o9 N0 call v (.string ⟨⟨T⟩⟩)) (m+1+e) xs) ⟨c,h,r,w⟩) λy s=>s.c=c/\s.h=h/\∃xs',(y=(.exit 0,xs')/\plR T (l.take m).reverse=none)\/(y=(.ret,xs')/\∃i,plR T (l.take m).reverse=some i/\C8 xs' 13=.int .i64 (.ofNat i)):=by
 intro m;induction m with
  |zero=>intro e xs r w hm h1;rw[wX 0 1 e,O8];have e1:N8 .i64 (Int.ofNat 0-Int.ofNat 1)=.negSucc 0:=rfl;have e0:decide (Int.ofNat 0<=Int.negSucc 0)=false:=rfl;rw[e1]at h1;simp(disch:=try exact dz)only[b8g,h1,e0,↓gP,gY];exact l9.done ⟨rfl,rfl,_,Or.inl ⟨rfl,rfl⟩⟩|succ m ih=>
   intro e xs r w hm h1;rw[wX (m+1) 1 e,O8];rw[a1u m zy]at h1;obtain⟨z,hz⟩:∃z,l[m]?=some z:=⟨_,wz zy⟩;obtain⟨b,p,g,cs,cur,ro,q1,q2,q3,q4⟩:=H.read hz;have e0:decide (Int.ofNat 0<=Int.ofNat m)=true:=ww (sD.2 (vY m));have ht:(l.take (m+1)).reverse=z::(l.take m).reverse:=by rw[qM,hz,List.reverse_append];rfl
   have hlen:(l.take m).reverse.length=m:=by rw[vo,tQ];omega
   have hp:plR T (l.take (m+1)).reverse=bcase (beqBytes z T&& !(beqBytes T [])) (some m) (plR T (l.take m).reverse):=by rw[ht];show bcase _ (some (l.take m).reverse.length) _=_;rw[hlen]
   rw[hp];cases hb:(beqBytes z T&& !(beqBytes T []))with|true=>simp(disch:=try exact dz)only[b8g,h1,e0,q1,q3,q4,hb,↓gP,gY];exact l9.done ⟨rfl,rfl,_,Or.inr ⟨rfl,m,rfl,rfl⟩⟩|false=>simp(disch:=try exact dz)only[b8g,h1,e0,q1,q3,q4,hb,↓gP,gY];exact ih e _ _ _ zy rfl
theorem d8T (n a b):o8 A9 (n+1) 83 [a,b]=b3e o9 NN (o8 A9 n) a b:=a0Z (q:=b3e) (N:=NN) zw n a b
theorem u83 {c h v l}(H:U8 c h v l)(hl:l.length<1000)(T m):Rv (o8 A9 (m+1) 83 [v,.string ⟨⟨T⟩⟩]) c h (.int .i64 (plZ T l)):=by intro r w;rw[d8T];have hlen:=H.len;obtain⟨e,hNe⟩:∃e,NN=l.length+1+e:=⟨NN-(l.length+1),zL⟩;have lp:=λxs r w h1=>l83 H zy T NN (o8 A9 m) l.length e xs r w (xD _) h1;rw[<-hNe,qA]at lp;simp(disch:=try exact dz)only[G83,hlen,↓gP,gY];unfold plZ;refine l9.bindJ (lp _ _ _ rfl) λy xs' s hq=>?_;obtain⟨c1,h1,r1,w1⟩:=s;obtain⟨f1,f2,xs1,⟨f4,f5⟩|⟨f4,i,f5,f6⟩⟩:=hq;cases f4;simp only at f1 f2;subst f1 f2;rw[f5];simp(disch:=try exact dz)only[J4,↓gP,gY];exact l9.done ⟨xD _,λ_ _=>rfl,rfl⟩;cases f4;simp only at f1 f2;subst f1 f2;rw[f5];simp(disch:=try exact dz)only[f6,↓gP,gY];exact l9.done ⟨xD _,λ_ _=>rfl,rfl⟩
abbrev b7P:=λp0 p1 p2 p3 s=>P6 (e3f p0 p1 p2 p3) s
abbrev b2c:=λp0 p1 p2 p3 p4 p5 s=>P6 (c3B p0 p1 p2 p3 p4 p5) s
abbrev G82:=λp0 p1 p2 p3 p4 s=>P6 (e7K p0 p1 p2 p3 p4) s
abbrev c5M:=om (λp0 p1 p2 p3 p4 s=>P6 (e5V p0 p1 p2 p3 p4) s)<| @D9
theorem d8x (n a):o8 A9 (n+1) 119 [a]=c0N o9 NN (o8 A9 n) a:=a1j (q:=c0N) (N:=NN) zw n a
theorem e6u (n a b):o8 A9 (n+1) 82 [a,b]=c7Y o9 NN (o8 A9 n) a b:=a0Z (q:=c7Y) (N:=NN) zw n a b
theorem e2B (n a b):o8 A9 (n+1) 210 [a,b]=c0x o9 NN (o8 A9 n) a b:=a0Z (q:=c0x) (N:=NN) zw n a b
theorem d1S {n B d}(hB:B=10\/B=16)(hd:d<B):decide (Int.ofNat ((18446744073709551615-d)/B)<Int.ofNat n)=decide (18446744073709551616<=n*B+d):=by rw[X6];refine sN.2 ?_;rcases hB with rfl|rfl<;>omega
theorem d6j {d}(hd:d<16):N8 .u64 (Int.ofNat 18446744073709551615-Int.ofNat d)=Int.ofNat (18446744073709551615-d):=by have e:Int.ofNat 18446744073709551615-Int.ofNat d=Int.ofNat (18446744073709551615-d):=yT;rw[e];exact w64 _ zy
theorem c3H (n):N8 .u64 (Int.ofNat n)=Int.ofNat (n%18446744073709551616):=by rw[a5Z,IntKind.wrap_u64];simp only[uL];omega
theorem d6B (p T t x y n m):a0J p T .mul t x y (.int .u64 (.ofNat n)) (.int .u64 (.ofNat m))=M.pure (.int .u64 (.ofNat ((n*m)%18446744073709551616))):=by have e:a0J p T .mul t x y (.int .u64 (.ofNat n)) (.int .u64 (.ofNat m))=M.pure (.int .u64 (N8 .u64 (.ofNat n* .ofNat m))):=a4W p T (a5b zq zq _ _ _) rfl;have e2:Int.ofNat n*Int.ofNat m=Int.ofNat (n*m):=rfl;rw[e,e2,c3H]
theorem d6E (n d):N8 .u64 (Int.ofNat (n%18446744073709551616)+Int.ofNat d)=Int.ofNat ((n+d)%18446744073709551616):=by have e:Int.ofNat (n%18446744073709551616)+Int.ofNat d=Int.ofNat (n%18446744073709551616+d):=rfl;rw[e,c3H];congr 1;omega
theorem f0j {c h}(N0 call)(hdg:∀b:UInt8,call 164 [.int .u8 (.ofNat b.toNat)]=M.pure (.ret (.int .i64 (dgI b.toNat))))(T)(hT:T.length<2000000)(B)(hB:B=10\/B=16)(vs1)(hv:C8 vs1 13=.int .i64 (.ofNat B)):∀(l) (i k n) (ov bt) (xs) (r w),T.drop i=l->l.length<k->n<18446744073709551616->C8 xs 49=.int .i64 (.ofNat i)->C8 xs 45=.int .u64 (.ofNat n)->C8 xs 37=.bool ov->C8 xs 46=.bool bt->l9 (go (Q5 (b8i o9 N0 call (.string ⟨⟨T⟩⟩) vs1) k xs) ⟨c,h,r,w⟩) λx s=>s.c=c/\s.h=h/\∃xs',(∃q,dig B l n ov bt=some q/\x=(.exit 0,xs')/\C8 xs' 45=.int .u64 (.ofNat q.1)/\C8 xs' 37=.bool q.2.1/\C8 xs' 46=.bool q.2.2)\/(dig B l n ov bt=none/\x=(.ret,xs')/\C8 xs' 23=.int .u64 (.ofNat 0)/\C8 xs' 24=.bool false/\C8 xs' 25=.bool false):=by
 have hlenS:a3S (.string ⟨⟨T⟩⟩)=V.M.pure (.int .i64 (.ofNat T.length)):=a1k _;intro l;induction l with
  |nil=>
   intro i k n ov bt xs r w hd hN hn e1 e2 e3 e4;obtain⟨k,rfl⟩:∃m,k=m+1:=⟨k-1,zy⟩;have hi:¬i<T.length:=by have:=wO List.length hd;rw[vz]at this;simp at this;omega
   have h1:=b1y i T.length hi;rw[O8];simp(disch:=try exact dz)only[b2c,hlenS,e1,h1,↓gP,gY,gT];exact l9.done ⟨rfl,rfl,_,Or.inl ⟨_,rfl,rfl,e2,e3,e4⟩⟩|cons b l ih=>
   intro i k n ov bt xs r w hd hN hn e1 e2 e3 e4;obtain⟨k,rfl⟩:∃m,k=m+1:=⟨k-1,zy⟩;obtain⟨hb,hd',hi⟩:=b4n hd;have h1:=b4l i T.length hi;have hbT:(⟨⟨T⟩⟩:ByteArray).data.toList[i]?=some b:=hb;have h2:=a0l ⟨⟨T⟩⟩ i b hbT;have hs:=b5Z i zy;have hlen:l.length<k:=by simp at hN;omega
   have e95:=deq b.toNat 95;have hg:=hdg b;rw[O8];cases hc:decide (b.toNat=95)&&bt with
    |true=>
     rw[wh]at hc;obtain⟨hc1,rfl⟩:=hc;have hdig:dig B (b::l) n ov true=dig B l n ov false:=by show bcase (decide (b.toNat=95)&&true) _ _=_;rw[hc1];rfl
     rw[hdig];simp(disch:=try exact dz)only[b2c,hlenS,e1,e2,e3,e4,h1,h2,hs,e95,hc1,hg,↓gP,gY,gT];exact ih (i+1) k n ov false _ _ _ hd' hlen hn rfl rfl rfl rfl|false=>
     have hdig:dig B (b::l) n ov bt=(match dgN b.toNat with|some d=>bcase (decide (d<B)) (dig B l ((n*B+d)%18446744073709551616) (ov||decide (18446744073709551616<=n*B+d)) true) none|none=>none):=by show bcase (decide (b.toNat=95)&&bt) _ _=_;rw[hc];rfl
     have hpick:a3R (.bool (decide (b.toNat=95))) (bcase (decide (b.toNat=95)) (.bool bt) undef) (.bool false)=M.pure (.bool false):=by rw[a7o,hc]
     rw[hdig];cases hd2:dgN b.toNat with
      |none=>
       have hI:dgI b.toNat=.negSucc 0:=by unfold dgI;rw[hd2]
       have hneg:decide (Int.negSucc 0<Int.ofNat 0)=true:=rfl;rw[hI]at hg;cases h95:decide (b.toNat=95)with|true=>rw[h95,a7i]at hc;subst hc;simp(disch:=try exact dz)only[b2c,hlenS,e1,e2,e3,e4,hv,h1,h2,hs,e95,h95,hg,hneg,↓gP,gY,gT];exact l9.done ⟨rfl,rfl,_,Or.inr ⟨by trivial,rfl,rfl,rfl,rfl⟩⟩|false=>simp(disch:=try exact dz)only[b2c,hlenS,e1,e2,e3,e4,hv,h1,h2,hs,e95,h95,hg,hneg,↓gP,gY,gT];exact l9.done ⟨rfl,rfl,_,Or.inr ⟨by trivial,rfl,rfl,rfl,rfl⟩⟩
      |some d=>
       have hI:dgI b.toNat=.ofNat d:=by unfold dgI;rw[hd2]
       have hneg:decide (Int.ofNat d<Int.ofNat 0)=false:=wy zn;have hd16:=c8D hd2;have h95:decide (b.toNat=95)=false:=by refine wy λk=>?_;rw[k]at hd2;cases hd2
       rw[hI]at hg;have hge:decide (Int.ofNat B<=Int.ofNat d)=!(decide (d<B)):=by rw[dle];by_cases q:d<B;rw[ww q,wy zy];rfl;rw[wy q,ww zy];rfl
       cases hdB:decide (d<B)with
        |false=>rw[hdB]at hge;simp(disch:=try exact dz)only[b2c,hlenS,e1,e2,e3,e4,hv,h1,h2,hs,e95,h95,hg,hneg,hge,hdB,F7,↓gP,gY,gT];exact l9.done ⟨rfl,rfl,_,Or.inr ⟨by trivial,rfl,rfl,rfl,rfl⟩⟩|true=>
         rw[hdB]at hge;have hlt:d<B:=wP hdB;have hov:=d1S (n:=n) hB hlt;have hsub:=d6j hd16;have hw:=w64 d zy;have hwB:=w64 B zy;obtain⟨B',hB'⟩:∃m,B=m+1:=⟨B-1,zy⟩;have hq:∀t x y,a0J Tryz.prog tab .quo t x y (.int .u64 (.ofNat (18446744073709551615-d))) (.int .u64 (.ofNat B))=M.pure (.int .u64 (.ofNat ((18446744073709551615-d)/B))):=λt x y=>by rw[hB'];exact b1N _ _ t x y .u64 _ _ (by show _<18446744073709551616;omega)
         have hm:=λt x y=>d6B Tryz.prog tab t x y n B;have ha:=d6E (n*B) d;cases ov with|true=>simp(disch:=try exact dz)only[b2c,hlenS,e1,e2,e3,e4,hv,h1,h2,hs,e95,h95,hg,hneg,hge,hw,hwB,hm,ha,hdB,C9,vP,↓gP,gY,gT];exact ih (i+1) k _ _ true _ _ _ hd' hlen (qJ _ zq) rfl rfl rfl rfl|false=>simp(disch:=try exact dz)only[b2c,hlenS,e1,e2,e3,e4,hv,h1,h2,hs,e95,h95,hg,hneg,hge,hov,hsub,hw,hwB,hq,hm,ha,hdB,C9,wF,↓gP,gY,gT];exact ih (i+1) k _ _ true _ _ _ hd' hlen (qJ _ zq) rfl rfl rfl rfl
theorem d7R {a b d l}:b5x (a::b::d::l)=(decide (a.toNat=48)&&decide (b.toNat=120)):=by
 have e1:decide (Int.ofNat 2<Int.ofNat (a::b::d::l).length)=true:=by rw[X6];exact ww zn
 have e2:a2i (a::b::d::l) 2=[a,b]:=rfl;unfold b5x;rw[e1,e2,a7i,V.a2N];have ha:a.toNat=48↔a=48:=⟨λk=>tL.1 k,λk=>by rw[k];rfl⟩;have hb:b.toNat=120↔b=120:=⟨λk=>tL.1 k,λk=>by rw[k];rfl⟩;rw[tJ,wh,uz,uz,rJ,ha,hb];simp
theorem d6C (T:List UInt8):a0y T=(match bcase (b5x T) (dig 16 (T.drop 2) 0 false false) (dig 10 T 0 false false)with|some q=>q|none=>(0,false,false)):=by unfold a0y;rw[a0O];cases bcase (b5x T) (dig 16 (T.drop 2) 0 false false) (dig 10 T 0 false false)<;>rfl
theorem t119 {c h}(T)(hT:T.length<1800000)(m r w):l9 (go (o8 A9 (m+2) 119 [.string ⟨⟨T⟩⟩]) ⟨c,h,r,w⟩) λx s=>s.c=c/\s.h=h/\x=.ret (a3O T):=by
 have hlenS:∀T:List UInt8,a3S (.string ⟨⟨T⟩⟩)=V.M.pure (.int .i64 (.ofNat T.length)):=λT=>a1k _;have hdg:∀b:UInt8,o8 A9 (m+1) 164 [.int .u8 (.ofNat b.toNat)]=M.pure (.ret (.int .i64 (dgI b.toNat))):=λb=>a6G (q:=a3n qDg) zw m (b2p qDg b);rw[d8x];have fin:∀(B i:Nat) (hB:B=10\/B=16) (hm:a0y T=(match dig B (T.drop i) 0 false false with|some q=>q|none=>(0,false,false))) (vs1 xs:List Value) (r w:List Nat),C8 vs1 13=.int .i64 (.ofNat B)->C8 xs 49=.int .i64 (.ofNat i)->C8 xs 45=.int .u64 (.ofNat 0)->C8 xs 37=.bool false->C8 xs 46=.bool false->∀(K:Xc->List Value->M CR) (hk0:∀(xs':List Value) (s:V.S) (q:Nat×Bool×Bool),C8 xs' 45=.int .u64 (.ofNat q.1)->C8 xs' 37=.bool q.2.1->C8 xs' 46=.bool q.2.2->go (K (.exit 0) xs') s=some (.ret (.tuple ⟨[.int .u64 (.ofNat q.1),.bool q.2.1,.bool q.2.2]⟩),s)) (hk1:∀(xs':List Value) (s:V.S),C8 xs' 23=.int .u64 (.ofNat 0)->C8 xs' 24=.bool false->C8 xs' 25=.bool false->go (K .ret xs') s=some (.ret (.tuple ⟨[.int .u64 (.ofNat 0),.bool false,.bool false]⟩),s)),l9 (a4Y (go (Q5 (b8i o9 NN (o8 A9 (m+1)) (.string ⟨⟨T⟩⟩) vs1) NN xs) ⟨c,h,r,w⟩) K) λx s=>s.c=c/\s.h=h/\x=.ret (a3O T):=by intro B i hB hm vs1 xs r w hv e1 e2 e3 e4 K hk0 hk1;refine l9.bindJ (f0j NN _ hdg T zy B hB vs1 hv _ i NN 0 false false xs r w rfl (by rw[vz];show _<2000000;omega) zq e1 e2 e3 e4) λy l' s hq=>?_;obtain⟨f1,f2,xs',⟨q,g1,g2,g3,g4,g5⟩|⟨g1,g2,g3,g4,g5⟩⟩:=hq;cases g2;rw[hk0 l' s q g3 g4 g5];refine l9.done ⟨f1,f2,?_⟩;unfold a3O;rw[hm,g1];cases g2;rw[hk1 l' s g3 g4 g5];refine l9.done ⟨f1,f2,?_⟩;unfold a3O;rw[hm,g1]
 have hm:=d6C T;match T,hT,hm,fin with|[],hT,hm,fin=>have d0:decide (2<([]:List UInt8).length)=false:=rfl;simp(disch:=try exact dz)only[b7P,hlenS,X6,d0,↓gP,gY,gT];refine fin 10 0 (Or.inl rfl) (hm.trans rfl) _ _ _ _ rfl rfl rfl rfl rfl _ (λxs' s q e1 e2 e3=>?_) (λxs' s e1 e2 e3=>?_)<;>simp(disch:=try exact dz)only[e1,e2,e3,J4,↓gP,gY,gT]|[a],hT,hm,fin=>have d0:decide (2<[a].length)=false:=rfl;simp(disch:=try exact dz)only[b7P,hlenS,X6,d0,↓gP,gY,gT];refine fin 10 0 (Or.inl rfl) (hm.trans rfl) _ _ _ _ rfl rfl rfl rfl rfl _ (λxs' s q e1 e2 e3=>?_) (λxs' s e1 e2 e3=>?_)<;>simp(disch:=try exact dz)only[e1,e2,e3,J4,↓gP,gY,gT]|[a,b],hT,hm,fin=>have d0:decide (2<[a,b].length)=false:=rfl;simp(disch:=try exact dz)only[b7P,hlenS,X6,d0,↓gP,gY,gT];refine fin 10 0 (Or.inl rfl) (hm.trans rfl) _ _ _ _ rfl rfl rfl rfl rfl _ (λxs' s q e1 e2 e3=>?_) (λxs' s e1 e2 e3=>?_)<;>simp(disch:=try exact dz)only[e1,e2,e3,J4,↓gP,gY,gT]|a::b::d::l,hT,hm,fin=>have d0:decide (2<(a::b::d::l).length)=true:=ww zn;have i0:=a0l ⟨⟨a::b::d::l⟩⟩ 0 a rfl;have i1:=a0l ⟨⟨a::b::d::l⟩⟩ 1 b rfl;rw[d7R]at hm;have q1':=deq a.toNat 48;have q2':=deq b.toNat 120;cases q1:decide (a.toNat=48)with|false=>rw[q1]at hm;simp(disch:=try exact dz)only[b7P,hlenS,X6,d0,i0,q1',q1,↓gP,gY,gT];refine fin 10 0 (Or.inl rfl) (hm.trans rfl) _ _ _ _ rfl rfl rfl rfl rfl _ (λxs' s q e1 e2 e3=>?_) (λxs' s e1 e2 e3=>?_)<;>simp(disch:=try exact dz)only[e1,e2,e3,J4,↓gP,gY,gT]|true=>cases q2:decide (b.toNat=120)with|false=>rw[q1,q2]at hm;simp(disch:=try exact dz)only[b7P,hlenS,X6,d0,i0,i1,q1',q1,q2',q2,↓gP,gY,gT];refine fin 10 0 (Or.inl rfl) (hm.trans rfl) _ _ _ _ rfl rfl rfl rfl rfl _ (λxs' s q e1 e2 e3=>?_) (λxs' s e1 e2 e3=>?_)<;>simp(disch:=try exact dz)only[e1,e2,e3,J4,↓gP,gY,gT]|true=>rw[q1,q2]at hm;simp(disch:=try exact dz)only[b7P,hlenS,X6,d0,i0,i1,q1',q1,q2',q2,↓gP,gY,gT];refine fin 16 2 (Or.inr rfl) (hm.trans rfl) _ _ _ _ rfl rfl rfl rfl rfl _ (λxs' s q e1 e2 e3=>?_) (λxs' s e1 e2 e3=>?_)<;>simp(disch:=try exact dz)only[e1,e2,e3,J4,↓gP,gY,gT]
theorem t82 {c h}(T)(hT:T.length<1800000)(m r w):l9 (go (o8 A9 (m+3) 82 [.string ⟨⟨T⟩⟩,.int .i64 (.ofNat 4294967295)]) ⟨c,h,r,w⟩) λx s=>s.c=c/\s.h=h/\x=.ret (a3Y T):=by
 have hlt:=a8j T;rw[e6u];simp(disch:=try exact dz)only[G82,↓gP,gY,gT];refine l9.bindC (t119 T hT m r w) λx s hq=>?_;obtain⟨c1,h1,r1,w1⟩:=s;obtain⟨f1,f2,rfl⟩:=hq;simp only at f1 f2;subst f1 f2;unfold a3Y a0T a3O;generalize a0y T=q at*;obtain⟨n,o,k⟩:=q;have e1:decide (Int.ofNat 4294967295<Int.ofNat 0)=false:=rfl;have e2:N8 .u64 (Int.ofNat 4294967295)=Int.ofNat 4294967295:=rfl;cases k with
  |false=>simp(disch:=try exact dz)only[F7,↓gP,gY,gT];exact l9.done ⟨rfl,rfl,rfl⟩|true=>
   cases o with
    |true=>simp(disch:=try exact dz)only[C9,↓gP,gY,gT];exact l9.done ⟨rfl,rfl,rfl⟩|false=>
     cases h:decide (4294967295<n)with
      |true=>simp(disch:=try exact dz)only[e1,e2,X6,h,C9,↓gP,gY,gT];exact l9.done ⟨rfl,rfl,rfl⟩|false=>
       have hn:n<=4294967295:=by simp only[uq]at h;omega
       have e3:N8 .i64 (Int.ofNat n)=Int.ofNat n:=b0U n zy;simp(disch:=try exact dz)only[e1,e2,e3,X6,h,C9,F7,↓gP,gY,gT];exact l9.done ⟨rfl,rfl,rfl⟩
section
variable {c:Nat}{h:Trie VObj}
theorem d1b {bits b1 half h1 gr}(f1:decide (Int.ofNat bits<Int.ofNat 1)=false)(f2:decide (Int.ofNat 64<Int.ofNat bits)=false)(g1:N8 .i64 (Int.ofNat bits-Int.ofNat 1)=Int.ofNat b1)(g2:∀t x y,a0J Tryz.prog tab .shl t x y (.int .u64 (.ofNat 1)) (.int .i64 (.ofNat b1))=M.pure (.int .u64 (.ofNat half)))(g3:N8 .u64 (Int.ofNat half-Int.ofNat 1)=Int.ofNat h1)(g4:N8 .u64 (Int.ofNat h1+Int.ofNat half)=Int.ofNat gr)(g5:gr/2+1=half)(g6:half<=gr)(g7:gr<18446744073709551616)(T)(hT:T.length<1800000)(m)(r w):l9 (go (o8 A9 (m+3) 210 [.string ⟨⟨T⟩⟩,.int .i64 (.ofNat bits)]) ⟨c,h,r,w⟩) λx s=>s.c=c/\s.h=h/\x=.ret (a5L T gr):=by
 have hlt:=a8j (a1P T);have hlenS:∀T:List UInt8,a3S (.string ⟨⟨T⟩⟩)=V.M.pure (.int .i64 (.ofNat T.length)):=λT=>a1k _;rw[e2B];unfold a5L a0h;cases T with
  |nil=>have u1:a1P []=[]:=rfl;have u2:a8g []=false:=rfl;have u4:decide (0<([]:List UInt8).length)=false:=rfl;rw[u1]at hlt⊢;rw[u2];simp(disch:=try exact dz)only[c5M,hlenS,dL,u4,f1,f2,↓gP,gY,gT];refine l9.bindC (t119 [] hT m _ _) λx s hq=>?_;obtain⟨c1,h1',r1,w1⟩:=s;obtain⟨k1,k2,rfl⟩:=hq;simp only at k1 k2;subst k1 k2;unfold a3O;generalize a0y []=q at*;obtain⟨n,o,k⟩:=q;cases k with|false=>simp(disch:=try exact dz)only[@D9,g1,g2,g3,g4,F7,↓gP,gY,gT];exact l9.done ⟨rfl,rfl,rfl⟩|true=>cases o with|true=>simp(disch:=try exact dz)only[@D9,g1,g2,g3,g4,C9,↓gP,gY,gT];exact l9.done ⟨rfl,rfl,rfl⟩|false=>cases hh:decide (gr<n)with|true=>simp(disch:=try exact dz)only[@D9,g1,g2,g3,g4,X6,hh,C9,F7,↓gP,gY,gT];exact l9.done ⟨rfl,rfl,rfl⟩|false=>simp(disch:=try exact dz)only[@D9,g1,g2,g3,g4,X6,hh,C9,F7,↓gP,gY,gT];exact l9.done ⟨rfl,rfl,rfl⟩
  |cons b l=>
   have i0:=a0l ⟨⟨b::l⟩⟩ 0 b rfl;have u4:decide (0<(b::l).length)=true:=ww zn;have u5:F8 (b::l) 1=l:=by rw[a4L,Y7]
   have usl:=a0m (b::l) .i64 1 zn;rw[u5]at usl;have hTl:l.length<1800000:=by simp at hT;omega
   have e45:=deq b.toNat 45;have e43:=deq b.toNat 43;cases h45:decide (b.toNat=45)with
    |true=>
     have u1:a1P (b::l)=l:=yN;have u2:a8g (b::l)=true:=h45;rw[u1]at hlt⊢;rw[u2];simp(disch:=try exact dz)only[c5M,hlenS,dL,u4,i0,usl,e45,h45,f1,f2,↓gP,gY,gT];refine l9.bindC (t119 l hTl m _ _) λx s hq=>?_;obtain⟨c1,h1',r1,w1⟩:=s;obtain⟨k1,k2,rfl⟩:=hq;simp only at k1 k2;subst k1 k2;unfold a3O;generalize a0y l=q at*;obtain⟨n,o,k⟩:=q;simp only at hlt;have hng:=c3i n;have xn:=b3y Tryz.prog n hlt;have xa:=λt x y=>b0O Tryz.prog tab t x y (b4a n) gr hng g7;cases k with
      |false=>simp(disch:=try exact dz)only[@D9,g1,g2,g3,g4,F7,↓gP,gY,gT];exact l9.done ⟨rfl,rfl,rfl⟩|true=>
       cases o with
        |true=>simp(disch:=try exact dz)only[@D9,g1,g2,g3,g4,C9,↓gP,gY,gT];exact l9.done ⟨rfl,rfl,rfl⟩|false=>
         rw[g5];cases hh:decide (half<n)with
          |true=>simp(disch:=try exact dz)only[@D9,g1,g2,g3,g4,X6,hh,C9,F7,↓gP,gY,gT];exact l9.done ⟨rfl,rfl,rfl⟩|false=>
           have hg:decide (gr<n)=false:=by simp only[uq]at hh⊢;omega
           simp(disch:=try exact dz)only[@D9,g1,g2,g3,g4,X6,hh,hg,xn,xa,C9,F7,↓gP,gY,gT];exact l9.done ⟨rfl,rfl,rfl⟩
    |false=>
     have u2:a8g (b::l)=false:=h45;cases h43:decide (b.toNat=43)with
      |true=>have u1:a1P (b::l)=l:=yS;rw[u1]at hlt⊢;rw[u2];simp(disch:=try exact dz)only[c5M,hlenS,dL,u4,i0,usl,e45,h45,e43,h43,f1,f2,↓gP,gY,gT];refine l9.bindC (t119 l hTl m _ _) λx s hq=>?_;obtain⟨c1,h1',r1,w1⟩:=s;obtain⟨k1,k2,rfl⟩:=hq;simp only at k1 k2;subst k1 k2;unfold a3O;generalize a0y l=q at*;obtain⟨n,o,k⟩:=q;cases k with|false=>simp(disch:=try exact dz)only[@D9,g1,g2,g3,g4,F7,↓gP,gY,gT];exact l9.done ⟨rfl,rfl,rfl⟩|true=>cases o with|true=>simp(disch:=try exact dz)only[@D9,g1,g2,g3,g4,C9,↓gP,gY,gT];exact l9.done ⟨rfl,rfl,rfl⟩|false=>cases hh:decide (gr<n)with|true=>simp(disch:=try exact dz)only[@D9,g1,g2,g3,g4,X6,hh,C9,F7,↓gP,gY,gT];exact l9.done ⟨rfl,rfl,rfl⟩|false=>simp(disch:=try exact dz)only[@D9,g1,g2,g3,g4,X6,hh,C9,F7,↓gP,gY,gT];exact l9.done ⟨rfl,rfl,rfl⟩
      |false=>have u1:a1P (b::l)=b::l:=yR;rw[u1]at hlt⊢;rw[u2];simp(disch:=try exact dz)only[c5M,hlenS,dL,u4,i0,e45,h45,e43,h43,f1,f2,↓gP,gY,gT];refine l9.bindC (t119 (b::l) hT m _ _) λx s hq=>?_;obtain⟨c1,h1',r1,w1⟩:=s;obtain⟨k1,k2,rfl⟩:=hq;simp only at k1 k2;subst k1 k2;unfold a3O;generalize a0y (b::l)=q at*;obtain⟨n,o,k⟩:=q;cases k with|false=>simp(disch:=try exact dz)only[@D9,g1,g2,g3,g4,F7,↓gP,gY,gT];exact l9.done ⟨rfl,rfl,rfl⟩|true=>cases o with|true=>simp(disch:=try exact dz)only[@D9,g1,g2,g3,g4,C9,↓gP,gY,gT];exact l9.done ⟨rfl,rfl,rfl⟩|false=>cases hh:decide (gr<n)with|true=>simp(disch:=try exact dz)only[@D9,g1,g2,g3,g4,X6,hh,C9,F7,↓gP,gY,gT];exact l9.done ⟨rfl,rfl,rfl⟩|false=>simp(disch:=try exact dz)only[@D9,g1,g2,g3,g4,X6,hh,C9,F7,↓gP,gY,gT];exact l9.done ⟨rfl,rfl,rfl⟩
theorem d6N (T)(hT:T.length<1800000)(m):Rv (o8 A9 (m+3) 210 [.string ⟨⟨T⟩⟩,.int .i64 (.ofNat 32)]) c h (a5L T 4294967295):=λr w=>(d1b (bits:=32) (b1:=31) (half:=2147483648) (h1:=2147483647) (gr:=4294967295) rfl rfl rfl (λt x y=>(a8A _ _ t x y .u64 .i64 1 31 zq).trans rfl) rfl rfl rfl zq zq T hT m r w).mono λx s hq=>⟨by rw[hq.1];exact xD _,λi _=>by rw[hq.2.1],hq.2.2⟩
theorem c5a (T)(hT:T.length<1800000)(m):Rv (o8 A9 (m+3) 210 [.string ⟨⟨T⟩⟩,.int .i64 (.ofNat 64)]) c h (a5L T 18446744073709551615):=λr w=>(d1b (bits:=64) (b1:=63) (half:=9223372036854775808) (h1:=9223372036854775807) (gr:=18446744073709551615) rfl rfl rfl (λt x y=>(a8A _ _ t x y .u64 .i64 1 63 zq).trans rfl) rfl rfl rfl zq zq T hT m r w).mono λx s hq=>⟨by rw[hq.1];exact xD _,λi _=>by rw[hq.2.1],hq.2.2⟩
theorem u82 (T)(hT:T.length<1800000)(m):Rv (o8 A9 (m+3) 82 [.string ⟨⟨T⟩⟩,.int .i64 (.ofNat 4294967295)]) c h (a3Y T):=λr w=>(t82 T hT m r w).mono λx s hq=>⟨by rw[hq.1];exact xD _,λi _=>by rw[hq.2.1],hq.2.2⟩
abbrev e9Z:=λp0 p1 p2 p3 s=>P6 (e3d p0 p1 p2 p3) s
abbrev c7O:=λp0 p1 p2 p3 p4 s=>P6 (c4V p0 p1 p2 p3 p4) s
theorem e2A (n a):o8 A9 (n+1) 211 [a]=c0v o9 NN (o8 A9 n) a:=a1j (q:=c0v) (N:=NN) zw n a
def a9q (n:Nat):Nat->Nat->Option Nat|0,_=>none|k+1,i=>bcase (decide (n=2^i)) (some i) (a9q n k (i+1))
theorem e8d (n N0 call):∀(k e i) (xs) (r w),i+k=64->C8 xs 11=.int .i64 (.ofNat i)->l9 (go (Q5 (c9h o9 N0 call (.int .u64 (.ofNat n))) (k+1+e) xs) ⟨c,h,r,w⟩) λy s=>s.c=c/\s.h=h/\∃xs',(y=(.exit 0,xs')/\a9q n k i=none)\/(y=(.ret,xs')/\∃j,a9q n k i=some j/\C8 xs' 7=.int .i64 (.ofNat j)/\C8 xs' 8=.bool true):=by
 intro k;induction k with
  |zero=>intro e i xs r w hi h1;rw[wX 0 1 e,O8];have hi:i=64:=zy;subst hi;have e0:decide (64<64)=false:=rfl;simp(disch:=try exact dz)only[c7O,h1,dL,e0,↓gP,gY,gT];exact l9.done ⟨rfl,rfl,_,Or.inl ⟨rfl,rfl⟩⟩|succ k ih=>
   intro e i xs r w hi h1;rw[wX (k+1) 1 e,O8];have hi64:i<64:=zy;have e0:decide (i<64)=true:=ww hi64;have hinc:=G9 i zy;have hp:2^i<18446744073709551616:=wY (Nat.pow_lt_pow_right zq hi64) zq;have hs:∀t x y,a0J Tryz.prog tab .shl t x y (.int .u64 (.ofNat 1)) (.int .i64 (.ofNat i))=M.pure (.int .u64 (.ofNat (2^i))):=λt x y=>by rw[a8A _ _ t x y .u64 .i64 1 i (by show i<=64;omega),Nat.one_mul,w64 _ hp]
   have ep:a9q n (k+1) i=bcase (decide (n=2^i)) (some i) (a9q n k (i+1)):=rfl;rw[ep];cases q:decide (n=2^i)with|true=>simp(disch:=try exact dz)only[c7O,h1,dL,J5,e0,hs,q,↓gP,gY,gT];exact l9.done ⟨rfl,rfl,_,Or.inr ⟨rfl,i,rfl,rfl,rfl⟩⟩|false=>simp(disch:=try exact dz)only[c7O,h1,dL,J5,e0,hs,q,hinc,↓gP,gY,gT];exact ih e (i+1) _ _ _ zy rfl
def d2P (n:Nat):Value:=match a9q n 64 0 with|some j=>.tuple ⟨[.int .i64 (.ofNat j),.bool true]⟩|none=>.tuple ⟨[.int .i64 (.ofNat 0),.bool false]⟩
theorem e8r (n m):Rv (o8 A9 (m+1) 211 [.int .u64 (.ofNat n)]) c h (d2P n):=by intro r w;rw[e2A];obtain⟨e,hNe⟩:∃e,NN=64+1+e:=⟨NN-65,zL⟩;have lp:=λxs r w h1=>e8d (c:=c) (h:=h) n NN (o8 A9 m) 64 e 0 xs r w rfl h1;rw[<-hNe]at lp;simp(disch:=try exact dz)only[e9Z,↓gP,gY,gT];unfold d2P;refine l9.bindJ (lp _ _ _ rfl) λy xs' s hq=>?_;obtain⟨c1,h1,r1,w1⟩:=s;obtain⟨f1,f2,xs1,⟨f4,f5⟩|⟨f4,i,f5,f6,f7⟩⟩:=hq;cases f4;simp only at f1 f2;subst f1 f2;rw[f5];simp(disch:=try exact dz)only[J4,↓gP,gY,gT];exact l9.done ⟨xD _,λ_ _=>rfl,rfl⟩;cases f4;simp only at f1 f2;subst f1 f2;rw[f5];simp(disch:=try exact dz)only[f6,f7,↓gP,gY,gT];exact l9.done ⟨xD _,λ_ _=>rfl,rfl⟩
end
abbrev d9z:=λp0 p1 p2 p3 p4 s=>P6 (e5q p0 p1 p2 p3 p4) s
abbrev b7O:=λp0 p1 p2 p3 p4 s=>P6 (e6L p0 p1 p2 p3 p4) s
abbrev c2g:=λp0 p1 p2 p3 p4 p5 s=>P6 (e3r p0 p1 p2 p3 p4 p5) s
abbrev e9h:=λp0 p1 p2 p3 p4 p5 s=>P6 (e5L p0 p1 p2 p3 p4 p5) s
abbrev e2q:=λp0 p1 p2 p3 p4 p5 s=>P6 (e5y p0 p1 p2 p3 p4 p5) s
abbrev e0c:=om (λp0 p1 p2 p3 p4 p5 p6 s=>P6 (e3D p0 p1 p2 p3 p4 p5 p6) s)<| @D9
theorem d7V (n a b):o8 A9 (n+1) 189 [a,b]=c0C o9 NN (o8 A9 n) a b:=a0Z (q:=c0C) (N:=NN) zw n a b
theorem e0X (n a b):o8 A9 (n+1) 190 [a,b]=b9N o9 NN (o8 A9 n) a b:=a0Z (q:=b9N) (N:=NN) zw n a b
theorem d8n (n a b d):o8 A9 (n+1) 153 [a,b,d]=b9V o9 NN (o8 A9 n) a b d:=a5I (q:=b9V) (N:=NN) zw n a b d
theorem e1E (n a b d):o8 A9 (n+1) 209 [a,b,d]=c0J o9 NN (o8 A9 n) a b d:=a5I (q:=c0J) (N:=NN) zw n a b d
theorem d9k (n a b d):o8 A9 (n+1) 192 [a,b,d]=c0s o9 NN (o8 A9 n) a b d:=a5I (q:=c0s) (N:=NN) zw n a b d
theorem e2s (n a b d e):o8 A9 (n+1) 191 [a,b,d,e]=b9W o9 NN (o8 A9 n) a b d e:=b0T (q:=b9W) (N:=NN) zw n a b d e
section
variable {c:Nat}{h:Trie VObj}{lv:Sl}{l:List Nd}
def isW (l:List Nd)(i:Nat):Bool:=match l[i]? with|some n=>decide (n.k=2)|none=>false
def hdB (l:List Nd)(i:Nat)(W:List UInt8):Bool:=match l[i]? with|some n=>Z4 n.k (a0f n.l) W|none=>false
def stB (l:List Nd)(i:Nat)(P:List UInt8):Bool:=match l[i]? with|some n=>decide (n.k=2)&&a0X n.t P|none=>false
theorem NdL.lt_get {U}(H:NdL U h lv l){i n}(hi:l[i]?=some n):decide (i<lv.n)=true:=by rw[H.len.1];exact ww (xC.1 hi).1
theorem NdL.lt_none {U}(H:NdL U h lv l){i}(hi:l[i]?=none):decide (i<lv.n)=false:=by rw[H.len.1];exact wy λk=>by have:=uX.1 hi;omega
theorem c3J (hl:NdL (λi=>i<c) h lv l)(i m):Rv (o8 A9 (m+1) 189 [.slice lv.a lv.n lv.e,.int .i64 (.ofNat i)]) c h (.bool (isW l i)):=by intro r w;rw[d7V];cases hi:l[i]? with|none=>have e0:=hl.lt_none hi;have eS:isW l i=false:=yo;rw[eS];simp(disch:=try exact dz)only[d9z,dL,e0,↓gP,gY,gT];exact l9.done ⟨xD _,λ_ _=>rfl,rfl⟩|some n=>have e0:=hl.lt_get hi;obtain⟨b,q,g,cs,cur,ro,nl,hb,hg,hN,hT,e1,e2,e3,e4,e5,e6⟩:=hl.get hi;have eS:isW l i=decide (n.k=2):=yo;rw[eS];cases q1:decide (n.k=2)<;>simp(disch:=try exact dz)only[d9z,dL,J5,e0,e1,e3,hg,q1,↓gP,gY,gT]<;>exact l9.done ⟨xD _,λ_ _=>rfl,rfl⟩
theorem b3D (hl:NdL (λi=>i<c) h lv l)(i m):Rv (o8 A9 (m+1) 190 [.slice lv.a lv.n lv.e,.int .i64 (.ofNat i)]) c h (.bool (isI l i)):=by
 intro r w;rw[e0X];cases hi:l[i]? with
  |none=>
   have e0:=hl.lt_none hi;have eS:isI l i=false:=by unfold isI;rw[hi]
   rw[eS];simp(disch:=try exact dz)only[b7O,dL,e0,↓gP,gY,gT];exact l9.done ⟨xD _,λ_ _=>rfl,rfl⟩|some n=>
   have e0:=hl.lt_get hi;obtain⟨b,q,g,cs,cur,ro,nl,hb,hg,hN,hT,e1,e2,e3,e4,e5,e6⟩:=hl.get hi;have eS:isI l i=(decide (n.k=2)&&c1Y n.t):=by unfold isI;rw[hi];rfl
   rw[eS];cases q1:decide (n.k=2)with|false=>simp(disch:=try exact dz)only[b7O,dL,J5,e0,e1,e3,hg,q1,↓gP,gY,gT];exact l9.done ⟨xD _,λ_ _=>rfl,rfl⟩|true=>match ht:n.t with|[]=>rw[ht]at e5;have z0:decide (0<([]:List UInt8).length)=false:=rfl;simp(disch:=try exact dz)only[b7O,dL,J5,e0,e1,e3,e5,hg,q1,z0,↓gP,gY,gT];exact l9.done ⟨xD _,λ_ _=>rfl,rfl⟩|y::t=>rw[ht]at e5;have z0:decide (0<(y::t).length)=true:=rfl;have z1:=a0l ⟨⟨y::t⟩⟩ 0 y rfl;have eS:c1Y (y::t)=c7t y:=rfl;rw[eS];unfold c7t;cases q2:decide (y.toNat=36)with|true=>simp(disch:=try exact dz)only[b7O,dL,J5,e0,e1,e3,e5,hg,q1,q2,z0,z1,↓gP,gY,gT];exact l9.done ⟨xD _,λ_ _=>rfl,rfl⟩|false=>cases q3:decide (48<=y.toNat)with|false=>simp(disch:=try exact dz)only[b7O,dL,J5,dle,e0,e1,e3,e5,hg,q1,q2,q3,z0,z1,↓gP,gY,gT];exact l9.done ⟨xD _,λ_ _=>rfl,rfl⟩|true=>simp(disch:=try exact dz)only[b7O,dL,J5,dle,e0,e1,e3,e5,hg,q1,q2,q3,z0,z1,↓gP,gY,gT];exact l9.done ⟨xD _,λ_ _=>rfl,rfl⟩
theorem b3a (hl:NdL (λi=>i<c) h lv l)(i W m):Rv (o8 A9 (m+1) 153 [.slice lv.a lv.n lv.e,.int .i64 (.ofNat i),.string ⟨⟨W⟩⟩]) c h (.bool (hdB l i W)):=by
 intro r w;rw[d8n];cases hi:l[i]? with
  |none=>
   have e0:=hl.lt_none hi;have eS:hdB l i W=false:=by unfold hdB;rw[hi]
   rw[eS];simp(disch:=try exact dz)only[c2g,dL,e0,↓gP,gY,gT];exact l9.done ⟨xD _,λ_ _=>rfl,rfl⟩|some n=>
   have e0:=hl.lt_get hi;obtain⟨b,q,g,cs,cur,ro,nl,hb,hg,hN,hT,e1,e2,e3,e4,e5,e6⟩:=hl.get hi;have eS:hdB l i W=Z4 n.k (a0f n.l) W:=by unfold hdB;rw[hi]
   rw[eS];cases hn:n.l with
    |nil=>have z0:=hN.lt_none (i:=0) (by rw[hn];rfl);have eS:Z4 n.k (a0f []) W=false:=rfl;rw[eS];cases q1:decide (n.k=0)<;>simp(disch:=try exact dz)only[c2g,dL,J5,e0,e1,e3,e6,hg,q1,z0,↓gP,gY,gT]<;>exact l9.done ⟨xD _,λ_ _=>rfl,rfl⟩|cons y t=>
     have hy:n.l[0]?=some y:=by rw[hn];rfl
     obtain⟨b',q',g',cs',cur',ro',nl',hb',hg',hN',hT',f1,f2,f3,f4,f5,f6⟩:=hN.get hy;have z0:=hN.lt_get hy;have eS:Z4 n.k (a0f (y::t)) W=(decide (n.k=0)&&(decide (y.k=2)&&beqBytes y.t W)):=rfl;rw[eS];cases q1:decide (n.k=0)with|false=>simp(disch:=try exact dz)only[c2g,dL,J5,e0,e1,e3,e6,hg,q1,z0,↓gP,gY,gT];exact l9.done ⟨xD _,λ_ _=>rfl,rfl⟩|true=>cases q2:decide (y.k=2)with|false=>simp(disch:=try exact dz)only[c2g,dL,J5,e0,e1,e3,e6,hg,f1,f3,hg',q1,q2,z0,↓gP,gY,gT];exact l9.done ⟨xD _,λ_ _=>rfl,rfl⟩|true=>simp(disch:=try exact dz)only[c2g,dL,J5,e0,e1,e3,e6,hg,f1,f3,f5,hg',q1,q2,z0,↓gP,gY,gT];exact l9.done ⟨xD _,λ_ _=>rfl,rfl⟩
theorem d8E (hl:NdL (λi=>i<c) h lv l)(i P m):Rv (o8 A9 (m+2) 209 [.slice lv.a lv.n lv.e,.int .i64 (.ofNat i),.string ⟨⟨P⟩⟩]) c h (.bool (stB l i P)):=by
 intro r w;rw[e1E];simp(disch:=try exact dz)only[e9h,↓gP,gY,gT];refine Rv.bindC (c3J hl i m) λc1 h1 r1 w1 k1 hh1=>?_;cases hi:l[i]? with
  |none=>
   have eS:stB l i P=false:=by unfold stB;rw[hi]
   have eW:isW l i=false:=yo;rw[eS,eW];simp(disch:=try exact dz)only[↓gP,gY,gT];exact l9.done ⟨k1,hh1,rfl⟩|some n=>
   obtain⟨b,q,g,cs,cur,ro,nl,hb,hg,hN,hT,e1,e2,e3,e4,e5,e6⟩:=hl.get hi;have hg1:=(hh1 b hb).trans hg;have eS:stB l i P=(decide (n.k=2)&&a0X n.t P):=by unfold stB;rw[hi]
   have eW:isW l i=decide (n.k=2):=yo;rw[eS,eW];cases q1:decide (n.k=2)with|false=>simp(disch:=try exact dz)only[q1,↓gP,gY,gT];exact l9.done ⟨k1,hh1,rfl⟩|true=>have hlenS:∀T:List UInt8,a3S (.string ⟨⟨T⟩⟩)=V.M.pure (.int .i64 (.ofNat T.length)):=λT=>a1k _;unfold a0X;cases q2:decide (P.length<=n.t.length)with|false=>simp(disch:=try exact dz)only[q1,q2,e1,e5,hg1,hlenS,dle,↓gP,gY,gT];exact l9.done ⟨k1,hh1,rfl⟩|true=>have hsl:=b6d n.t .i64 P.length (wP q2);simp(disch:=try exact dz)only[q1,q2,e1,e5,hg1,hlenS,hsl,dle,↓gP,gY,gT];exact l9.done ⟨k1,hh1,rfl⟩
structure RD where
 R:RV
 p:Nat
 e:Nat
def RD.V (d:RD):Value:=.agg ⟨RW d.R d.p d.e⟩
def P7 (d:RD)(q f:Nat):RD:=bcase (decide (d.e=0)) ⟨d.R,q,f⟩ d
theorem a8B (d q f m):Rv (o8 A9 (m+1) 192 [d.V,.int .i64 (.ofNat q),.int .i64 (.ofNat f)]) c h (P7 d q f).V:=by intro r w;obtain⟨R,p,e⟩:=d;rw[d9k];unfold RD.V P7;cases q1:decide (e=0)with|true=>simp(disch:=try exact dz)only[e2q,↓gR,gS,J5,q1,↓gP,gY,gT];exact l9.done ⟨zV,λi hi=>zU,rfl⟩|false=>simp(disch:=try exact dz)only[e2q,↓gR,gS,J5,q1,↓gP,gY,gT];exact l9.done ⟨zV,λi hi=>zU,rfl⟩
def a0u (d:RD)(l:List Nd)(i q:Nat):RD:=match l[i]? with|some n=>P7 d n.p 4|none=>P7 d q 4
theorem a7R (d)(hl:NdL (λi=>i<c) h lv l)(i q m):Rv (o8 A9 (m+2) 191 [d.V,.slice lv.a lv.n lv.e,.int .i64 (.ofNat i),.int .i64 (.ofNat q)]) c h (a0u d l i q).V:=by intro r w;obtain⟨R,p,e⟩:=d;rw[e2s];unfold a0u;cases hi:l[i]? with|none=>have e0:=hl.lt_none hi;unfold RD.V;simp(disch:=try exact dz)only[e0c,↓gR,gS,dL,e0,↓gP,gY,gT];refine Rv.bindC (a8B ⟨R,p,e⟩ q 4 m) λc1 h1 r1 w1 k1 hh1=>?_;unfold RD.V;simp(disch:=try exact dz)only[hh1,↓gR,gS,↓gP,gY,gT];exact l9.done ⟨zV,λi hi=>zS,rfl⟩|some n=>have e0:=hl.lt_get hi;obtain⟨b,q',g,cs,cur,ro,nl,hb,hg,hN,hT,e1,e2,e3,e4,e5,e6⟩:=hl.get hi;have b1:b≠c:=zy;have b2:b≠c+1:=zy;unfold RD.V;simp(disch:=try exact dz)only[e0c,↓gR,gS,dL,e0,e1,e4,hg,↓gP,gY,gT];refine Rv.footC (a8B ⟨R,p,e⟩ n.p 4 m) λc1 h1 r1 w1 F k1 hh1=>?_;unfold RD.V;simp(disch:=try exact dz)only[hh1,↓gR,gS,↓gP,gY,gT];exact l9.done ⟨zV,λi hi=>zS,rfl⟩
end
abbrev G70:=λp0 p1 p2 p3 p4 s=>P6 (e9V p0 p1 p2 p3 p4) s
abbrev G66:=λp0 p1 p2 s=>P6 (e9R p0 p1 p2) s
theorem n70 {c h vs vl l}(H:U8 c h (sv vl) l)(hl:l.length<1000)(T call r w):l9 (go (b5s o9 NN call (.agg ⟨sR vs vl⟩) (.string ⟨⟨T⟩⟩)) ⟨c,h,r,w⟩) λx s=>c<=s.c/\(∀i,i<c->s.h.get i=h.get i)/\(∀i∈s.w,i∈w\/c<=i)/\∃u,x=.ret (.agg ⟨sR vs u⟩)/\U8 s.c s.h (sv u) (l++[T])/\∀i,u.own i->c<=i/\i<s.c:=by
 have hbx:∀c h r w,go (a7m (.agg ⟨sR vs vl⟩)) ⟨c,h,r,w⟩=some (.pointer (some ⟨c,0,some 0⟩),⟨c+1,V.upd h c (.cells (J7 (λv=>(v,0)) (sR vs vl)) 0 false),r,c::w⟩):=λc h r w=>a1n c h r w (sR vs vl) rfl;have ga:∀X Y,(V.upd (V.upd h c X) (c+1) Y).get c=some X:=λX Y=>(d9 zy).trans (o7 _ _ _);have gc:∀X Y i,i<c->(V.upd (V.upd h c X) (c+1) Y).get i=h.get i:=λX Y i hi=>(d9 zy).trans (d9 zy);obtain⟨h2,eh,ga,gb,gc⟩:∃h2,V.upd (V.upd h c (.cells (J7 (λv=>(v,0)) (sR vs vl)) 0 false)) (c+1) (.cells [(.slice none 0 0,0),(.slice none 0 0,0),(.slice none 0 0,0),(.slice none 0 0,0),(.slice none 0 0,0),(.slice none 0 0,0),(.slice none 0 0,0),(.slice none 0 0,0),(.slice none 0 0,0),(.slice none 0 0,0)] 0 false)=h2/\h2.get c=some (cl (sR vs vl))/\h2.get (c+1)=some (cl (sR (λ_=>U5) U5))/\∀i,i<c->h2.get i=h.get i:=⟨_,rfl,ga _ _,o7 _ _ _,gc _ _⟩;have H2:=H.mono (show c<=c+1+1 by omega) gc;have tl:A7 0 (F8 (J7 (λv=>(v,0)) (sR vs vl)) 9) 1=some [sv vl]:=rfl;have hne:c≠c+1:=zy;have q0:=λr w=>b7J vs vl (b:=c) (c:=c+1+1) (h:=h2) zy ga r w;rw[<-eh]at q0;simp(disch:=try exact dz)only[G70,hbx,tl,q0,↓gP,gY,gT];rw[eh];have no0:∀i,¬Sl.own ⟨none,0,0⟩ i:=λi hi=>by obtain⟨_,k,_⟩:=hi;cases k
 refine l9.bindS (a0M (u:=⟨none,0,0⟩) (x:=vl) b4E zq b4t (R7.nil 1 _ _) H2.rows (c9E l) (by have:=H2.rows.1;rw[a5q]at this;grind) _ _) λy s hq=>?_;obtain⟨c5,h5,r5,w5⟩:=s;obtain⟨u1,rfl,n1,a1,a2,a3,a4,a5⟩:=hq;simp only at n1 a1 a2 a3 a4 a5;have a3:∀i,i<c+1+1->h5.get i=h2.get i:=λi hi=>a3 i hi (no0 i);have n1:u1.n=l.length:=by have:=H2.rows.1;rw[a5q]at this;omega
 simp(disch:=try exact dz)only[↓gP,gY,gT];refine l9.bindS (a0M (u:=u1) (x:=⟨some ⟨c5,0,some 0⟩,1,1⟩) (xs:=[.string ⟨⟨T⟩⟩]) b4E zq b4t (a1.mono (wZ _) λb hb _=>d9 zy) ⟨rfl,Or.inr ⟨c5,0,0,_,0,false,rfl,rfl,wu _,o7 _ _ _,rfl⟩⟩ rfl (by rw[n1];grind) _ _) λy s hq=>?_;obtain⟨c6,h6,r6,w6⟩:=s;obtain⟨u2,rfl,n2,b1,b2,b3,b4,b5⟩:=hq;simp only at b1 b2 b3 b4 b5;have own1:∀i,u1.own i->c+1+1<=i:=λi hi=>zu;have b3:∀i,i<c+1+1->h6.get i=h2.get i:=λi hi=>(b3 i zy λk=>by have:=own1 i k;omega).trans ((d9 zy).trans (a3 i hi));have g6c:h6.get c=some (cl (sR vs vl)):=(b3 c zy).trans ga;have g6d:h6.get (c+1)=some (cl (sR (λ_=>U5) U5)):=(b3 (c+1) zy).trans gb;have t9:A7 0 (J7 (λv=>(v,0)) (sR vs vl)) 9=some (s9 vs):=rfl;have q7:=λr w=>b2G vs (λ_=>U5) u2 U5 (b:=c+1) (c:=c6) (h:=h6) zy g6d r w;have hfill:a5l [(0,9),(9,1)] [.agg ⟨s9 vs⟩,.slice u2.a u2.n u2.e] z10=some (sR vs u2):=rfl;unfold z10 at hfill;have t10b:A7 0 (J7 (λv=>(v,0)) (sR vs u2)) 10=some (sR vs u2):=rfl;simp(disch:=try exact dz)only[g6c,t9,q7,hfill,t10b,↓gP,gY,gT];have own2:∀i,u2.own i->c+1+1<=i:=λi hi=>zu;refine l9.done ⟨zu,λi hi=>(d9 (show i≠c+1 by omega)).trans ((b3 i zy).trans (gc i hi)),λi hi=>?_,u2,rfl,?_,λi k1=>⟨by have:=own2 i k1;omega,b1.own_lt k1⟩⟩;grind;refine U8.grow ?_;have e:ls_ (l++[T])=ls_ l++[.string ⟨⟨T⟩⟩]:=ut;rw[e];exact b1.mono (xD _) λb hb ho=>by have:=own2 b ho;grind[d9]
theorem n66 {c h}(call r w):l9 (go (c1d o9 NN call) ⟨c,h,r,w⟩) λx s=>x=.ret (.agg ⟨sR (λ_=>U5) U5⟩)/\s.c=c+1/\(∀i,i<c->s.h.get i=h.get i):=by simp(disch:=try exact dz)only[G66,↓gP,gY,gT];exact l9.done ⟨rfl,rfl,λi hi=>(d9 zy).trans (d9 zy)⟩
abbrev G26:=λp0 p1 p2 p3 s=>P6 (e9l p0 p1 p2 p3) s
abbrev d3A:=λp0 p1 p2 p3 p4 s=>P6 (c9n p0 p1 p2 p3 p4) s
theorem c2E (u):b1Z (sv u)=V.M.pure (.int .i64 (.ofNat u.n)):=U7 u.a u.n u.e
theorem l26 {c b h vs vl}(hb:b<c)(hg:h.get b=some (cl (sR vs vl)))(N0 call):∀(k e i) (xs) (r w),i+k=9->C8 xs 11=.int .i64 (.ofNat i)->l9 (go (Q5 (d4x o9 N0 call (.pointer (some ⟨b,0,some 0⟩))) (k+1+e) xs) ⟨c,h,r,w⟩) λy s=>s.c=c/\s.h=h/\∃xs',(y=(.exit 0,xs')/\∀j,i<=j->j<9->(vs j).n<=20)\/(y=(.ret,xs')/\C8 xs' 8=.bool false):=by intro k;induction k with|zero=>intro e i xs r w hi h1;rw[wX 0 1 e,O8];have:i=9:=zy;subst this;have e0:decide (9<9)=false:=rfl;simp(disch:=try exact dz)only[d3A,h1,dL,e0,↓gP,gY];exact l9.done ⟨rfl,rfl,_,Or.inl ⟨rfl,λj h1 h2=>zy⟩⟩|succ k ih=>intro e i xs r w hi h1;rw[wX (k+1) 1 e,O8];have hk:i<9:=zy;have e0:decide (i<9)=true:=ww hk;have hinc:=G9 i zy;have t9:A7 0 (J7 (λv=>(v,0)) (sR vs vl)) 9=some (s9 vs):=rfl;have tk:A7 0 (F8 (J7 (λv=>(v,0)) (sR vs vl)) i) 1=some [sv (vs i)]:=a1e t9 i _ (b1u vs hk);cases h20:decide (20<(vs i).n)with|true=>simp(disch:=try exact dz)only[d3A,h1,dL,e0,h20,hg,tk,c2E,a6u,↓gP,gY,gT];exact l9.done ⟨rfl,rfl,_,Or.inr ⟨rfl,rfl⟩⟩|false=>simp(disch:=try exact dz)only[d3A,h1,dL,e0,h20,hg,tk,c2E,hinc,a6u,↓gP,gY,gT];refine(ih e (i+1) _ _ _ zy rfl).mono λy s hq=>?_;grind
theorem n26 {c h}(vs vl call r w):l9 (go (c2i o9 NN call (.agg ⟨sR vs vl⟩)) ⟨c,h,r,w⟩) λx s=>c<=s.c/\(∀i,i<c->s.h.get i=h.get i)/\∃b,x=.ret (.bool b)/\(b=true->(∀j,j<9->(vs j).n<=20)/\vl.n<=20):=by have hbx:∀c h r w,go (a7m (.agg ⟨sR vs vl⟩)) ⟨c,h,r,w⟩=some (.pointer (some ⟨c,0,some 0⟩),⟨c+1,V.upd h c (.cells (J7 (λv=>(v,0)) (sR vs vl)) 0 false),r,c::w⟩):=λc h r w=>a1n c h r w (sR vs vl) rfl;obtain⟨e,hNe⟩:∃e,NN=9+1+e:=⟨NN-10,zL⟩;have tl:A7 0 (F8 (J7 (λv=>(v,0)) (sR vs vl)) 9) 1=some [sv vl]:=rfl;have lp:=λxs r w h1=>l26 (c:=c+1) (b:=c) (h:=V.upd h c (.cells (J7 (λv=>(v,0)) (sR vs vl)) 0 false)) (vs:=vs) (vl:=vl) (wu c) (o7 _ _ _) NN call 9 e 0 xs r w rfl h1;rw[<-hNe]at lp;simp(disch:=try exact dz)only[G26,hbx,↓gP,gY,gT];refine l9.bindJ (lp _ _ _ rfl) λy xs' s hq=>?_;obtain⟨c1,h1,r1,w1⟩:=s;obtain⟨f1,f2,xs1,⟨f3,f4⟩|⟨f3,f4⟩⟩:=hq;simp only at f1 f2;subst f1 f2;cases f3;have q0:=λr w=>b7J vs vl (b:=c) (c:=c+1) (h:=V.upd h c (.cells (J7 (λv=>(v,0)) (sR vs vl)) 0 false)) (wu c) (o7 _ _ _) r w;simp(disch:=try exact dz)only[J4,tl,q0,c2E,↓gP,gY,gT];refine l9.done ⟨wZ _,λi hi=>d9 zy,_,rfl,λhb=>⟨λj hj=>f4 j (vY _) hj,?_⟩⟩;have:=wP hb;grind;simp only at f1 f2;subst f1 f2;cases f3;simp(disch:=try exact dz)only[f4,↓gP,gY,gT];exact l9.done ⟨wZ _,λi hi=>d9 zy,_,rfl,λhb=>by cases hb⟩
end
end Go.Proofs.YtmomonnlmbljoaaGreatDoor
