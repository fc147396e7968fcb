import Derived.Test.YtmomonnlmbljoaaGreatDoorBbq
set_option maxRecDepth 1000000
set_option maxHeartbeats 4000000
set_option linter.unusedVariables false
set_option linter.unusedSimpArgs false
section
namespace Go.Proofs.YtmomonnlmbljoaaGreatDoor
open Go.V Go.RowKit Go.Shelf Go.Proofs
variable {mL:Int}
inductive Bt:Nat→Nat→Nat→List It→Prop
 | none:Bt 0 0 0 []
 | val {v:Nat}:1≤v→v≤4→Bt 1 v 0 [.l reW (Q9 (.ofNat v))]
 | idx {u:Nat}:u<4294967296→Bt 2 0 u [.l tyW (Lib.decDigits u)]
theorem Bt.ok {k v b its}(h:Bt k v b its):∀x∈its,x.ok:=by intro x hx;cases h with|none=>cases hx|val h1 h2=>rw[vW]at hx;subst hx;exact⟨d4c,c8v h1 h2⟩|idx h1=>rw[vW]at hx;subst hx;exact⟨d4R,a9o _⟩
section
variable {F:Nat->List (Value×Value)}{L:List (List UInt8)}{i q:Nat}{l t ns:List Nd}{n:Nd}{R:RV}
theorem c8G {k v b its}(h:Bt k v b its)(hd:l.drop R.i=ns++t)(hns:IsL ns (its.map It.s))(hf:Fol t)(r1:R.k=0)(r2:R.v=0)(r3:R.bi=0):∃i',a6C F l q R=.ok {R with i:=i',k:=k,v:=v,bi:=b}/\l.drop i'=t:=by
 obtain⟨Ri,Rop,RA,RB,RN,Rk,Rv,Rb,R1,R2,R3⟩:=R;simp only at hd r1 r2 r3;subst r1 r2 r3;unfold a6C;cases h with
  |none=>cases hns;rw[a0o hd,vR];refine⟨Ri,?_,hd⟩;cases t with|nil=>rfl|cons m u=>show bcase (a0A m.k (a0V m.l) _) _ (bcase (a0A m.k (a0V m.l) _) _ _)=_;rw[(hf m u rfl).re,(hf m u rfl).ty];rfl
  | @val v h1 h2=>obtain⟨m,rfl,hm⟩:=hns.one;rw[a0o hd];refine⟨Ri+1,?_,Y0 hd⟩;show bcase (a0A m.k (a0V m.l) _) (match a2X m q with|.ok t=>_|.er p e=>_) _=_;rw[(c8q hm).1,c9Q h1 h2 hm];rfl| @idx u h1=>obtain⟨m,rfl,hm⟩:=hns.one;rw[a0o hd];refine⟨Ri+1,?_,Y0 hd⟩;obtain⟨b1,b2,b3⟩:=c2K hm;show bcase (a0A m.k (a0V m.l) _) _ (bcase (a0A m.k (a0V m.l) _) _ _)=_;rw[b3,b1,y9,A9];exact c8i (R:=⟨Ri,Rop,RA,RB,RN,2,0,0,R1,R2,R3⟩) h1 hd hm
theorem e4l {op}(h:blkB op=true):E9 (.ofNat op)=1:=by have i2:E9 (.ofNat 2)=1:=zw;have i3:E9 (.ofNat 3)=1:=zw;have i4:E9 (.ofNat 4)=1:=zw;unfold blkB at h;simp only[sK,vZ]at h;rcases h with rfl|rfl|rfl;exact i2;exact i3;exact i4
theorem c1v {op k v b its lb}(hop:blkB op=true)(hk:I1 (.ofNat op)=true)(h:Bt k v b its)(hlb:lb=[]\/∃W,lb=[W]/\a0O W=true)(hn:n.t=M8 op)(hd:l.drop i=n::(ns++t))(hns:IsL ns ((lb.map It.w++its).map It.s))(hf:Fol t):∃nm nx,a1v F L l i n=.ok ⟨op,0,0,0,k,v,b,[],[]⟩ nm nx/\l.drop nx=t:=by
 have hj:=e4l hop;have hd1:=Y0 hd;have hfo:=a4f hk hn hj zu;have key:∀R':RV,a6C F l n.p (a6N l (RV0 op (i+1)))=.ok R'->a1v F L l i n=.ok ⟨R'.op,R'.A,R'.B,R'.N,R'.k,R'.v,R'.bi,[],[]⟩ R'.nm R'.i:=λR' e=>a4N hfo (a8K hj zu) zW (by rw[hj];exact e);rcases hlb with rfl|⟨W,rfl,hW⟩;have hns':IsL ns (its.map It.s):=hns;have e0:a6N l (RV0 op (i+1))=RV0 op (i+1):=by
  unfold a6N;show(match l[i+1]? with|none=>_|some n=>_)=_;rw[a0o hd1];cases h with
   |none=>cases hns';rw[vR];cases t with|nil=>rfl|cons m u=>show bcase (decide (m.k=2)&&a0O m.t) _ _=_;rw[(hf m u rfl).nm];rfl
   |val h1 h2=>obtain⟨m,rfl,hm⟩:=hns'.one;show bcase (decide (m.k=2)&&a0O m.t) _ _=_;rw[hm.ls.1];rfl|idx h1=>obtain⟨m,rfl,hm⟩:=hns'.one;show bcase (decide (m.k=2)&&a0O m.t) _ _=_;rw[hm.ls.1];rfl
 obtain⟨i',e1,e2⟩:=c8G (F:=F) (q:=n.p) (R:=RV0 op (i+1)) h hd1 hns' hf rfl rfl rfl;exact⟨_,i',key _ (by rw[e0];exact e1),e2⟩;cases hns with
  | @cons m _ ns2 _ hm hns'=>
   have hd2:l.drop (i+1)=m::(ns2++t):=hd1;have e0:a6N l (RV0 op (i+1))={RV0 op (i+1)with nm:=m.t,i:=i+1+1}:=by unfold a6N;show(match l[i+1]? with|none=>_|some n=>_)=_;rw[a0o hd2];show bcase (decide (m.k=2)&&a0O m.t) _ _=_;obtain⟨m1,m2,m3⟩:=Is.wd (W:=W) hm;rw[m1,m2,hW];rfl
   obtain⟨i',e1,e2⟩:=c8G (F:=F) (q:=n.p) (R:={RV0 op (i+1)with nm:=m.t,i:=i+1+1}) h (Y0 hd2) hns' hf rfl rfl rfl;exact⟨_,i',key _ (by rw[e0];exact e1),e2⟩
end
inductive Rk:AI→List It→Prop
 | pl {X:AI} {its:List It}:Pl X its→Rk X its
 | bl {op k v b:Nat} {its:List It} {lb:List (List UInt8)}:blkB op=true→Bt k v b its→(lb=[]∨∃ W,lb=[W]∧a0O W=true∧Wd W)→Rk ⟨op, 0, 0, 0,k,v,b, [], []⟩ (lb.map It.w ++ its)
structure Ro (x:AI×List It):Prop where
 rk:Rk x.1 x.2
 kn:I1 (.ofNat x.1.op)=true
theorem Ro.ok {x}(h:Ro x):∀y∈x.2,y.ok:=by cases x with|mk X its=>cases h.rk with|pl hpl=>exact hpl.ok|bl _ hbt hl=>intro y hy;rcases ut.1 hy with k|k;rcases hl with rfl|⟨W,rfl,_,hW⟩;cases k;rw[uy,qV,vW]at k;subst k;exact hW;exact hbt.ok y k
def wst (op:Nat)(st:List Bool):Option (List Bool):=if blkB op then some (decide (op=4)::st)else if op=5 then(match st with|true::r=>some (false::r)|_=>none)else if op=11 then(match st with|_::r=>some r|[]=>none)else some st
def a2j:List Nat->List Bool->Option (List Bool)|[],st=>some st|X::Xs,st=>(wst X st).bind (a2j Xs)
def bst (bs:List Bk):List Bool:=bs.map λb=>decide (b.op=4)&& !b.el
theorem e2i {X its}(h:Pl X its)(h0:E9 (.ofNat X.op)=0):X=aiE X.op/\its=[]:=by cases h with|none _=>exact⟨rfl,rfl⟩|one hj h1 _=>have:=hj.symm.trans h0;omega|tab h3 _ _=>have:=h3.symm.trans h0;omega|ind h5 _ _=>have:=h5.symm.trans h0;omega|sel _ _=>have:=d4w.symm.trans h0;omega|tbl h9 _=>have:=h9.symm.trans h0;omega|two hj h2 _ _=>have:=hj.symm.trans h0;omega|ini hj h2 _ _=>have:=hj.symm.trans h0;omega|mem h13 _=>have:=h13.symm.trans h0;omega|acc h17 _ _ _=>have:=h17.symm.trans h0;omega|con hj h2 _=>have:=hj.symm.trans h0;omega|null h20 _=>have:=h20.symm.trans h0;omega
theorem d5R {F L i k l t ns n fold x bs T st'}(h:Ro x)(hn:Is n (.w (M8 x.1.op)))(hd:l.drop i=n::(ns++t))(hns:IsL ns (x.2.map It.s))(hf:Fol t)(hw:wst x.1.op (bst bs)=some st'):∃nx bs' L',l.drop nx=t/\bst bs'=st'/\a3q fold F l (k+1) i bs L T=a3q fold F l k nx bs' L' (T++[x.1]):=by
 obtain⟨X,its⟩:=x;obtain⟨h1,h2,h3⟩:=hn.wd;have nm:=a4q h.kn;have i5:E9 (.ofNat 5)=0:=zw;have i11:E9 (.ofNat 11)=0:=zw;have e0:a3q fold F l (k+1) i bs L T=bcase (a3X n.t||isEn n.t) (match(generalizing:=false) bs with|[]=>.er n.p 16|b::bs'=>bcase (a3X n.t) (bcase (decide (b.op=4)&& !b.el) (a3q fold F l k (i+1) (⟨b.p,b.op,true⟩::bs') L (T++[aiE 5])) (.er n.p 16)) (a3q fold F l k (i+1) bs' L.dropLast (T++[aiE 11]))) (match a1v F L l i n with|.er p e=>.er p e|.ok X nm nx=>bcase (blkB X.op) (a3q fold F l k nx (⟨n.p,X.op,false⟩::bs) (L++[nm]) (T++[X])) (a3q fold F l k nx bs L (T++[X]))):=by show(match l[i]? with|none=>_|some n=>_)=_;rw[a0o hd];show bcase (decide (n.k=0)) _ (bcase (decide (n.k=2)) _ _)=_;rw[h1];rfl
 rw[e0,h2,nm.el,nm.en];unfold wst at hw;cases h.rk with
  | @bl op kk v b its lb hb hbt hlb=>
   have hop:op≠5/\op≠11:=by unfold blkB at hb;simp only[sK,vZ]at hb;omega
   simp only at hw;rw[vH hb]at hw;cases hw;obtain⟨nm',nx,e1,e2⟩:=c1v (F:=F) (L:=L) (lb:=lb) hb h.kn hbt (hlb.imp id λ⟨W,e,k,_⟩=>⟨W,e,k⟩) h2 hd hns hf;rw[e1,X9 hop.1,X9 hop.2];refine⟨nx,⟨n.p,op,false⟩::bs,L++[nm'],e2,?_,?_⟩;show(decide (op=4)&& !false)::bst bs=_;rw[ug,sj];show bcase (blkB op) _ _=_;rw[hb];rfl|pl hp=>
   have hb:blkB X.op=false:=by obtain⟨a,b,c⟩:=c7b hp;unfold blkB;simp[a,b,c]
   simp only at hw;rw[vN (by rw[hb];decide)]at hw;by_cases h5:X.op=5;rw[vH h5]at hw;obtain⟨p1,p2⟩:=e2i hp (by rw[h5];exact i5);simp only at p1 p2;subst p2;cases hns;cases bs with
    |nil=>cases hw|cons b bs'=>
     have hbb:(decide (b.op=4)&& !b.el)=true:=by cases q:(decide (b.op=4)&& !b.el)with|true=>rfl|false=>unfold bst at hw;rw[uy,q]at hw;cases hw
     refine⟨i+1,⟨b.p,b.op,true⟩::bs',L,Y0 hd,?_,?_⟩;unfold bst at hw⊢;rw[uy,hbb]at hw;cases hw;show(decide (b.op=4)&& !true)::_=_;rw[si,uD];show bcase (Nat.beq X.op 5||Nat.beq X.op 11) (bcase (Nat.beq X.op 5) (bcase (decide (b.op=4)&& !b.el) _ _) _) _=_;rw[hbb,p1,h5];rfl
   rw[vN h5]at hw;by_cases h11:X.op=11;rw[vH h11]at hw;obtain⟨p1,p2⟩:=e2i hp (by rw[h11];exact i11);simp only at p1 p2;subst p2;cases hns;cases bs with|nil=>cases hw|cons b bs'=>cases hw;refine⟨i+1,bs',L.dropLast,Y0 hd,rfl,?_⟩;show bcase (Nat.beq X.op 5||Nat.beq X.op 11) (bcase (Nat.beq X.op 5) _ _) _=_;rw[p1,h11];rfl
   rw[vN h11]at hw;cases hw;obtain⟨nx,e1,e2⟩:=b3C (F:=F) (L:=L) hp h.kn h2 hd hns hf;rw[e1,X9 h5,X9 h11];refine⟨nx,bs,L,e2,rfl,?_⟩;show bcase (blkB X.op) _ _=_;rw[hb];rfl
noncomputable def a4o (x:AI×List It):List Sp:=.w (M8 x.1.op)::x.2.map It.s
theorem d0E {n op u}(hk:I1 (.ofNat op)=true)(hn:Is n (.w (M8 op))):Fol (n::u):=by have nm:=a4q hk;obtain⟨h1,h2,h3⟩:=hn.wd;intro m v e;cases e;refine⟨?_,?_,?_,?_,?_,?_⟩;unfold Y3;rw[h1,h2,nm.ix];rfl;rw[h1,h2,nm.of];rfl;rw[h1,h2,nm.al];rfl;rw[h1,h2,nm.nm];rfl;rw[h1,h3];rfl;rw[h1,h3];rfl
theorem c8R {F l fold}:∀(xs:List (AI×List It)) (L) (i k) (t ns) (bs) (T) (st'),(∀x∈xs,Ro x)->l.drop i=ns++t->IsL ns (xs.flatMap a4o)->Fol t->a2j (xs.map λx=>x.1.op) (bst bs)=some st'->(l.drop i).length<k->∃nx bs' L' k',l.drop nx=t/\bst bs'=st'/\t.length<k'/\a3q fold F l k i bs L T=a3q fold F l k' nx bs' L' (T++xs.map (·.1)):=by
 intro xs;induction xs with
  |nil=>intro L i k t ns bs T st' _ hd hns hf hw hk;cases hns;cases hw;rw[vR]at hd;exact⟨i,bs,L,k,hd,rfl,by rw[hd]at hk;exact hk,by rw[qV,wH]⟩|cons x xs ih=>
   intro L i k t ns bs T st' hx hd hns hf hw hk;rw[vU]at hns;obtain⟨n1,n2,rfl,a1,a2⟩:=hns.split;cases a1 with
    | @cons n _ n1 _ b1 b2=>
     have hd':l.drop i=n::(n1++(n2++t)):=by rw[hd];simp
     have hw':(wst x.1.op (bst bs)).bind (a2j (xs.map λx=>x.1.op))=some st':=hw;cases e:wst x.1.op (bst bs)with
      |none=>rw[e]at hw';cases hw'|some st1=>
       rw[e]at hw';have hf2:Fol (n2++t):=by cases xs with|nil=>cases a2;exact hf|cons y ys=>rw[vU]at a2;cases a2 with|cons c1 c2=>exact d0E (hx y zq).kn c1
       obtain⟨k,rfl⟩:∃j,k=j+1:=⟨k-1,zy⟩;obtain⟨nx,bs1,L1,r1,r2,r3⟩:=d5R (F:=F) (L:=L) (fold:=fold) (k:=k) (T:=T) (hx x zq) b1 hd' b2 hf2 e;subst r2;obtain⟨nx2,bs2,L2,k2,s1,s2,s3,s4⟩:=ih L1 nx k t n2 bs1 (T++[x.1]) st' (λy hy=>hx y (by simp[hy])) r1 a2 hf hw' (by rw[hd']at hk;rw[r1];simp only[wI,wG]at hk⊢;omega);refine⟨nx2,bs2,L2,k2,s1,s2,s3,?_⟩;rw[r3,s4,uy,vw];rfl
theorem b0H {F L fold}{xs:List (AI×List It)}{l}(hx:∀x∈xs,Ro x)(h:IsL l (xs.flatMap a4o))(hw:a2j (xs.map λx=>x.1.op) []=some []):a0k fold F L l=.ok (xs.map (·.1)):=by
 unfold a0k;obtain⟨nx,bs',L',k',s1,s2,s3,s4⟩:=c8R (F:=F) (l:=l) (fold:=fold) xs L 0 (l.length+1) [] l [] [] [] hx zq h Fol.nil hw zq;have hb:bs'=[]:=by cases bs' with|nil=>rfl|cons b bs=>cases s2
 subst hb;rw[s4,vR];obtain⟨k,rfl⟩:∃j,k'=j+1:=⟨k'-1,zy⟩;show(match l[nx]? with|none=>_|some n=>_)=_;rw[a0o s1];rfl
end Go.Proofs.YtmomonnlmbljoaaGreatDoor
end
section
namespace Go.Proofs.YtmomonnlmbljoaaGreatDoor
open Go.V Go.RowKit Go.Shelf Go.Proofs
variable {mL:Int}
abbrev Row:=AI×List It
noncomputable def rwT (x:Row):List UInt8:=M8 x.1.op++x.2.flatMap It.b
noncomputable def rwK (x:Row):List (Nat×List UInt8):=(2,M8 x.1.op)::x.2.flatMap It.k
theorem Lk.row {x:Row}(h:Ro x){t ks}(ht:a9B t=false)(H:Lk t ks):Lk (rwT x++t) (rwK x++ks):=by obtain⟨h1,h2⟩:=Lk.its x.2 h.ok ht H;have nm:=a4q h.kn;have:=Lk.wd nm.ne nm.sg h2 h1;unfold rwT rwK;rw[vw];exact this
theorem Bal.row (x):Bal 1 (rwK x) (a4o x):=.w (Bal.its x.2)
theorem Bal.rows:∀xs:List Row,Bal 1 (xs.flatMap rwK) (xs.flatMap a4o):=by intro xs;induction xs with|nil=>exact .nil|cons x xs ih=>rw[vU,vU];exact(Bal.row x).app ih
inductive Tx:List UInt8→List Row→Prop
 | nil:Tx [] []
 | ws {b:UInt8} {t:List UInt8} {xs:List Row}:wsB b.toNat=true→Tx t xs→Tx (b::t) xs
 | row {x:Row} {t:List UInt8} {xs:List Row}:Ro x→a9B t=false→Tx t xs→Tx (rwT x ++ t) (x::xs)
theorem Tx.lk {t xs}(H:Tx t xs):Lk t (xs.flatMap rwK):=by induction H with|nil=>exact Lk.nil|ws hb _ ih=>exact Lk.ws hb ih|row hx ht _ ih=>rw[vU];exact Lk.row hx ht ih
theorem Tx.ro {t xs}(H:Tx t xs):∀x∈xs,Ro x:=by induction H with|nil=>intro x h;cases h|ws _ _ ih=>exact ih|row hx _ _ ih=>intro x h;rcases uw.1 h with rfl|h;exact hx;exact ih x h
theorem Tx.parse {t xs}(H:Tx t xs):∃l j,a5B t=.ok l j/\IsL l (xs.flatMap a4o):=c3e H.lk ((Bal.rows xs).up zu)
theorem a1X:wsB (32:UInt8).toNat=true:=rfl
theorem Lk.pad (n){t ks}(H:Lk t ks):Lk (a1b [32,32] n++t) ks:=by
 induction n with
  |zero=>exact H|succ n ih=>
   have e:a1b [32,32] (n+1)++t=32::32::(a1b [32,32] n++t):=by show D7 [32,32] (a1b [32,32] n)++t=_;rw[D9];rfl
   rw[e];exact Lk.ws a1X (Lk.ws a1X ih)
theorem Tx.pad (n){t xs}(H:Tx t xs):Tx (a1b [32,32] n++t) xs:=by
 induction n with
  |zero=>exact H|succ n ih=>
   have e:a1b [32,32] (n+1)++t=32::32::(a1b [32,32] n++t):=by show D7 [32,32] (a1b [32,32] n)++t=_;rw[D9];rfl
   rw[e];exact Tx.ws a1X (Tx.ws a1X ih)
noncomputable def inT (c:UInt8)(ps:List (Nat×Row)):List UInt8:=ps.flatMap λp=>a1b [32,32] p.1++(rwT p.2++[c])
theorem c2o (c p ps t):inT c (p::ps)++t=a1b [32,32] p.1++(rwT p.2++(c::(inT c ps++t))):=by unfold inT;rw[vU];simp
theorem d4J {c:UInt8}(h:wsB c.toNat=true):sgN c.toNat=false:=by cases q:sgN c.toNat with|false=>rfl|true=>have:=(b9I q).1;rw[h]at this;cases this
theorem Tx.inT {c:UInt8}(hc:wsB c.toNat=true):∀(ps:List (Nat×Row)) {t:List UInt8} {ys:List Row},(∀p∈ps,Ro p.2)->Tx t ys->Tx (inT c ps++t) (ps.map (·.2)++ys):=by intro ps;induction ps with|nil=>intro t ys _ H;exact H|cons p ps ih=>intro t ys hp H;rw[c2o];exact Tx.pad _ (Tx.row (hp p zq) (d4J hc) (Tx.ws hc (ih (λq hq=>hp q (by simp[hq])) H)))
theorem Lk.inT {c:UInt8}(hc:wsB c.toNat=true):∀(ps:List (Nat×Row)) {t:List UInt8} {ks:List (Nat×List UInt8)},(∀p∈ps,Ro p.2)->Lk t ks->Lk (inT c ps++t) ((ps.map (·.2)).flatMap rwK++ks):=by intro ps;induction ps with|nil=>intro t ks _ H;exact H|cons p ps ih=>intro t ks hp H;rw[c2o,uy,vU,vw];exact Lk.pad _ (Lk.row (hp p zq) (d4J hc) (Lk.ws hc (ih (λq hq=>hp q (by simp[hq])) H)))
def a4D (op k v b:Nat)(lb:List (List UInt8))(its:List It):Row:=(⟨op,0,0,0,k,v,b,[],[]⟩,lb.map It.w++its)
def b0A (lb:List (List UInt8)):Prop:=lb=[]\/∃W,lb=[W]/\a0O W=true/\Wd W
def a5W (lb:List (List UInt8))(bt:List UInt8):List UInt8:=(lb.flatMap λW=>32::W)++(32::(bt++[32]))
theorem e8C (lb:List (List UInt8)):(lb.map It.w).flatMap It.b=lb.flatMap λW=>32::W:=by induction lb with|nil=>rfl|cons W lb ih=>rw[uy,vU,vU,ih];rfl
theorem c9t {k v b:Nat}{its bt}(hb:its=[]/\bt=[]\/its.flatMap It.b=32::bt)(lb):∃z,(z=[32,32]\/z=[32])/\a5W lb bt=(lb.map It.w++its).flatMap It.b++z:=by unfold a5W;rw[uM,e8C];rcases hb with⟨rfl,rfl⟩|e;exact⟨[32,32],Or.inl rfl,by rw[vw];rfl⟩;exact⟨[32],Or.inr rfl,by rw[e,vw];rfl⟩
theorem Tx.z {z t xs}(hz:z=[32,32]\/z=[32])(H:Tx t xs):Tx (z++t) xs/\a9B (z++t)=false:=by rcases hz with rfl|rfl;exact⟨Tx.ws a1X (Tx.ws a1X H),rfl⟩;exact⟨Tx.ws a1X H,rfl⟩
theorem Lk.z {z t ks}(hz:z=[32,32]\/z=[32])(H:Lk t ks):Lk (z++t) ks/\a9B (z++t)=false:=by rcases hz with rfl|rfl;exact⟨Lk.ws a1X (Lk.ws a1X H),rfl⟩;exact⟨Lk.ws a1X H,rfl⟩
theorem c4g {op k v b lb its}(ho:blkB op=true)(hk:I1 (.ofNat op)=true)(h:Bt k v b its)(hl:b0A lb):Ro (a4D op k v b lb its):=⟨.bl ho h hl,hk⟩
theorem Tx.blk {op k v b lb its bt t xs}(ho:blkB op=true)(hk:I1 (.ofNat op)=true)(h:Bt k v b its)(hl:b0A lb)(hb:its=[]/\bt=[]\/its.flatMap It.b=32::bt)(H:Tx t xs):Tx (M8 op++(a5W lb bt++t)) (a4D op k v b lb its::xs):=by obtain⟨z,hz,e⟩:=c9t (k:=k) (v:=v) (b:=b) hb lb;obtain⟨h1,h2⟩:=Tx.z hz H;have:=Tx.row (x:=a4D op k v b lb its) (c4g ho hk h hl) h2 h1;rw[e];unfold rwT a4D at this;unfold a4D;simpa using this
theorem Lk.blk {op k v b lb its bt t ks}(ho:blkB op=true)(hk:I1 (.ofNat op)=true)(h:Bt k v b its)(hl:b0A lb)(hb:its=[]/\bt=[]\/its.flatMap It.b=32::bt)(H:Lk t ks):Lk (M8 op++(a5W lb bt++t)) (rwK (a4D op k v b lb its)++ks):=by obtain⟨z,hz,e⟩:=c9t (k:=k) (v:=v) (b:=b) hb lb;obtain⟨h1,h2⟩:=Lk.z hz H;have:=Lk.row (x:=a4D op k v b lb its) (c4g ho hk h hl) h2 h1;rw[e];unfold rwT a4D at this;unfold a4D;simpa using this
end Go.Proofs.YtmomonnlmbljoaaGreatDoor
end
section
namespace Go.Proofs.YtmomonnlmbljoaaGreatDoor
open Go.V Go.RowKit Go.Shelf Go.Proofs
variable {mL:Int}
def a5Z:List UInt8:=[116,104,101,110]
def a6o (op:Nat):Row:=(aiE op,[])
def a9F:Row:=(⟨65,0,0,1,0,0,0,[],[]⟩,[.w [49]])
theorem c1t:I1 (.ofNat 2)=true:=zw
theorem c6w:I1 (.ofNat 3)=true:=zw
theorem b3u:I1 (.ofNat 4)=true:=zw
theorem c6e:I1 (.ofNat 5)=true:=zw
theorem e5k:I1 (.ofNat 11)=true:=zw
theorem b2b:I1 (.ofNat 65)=true:=zw
theorem d7n {op}(h:op=5\/op=11):Ro (a6o op):=by rcases h with rfl|rfl;exact⟨.pl (.none (show E9 (.ofNat 5)=0 by kernel_rfl)),c6e⟩;exact⟨.pl (.none (show E9 (.ofNat 11)=0 by kernel_rfl)),e5k⟩
theorem e3H:Lib.itoa (b3Q 32 1)=[49]:=by have e:b3Q 32 1=1:=zu;rw[e];unfold Lib.itoa;rw[vN zu];show Lib.decDigits 1=_;rw[c3d zu];rfl
theorem c4b:Pl a9F.1 a9F.2:=by have:=Pl.con (op:=65) (N:=1) (j:=18) (w:=32) zw (Or.inl ⟨rfl,rfl⟩) zu;rw[e3H]at this;exact this
theorem d7A:Ro a9F:=⟨.pl c4b,b2b⟩
theorem d6h:Fd a9F:=⟨c4b,b2b,zu,zu⟩
theorem d7i {op st st'}(r)(h:wst op st=some st'):wst op (st++r)=some (st'++r):=by
 unfold wst at h⊢;by_cases h1:blkB op=true;rw[vH h1]at h⊢;cases h;rfl;rw[vN h1]at h⊢;by_cases h5:op=5;rw[vH h5]at h⊢;cases st with|nil=>cases h|cons b st=>cases b with|true=>cases h;rfl|false=>cases h
 rw[vN h5]at h⊢;by_cases h11:op=11;rw[vH h11]at h⊢;cases st with|nil=>cases h|cons b st=>cases h;rfl
 rw[vN h11]at h⊢;cases h;rfl
theorem d2V:∀{ops} {st st'} (r),a2j ops st=some st'->a2j ops (st++r)=some (st'++r):=by intro ops;induction ops with|nil=>intro st st' r h;cases h;rfl|cons o ops ih=>intro st st' r h;have h':(wst o st).bind (a2j ops)=some st':=h;show(wst o (st++r)).bind (a2j ops)=_;cases e:wst o st with|none=>rw[e]at h';cases h'|some s1=>rw[e]at h';rw[d7i r e];exact ih r h'
theorem d2r:∀{a b} {st s1},a2j a st=some s1->a2j (a++b) st=a2j b s1:=by intro a;induction a with|nil=>intro b st s1 h;cases h;rfl|cons o a ih=>intro b st s1 h;have h':(wst o st).bind (a2j a)=some s1:=h;show(wst o st).bind (a2j (a++b))=_;cases e:wst o st with|none=>rw[e]at h';cases h'|some s2=>rw[e]at h';exact ih h'
section
variable {k v b:Nat}{lb:List (List UInt8)}{its:List It}{bt:List UInt8}{ps:List (Nat×Row)}
noncomputable def c1P (hd inn:List UInt8):List UInt8:=40::(M8 2++(hd++(inn++(41::40::(M8 3++(hd++(inn++(41::40::(M8 4++(hd++(40::(M8 65++(32::49::41::40::(a5Z++(32::(inn++(41::40::(M8 5++(32::(inn++(41::41::40::(M8 4++(hd++(40::(a5Z++(32::(inn++[41,41])))))))))))))))))))))))))))
noncomputable def b7O (hd inn:List UInt8):List UInt8:=M8 2++(hd++(inn++(M8 11++(32::(M8 3++(hd++(inn++(M8 11++(32::(M8 65++(32::49::32::(M8 4++(hd++(inn++(M8 5++(32::(inn++(M8 11++(32::(M8 4++(hd++(inn++M8 11))))))))))))))))))))))
noncomputable def b1Y (k v b:Nat)(lb:List (List UInt8))(its:List It)(rs:List Row):List Row:=a4D 2 k v b lb its::(rs++(a6o 11::a4D 3 k v b lb its::(rs++(a6o 11::a9F::a4D 4 k v b lb its::(rs++(a6o 5::(rs++(a6o 11::a4D 4 k v b lb its::(rs++[a6o 11])))))))))
theorem Tx.rE {op}(h:op=5\/op=11){t xs}(ht:a9B t=false)(H:Tx t xs):Tx (M8 op++t) (a6o op::xs):=by have:=Tx.row (d7n h) ht H;unfold rwT a6o at this;unfold a6o;simpa[aiE]using this
theorem Tx.rC {t xs}(ht:a9B t=false)(H:Tx t xs):Tx (M8 65++(32::49::t)) (a9F::xs):=by have:=Tx.row d7A ht H;unfold rwT a9F at this;unfold a9F;simpa[It.b]using this
theorem e0R (h:Bt k v b its)(hl:b0A lb)(hb:its=[]/\bt=[]\/its.flatMap It.b=32::bt)(hp:∀p∈ps,Ro p.2):Tx (b7O (a5W lb bt) (inT 32 ps)) (b1Y k v b lb its (ps.map (·.2))):=by
 have e11:Tx (M8 11) [a6o 11]:=by have:=Tx.rE (op:=11) (Or.inr rfl) (t:=[]) rfl Tx.nil;rwa[wH]at this
 unfold b7O b1Y;refine Tx.blk rfl c1t h hl hb (Tx.inT a1X ps hp (Tx.rE (Or.inr rfl) rfl (Tx.ws a1X ?_)));refine Tx.blk rfl c6w h hl hb (Tx.inT a1X ps hp (Tx.rE (Or.inr rfl) rfl (Tx.ws a1X (Tx.rC rfl (Tx.ws a1X ?_)))));refine Tx.blk rfl b3u h hl hb (Tx.inT a1X ps hp (Tx.rE (Or.inl rfl) rfl (Tx.ws a1X (Tx.inT a1X ps hp (Tx.rE (Or.inr rfl) rfl (Tx.ws a1X ?_))))));exact Tx.blk rfl b3u h hl hb (Tx.inT a1X ps hp e11)
theorem d9x {rs}(hw:a2j (rs.map λx=>x.1.op) []=some []):a2j ((b1Y k v b lb its rs).map λx=>x.1.op) []=some []:=by have h1:∀(x:Bool) (ops:List Nat),a2j (rs.map (λx=>x.1.op)++ops) [x]=a2j ops [x]:=λx ops=>d2r (d2V [x] hw);unfold b1Y;simp only[uy,ul,qV];show a2j (rs.map (λx=>x.1.op)++_) [false]=_;rw[h1];show a2j (rs.map (λx=>x.1.op)++_) [false]=_;rw[h1];show a2j (rs.map (λx=>x.1.op)++_) [true]=_;rw[h1];show a2j (rs.map (λx=>x.1.op)++_) [false]=_;rw[h1];show a2j (rs.map (λx=>x.1.op)++_) [true]=_;rw[h1];rfl
noncomputable def b1S (op:Nat)(lb:List (List UInt8))(its:List It):List Sp:=.w (M8 op)::(lb.map It.w++its).map It.s
noncomputable def c7T (lb:List (List UInt8))(its:List It)(rs:List Row):List Sp:=[.l (b1S 2 lb its++rs.flatMap a4o),.l (b1S 3 lb its++rs.flatMap a4o),.l (b1S 4 lb its++[.l [.w (M8 65),.w [49]],.l (.w a5Z::rs.flatMap a4o),.l (.w (M8 5)::rs.flatMap a4o)]),.l (b1S 4 lb its++[.l (.w a5Z::rs.flatMap a4o)])]
theorem e1n (h:Bt k v b its)(hl:b0A lb)(hb:its=[]/\bt=[]\/its.flatMap It.b=32::bt)(hp:∀p∈ps,Ro p.2):∃ks,Lk (c1P (a5W lb bt) (inT 32 ps)) ks/\Bal 200 ks (c7T lb its (ps.map (·.2))):=by
 have hth:a5Z≠[]/\a5Z.all (λb=>sgN b.toNat)=true:=⟨by unfold a5Z;simp,zw⟩;have wd:∀{op:Nat} {t:List UInt8} {ks},I1 (.ofNat op)=true->a9B t=false->Lk t ks->Lk (M8 op++t) ((2,M8 op)::ks):=λhk ht H=>Lk.wd (a4q hk).ne (a4q hk).sg ht H;have i:=λ{t:List UInt8} {ks} (H:Lk t ks)=>Lk.inT a1X ps hp H;have n59:∀{op:Nat} {t:List UInt8},I1 (.ofNat op)=true->(M8 op++t).head?≠some 59:=λ{op t} hk e=>by have nm:=a4q hk;cases hn:M8 op with|nil=>exact nm.ne hn|cons c w=>have s:=nm.sg;rw[hn]at e s;have:c=59:=zb;rw[qh,wK]at s;exact(b9I s.1).2.1 this
 have t4:=Lk.op (n59 b3u) (Lk.blk (op:=4) (k:=k) (v:=v) (b:=b) rfl b3u h hl hb (Lk.op (by simp[a5Z]) (Lk.wd hth.1 hth.2 (t:=32::(inT 32 ps++[41,41])) rfl (Lk.ws a1X (i (Lk.cl (Lk.cl Lk.nil)))))));have t3:=Lk.op (n59 b3u) (Lk.blk (op:=4) (k:=k) (v:=v) (b:=b) rfl b3u h hl hb (Lk.op (n59 b2b) (wd b2b rfl (Lk.ws a1X (Lk.wd (W:=[49]) zq zw rfl (Lk.cl (Lk.op (by simp[a5Z]) (Lk.wd hth.1 hth.2 rfl (Lk.ws a1X (i (Lk.cl (Lk.op (n59 c6e) (wd c6e rfl (Lk.ws a1X (i (Lk.cl (Lk.cl t4)))))))))))))))));have t2:=Lk.op (n59 c6w) (Lk.blk (op:=3) (k:=k) (v:=v) (b:=b) rfl c6w h hl hb (i (Lk.cl t3)));have t1:=Lk.op (n59 c1t) (Lk.blk (op:=2) (k:=k) (v:=v) (b:=b) rfl c1t h hl hb (i (Lk.cl t2)));refine⟨_,t1,?_⟩;have br:=Bal.rows (ps.map (·.2));have bh:∀op,Bal 1 (rwK (a4D op k v b lb its)) (b1S op lb its):=λop=>Bal.row (a4D op k v b lb its);have bth:Bal 3 ((2,a5Z)::(ps.map (·.2)).flatMap rwK) (.w a5Z::(ps.map (·.2)).flatMap a4o):=.w (br.up zu);have bel:Bal 3 ((2,M8 5)::(ps.map (·.2)).flatMap rwK) (.w (M8 5)::(ps.map (·.2)).flatMap a4o):=.w (br.up zu);have bc:Bal 3 [(2,M8 65),(2,[49])] [.w (M8 65),.w [49]]:=.w (.w .nil);have b4:=Bal.l ((bh 4).up (show 1<=4 by decide)|>.app (Bal.l bth Bal.nil)) (Bal.nil (d:=5));have b3:=Bal.l ((bh 4).up (show 1<=4 by decide)|>.app (Bal.l bc (Bal.l bth (Bal.l bel Bal.nil)))) b4;have b2:=Bal.l ((bh 3).up (show 1<=4 by decide)|>.app (br.up (show 1<=4 by decide))) b3;have b1:=Bal.l ((bh 2).up (show 1<=4 by decide)|>.app (br.up (show 1<=4 by decide))) b2;have:=b1.up (show 5<=200 by decide);unfold c7T;simpa using this
end
end Go.Proofs.YtmomonnlmbljoaaGreatDoor
end
section
namespace Go.Proofs.YtmomonnlmbljoaaGreatDoor
open Go.V Go.RowKit Go.Shelf Go.Proofs
variable {mL:Int}
theorem d3i {rs:List Row}(hr:∀x∈rs,Ro x){t}(h:IsL t (rs.flatMap a4o)):Fol t:=by cases rs with|nil=>cases h;exact Fol.nil|cons y ys=>rw[vU]at h;cases h with|cons c1 c2=>exact d0E (hr y zq).kn c1
theorem d0e {n W xs u}(hn:Is n (.l (.w W::xs)))(h1:beqBytes W [114,101,115,117,108,116]=false)(h2:beqBytes W [116,121,112,101]=false):Fol (n::u):=by obtain⟨a1,a2,a3⟩:=hn.ls;intro m v e;cases e;cases hl:n.l with|nil=>rw[hl]at a3;cases a3|cons c d=>rw[hl]at a3;cases a3 with|cons k1 k2=>obtain⟨j1,j2,j3⟩:=k1.wd;refine⟨?_,?_,?_,?_,?_,?_⟩;rw[a1];rfl;rw[a1];rfl;rw[a1];rfl;rw[a1];rfl;rw[a1,hl];show(decide ((0:Nat)=0)&&(decide (c.k=2)&&beqBytes c.t _))=false;rw[j2,h1];simp;rw[a1,hl];show(decide ((0:Nat)=0)&&(decide (c.k=2)&&beqBytes c.t _))=false;rw[j2,h2];simp
theorem b5K {n W V xs}(hn:Is n (.l (.w W::xs))):a0A n.k (a0V n.l) V=beqBytes W V:=by obtain⟨a1,a2,a3⟩:=hn.ls;cases hl:n.l with|nil=>rw[hl]at a3;cases a3|cons c d=>rw[hl]at a3;cases a3 with|cons k1 k2=>obtain⟨j1,j2,j3⟩:=k1.wd;rw[a1];show(decide ((0:Nat)=0)&&(decide (c.k=2)&&beqBytes c.t _))=_;rw[j2,j1];rfl
section
variable {F:Nat->List (Value×Value)}{L:List (List UInt8)}{k v b:Nat}{lb:List (List UInt8)}{its:List It}{rs:List Row}
theorem b3H {op n x ys}(ho:blkB op=true)(hk:I1 (.ofNat op)=true)(h:Bt k v b its)(hl:b0A lb)(hx:Is x (.l (b1S op lb its++ys)))(hf:∀t,IsL t ys->Fol t):∃w nm t,IsL t ys/\I9 F (n+1) L x=bcase (decide (op=2)||decide (op=3)) (a6T (a0k (I9 F n) F (L++[nm])) ⟨op,0,0,0,k,v,b,[],[]⟩ t) (bcase (decide (op=4)) (ifS (I9 F n L) (a0k (I9 F n) F (L++[nm])) w ⟨op,0,0,0,k,v,b,[],[]⟩ t []) (a6Y (I9 F n L) ⟨op,0,0,0,k,v,b,[],[]⟩ t)):=by
 obtain⟨a1,a2,a3⟩:=hx.ls;obtain⟨n1,t,e,b1,b2⟩:=a3.split;have nm:=a4q hk;cases b1 with
  | @cons w _ ns _ c1 c2=>
   obtain⟨w1,w2,w3⟩:=c1.wd;have hd:x.l.drop 0=w::(ns++t):=e;have hop:op≠5/\op≠11:=by unfold blkB at ho;simp only[sK,vZ]at ho;omega
   obtain⟨nm',nx,e1,e2⟩:=c1v (F:=F) (L:=L) ho hk h (hl.imp id λ⟨W,e,k,_⟩=>⟨W,e,k⟩) w2 hd c2 (hf t b2);refine⟨w.p,nm',t,b2,?_⟩;have hl2:x.l=w::(ns++t):=e;have e0:I9 F (n+1) L x=bcase (decide (w.k=2)) (bcase (a3X w.t||isEn w.t) (.er w.p 16) (match a1v F L x.l 0 w with|.er p e=>.er p e|.ok X nm nx=>bcase (decide (X.op=2)||decide (X.op=3)) (a6T (a0k (I9 F n) F (L++[nm])) X (x.l.drop nx)) (bcase (decide (X.op=4)) (ifS (I9 F n L) (a0k (I9 F n) F (L++[nm])) w.p X (x.l.drop nx) []) (a6Y (I9 F n L) X (x.l.drop nx))))) (.er x.p 4):=by show(match x.l with|[]=>_|w::_=>_)=_;rw[hl2];rfl
   rw[e0,e1];show bcase (decide (w.k=2)) (bcase (a3X w.t||isEn w.t) _ (bcase _ (a6T _ _ (x.l.drop nx)) (bcase _ (ifS _ _ _ _ (x.l.drop nx) _) (a6Y _ _ (x.l.drop nx))))) _=_;rw[w1,w2,nm.el,nm.en,X9 hop.1,X9 hop.2,e2];rfl
theorem c2e {op n x}(ho:op=2\/op=3)(h:Bt k v b its)(hl:b0A lb)(hr:∀x∈rs,Ro x)(hw:a2j (rs.map λx=>x.1.op) []=some [])(hx:Is x (.l (b1S op lb its++rs.flatMap a4o))):I9 F (n+1) L x=.ok (((a4D op k v b lb its::rs)++[a6o 11]).map (·.1)):=by
 have hk:I1 (.ofNat op)=true:=ho.elim (λe=>e▸c1t) λe=>e▸c6w;have hb:blkB op=true:=by rcases ho with rfl|rfl<;>rfl
 obtain⟨w,nm,t,h1,e⟩:=b3H (F:=F) (L:=L) (n:=n) hb hk h hl hx λt ht=>d3i hr ht;have e2:(decide (op=2)||decide (op=3))=true:=by rcases ho with rfl|rfl<;>rfl
 rw[e,e2,A9];unfold a6T;rw[b0H hr h1 hw];show Ps.ok ([(⟨op,0,0,0,k,v,b,[],[]⟩:AI)]++rs.map (·.1)++[aiE 11])=_;simp[a4D,a6o]
theorem b3n {n W ys}(hn:Is n (.l (.w W::ys))):IsL n.l.tail ys:=by obtain⟨a1,a2,a3⟩:=hn.ls;cases hl:n.l with|nil=>rw[hl]at a3;cases a3|cons c d=>rw[hl]at a3;cases a3 with|cons k1 k2=>exact k2
theorem d3L {n x}(h:Bt k v b its)(hl:b0A lb)(hr:∀x∈rs,Ro x)(hw:a2j (rs.map λx=>x.1.op) []=some [])(hx:Is x (.l (b1S 4 lb its++[.l (.w a5Z::rs.flatMap a4o)]))):I9 F (n+1) L x=.ok (((a4D 4 k v b lb its::rs)++[a6o 11]).map (·.1)):=by
 obtain⟨w,nm,t,h1,e⟩:=b3H (F:=F) (L:=L) (n:=n) rfl b3u h hl hx λt ht=>by obtain⟨m,rfl,hm⟩:=ht.one;exact d0e hm rfl rfl
 obtain⟨m,rfl,hm⟩:=h1.one;rw[e];show ifS _ _ w _ [m] []=_;show bcase (a0A m.k (a0V m.l) _) (match a0k (I9 F n) F (L++[nm]) m.l.tail with|.ok T1=>b4g _ _ []|.er p e=>Ps.er p e) _=_;rw[b5K hm,b0H hr (b3n hm) hw];show Ps.ok ([]++[(⟨4,0,0,0,k,v,b,[],[]⟩:AI)]++rs.map (·.1)++[aiE 11])=_;simp[a4D,a6o]
theorem d3k {n x}(h:Bt k v b its)(hl:b0A lb)(hr:∀x∈rs,Ro x)(hw:a2j (rs.map λx=>x.1.op) []=some [])(hx:Is x (.l (b1S 4 lb its++[.l [.w (M8 65),.w [49]],.l (.w a5Z::rs.flatMap a4o),.l (.w (M8 5)::rs.flatMap a4o)]))):I9 F (n+2) L x=.ok (((a9F::a4D 4 k v b lb its::rs)++(a6o 5::(rs++[a6o 11]))).map (·.1)):=by
 obtain⟨w,nm,t,h1,e⟩:=b3H (F:=F) (L:=L) (n:=n+1) rfl b3u h hl hx λt ht=>by cases ht with|cons a b=>exact d0e a (a4q b2b).re (a4q b2b).ty
 cases h1 with| @cons c _ _ _ hc h2=>cases h2 with| @cons m _ _ _ hm h3=>obtain⟨z,rfl,hz⟩:=h3.one;rw[e];have fc:I9 F (n+1) L c=.ok [a9F.1]:=c8T F L [] a9F (n+1) c (λy hy=>by rw[vW]at hy;subst hy;exact d6h) hc (qz n);show ifS _ _ w _ [c,m,z] []=_;show bcase (a0A c.k (a0V c.l) _) _ (bcase (decide (c.k=0)) (match I9 F (n+1) L c with|.ok T1=>ifS _ _ w _ [m,z] ([]++T1)|.er p e=>Ps.er p e) _)=_;rw[b5K hc,(a4q b2b).th,hc.ls.1,fc];show bcase (a0A m.k (a0V m.l) _) (match a0k (I9 F (n+1)) F (L++[nm]) m.l.tail with|.ok T1=>b4g _ _ [z]|.er p e=>Ps.er p e) _=_;rw[b5K hm,b0H hr (b3n hm) hw];show bcase (a0A z.k (a0V z.l) _) (match a0k (I9 F (n+1)) F (L++[nm]) z.l.tail with|.ok T2=>_|.er p e=>Ps.er p e) _=_;have e5:beqBytes (M8 5) [101,108,115,101]=true:=(a4q c6e).el;rw[b5K hz,e5,b0H hr (b3n hz) hw];show Ps.ok ([]++[a9F.1]++[(⟨4,0,0,0,k,v,b,[],[]⟩:AI)]++rs.map (·.1)++[aiE 5]++rs.map (·.1)++[aiE 11])=_;simp[a4D,a6o]
theorem d6z {n l}(h:Bt k v b its)(hl:b0A lb)(hr:∀x∈rs,Ro x)(hw:a2j (rs.map λx=>x.1.op) []=some [])(hx:IsL l (c7T lb its rs)):a0k (I9 F (n+2)) F L l=.ok ((b1Y k v b lb its rs).map (·.1)):=by
 cases hx with
  | @cons x1 _ _ _ h1 hx=>
   cases hx with
    | @cons x2 _ _ _ h2 hx=>
     cases hx with
      | @cons x3 _ _ _ h3 hx=>
       obtain⟨x4,rfl,h4⟩:=hx.one;have f1:=c2e (F:=F) (L:=L) (n:=n+1) (Or.inl rfl) h hl hr hw h1;have f2:=c2e (F:=F) (L:=L) (n:=n+1) (Or.inr rfl) h hl hr hw h2;have f3:=d3k (F:=F) (L:=L) (n:=n) h hl hr hw h3;have f4:=d3L (F:=F) (L:=L) (n:=n+1) h hl hr hw h4;have row:∀(k i:Nat) (l:List Nd) (x:Nd) (T R:List AI),l[i]?=some x->x.k=0->I9 F (n+2) L x=.ok R->a3q (I9 F (n+2)) F l (k+1) i [] L T=a3q (I9 F (n+2)) F l k (i+1) [] L (T++R):=by intro k i l x T R e1 e2 e3;show(match l[i]? with|none=>_|some n=>_)=_;rw[e1];show bcase (decide (x.k=0)) (match I9 F (n+2) L x with|.ok T1=>_|.er p e=>Ps.er p e) _=_;rw[e2,e3];rfl
       unfold a0k;show a3q _ F [x1,x2,x3,x4] 5 0 [] L []=_;rw[row 4 0 _ x1 _ _ rfl h1.ls.1 f1,row 3 1 _ x2 _ _ rfl h2.ls.1 f2,row 2 2 _ x3 _ _ rfl h3.ls.1 f3,row 1 3 _ x4 _ _ rfl h4.ls.1 f4];show Ps.ok _=_;simp[b1Y]
end
end Go.Proofs.YtmomonnlmbljoaaGreatDoor
end
section
namespace Go.Proofs.YtmomonnlmbljoaaGreatDoor
open Go.V Go.RowKit Go.Shelf Go.Proofs
variable {mL:Int}
attribute [local congr] y7 x9 A8 A7 D5 z8 E5 G8 G7
theorem e7a (m n v):a7L tab 90 (.map (some m)) (.int .i64 n) v=M.bind (a7d m) λes=>M.obind (a1i (.int .i64 n) es) λ_=>fList (a5n (.int .i64 n) v es) λes'=>wr m (.map es'):=zw
theorem d2h {m c h r w es n v x}(hm:m<c)(e:h.get m=some (.map es))(hf:a1i (.int .i64 n) es=some x):go (c7x tab 90 (.map (some m)) (.int .i64 n) v) ⟨c,h,r,w⟩=some (undef,⟨c,V.upd h m (.map (a5n (.int .i64 n) v es)),m::r,m::w⟩):=by unfold c7x;rw[e7a,J8,J8,b0m m c h r w es hm e,J3,hf,E8,Z6];show R8 (wr m _ ⟨c,h,m::r,w⟩) _=_;rw[b2N,I7 hm,e];rfl
theorem c4R (c h r w):go c7z ⟨c,h,r,w⟩=some (.map (some c),⟨c+1,V.upd h c (.map []),r,c::w⟩):=by unfold c7z;rw[J8];show R8 (new _ _) _=_;rw[c4N];rfl
noncomputable def esN (c:Nat):Nat->List (Value×Value)|0=>[]|i+1=>a5n (.int .i64 (.ofNat i)) (.pointer (some ⟨c+3+2*i,0,some 0⟩)) (esN c i)
theorem b2m (a b):a1q (.int .i64 (.ofNat a)) (.int .i64 (.ofNat b))=some (decide (a=b)):=by have e:a1q (.int .i64 (.ofNat a)) (.int .i64 (.ofNat b))=some (decide (Int.ofNat a=Int.ofNat b)):=rfl;rw[e,di]
theorem d2O (k j v):∀es,(∀e∈es,∃n,e.1=.int .i64 (.ofNat n))->a1i (.int .i64 (.ofNat k)) (a5n (.int .i64 (.ofNat j)) v es)=bcase (decide (k=j)) (some (some v)) (a1i (.int .i64 (.ofNat k)) es):=by
 intro es;induction es with
  |nil=>intro _;show(match a1q (.int .i64 (.ofNat k)) (.int .i64 (.ofNat j))with|none=>none|some true=>some (some v)|some false=>some none)=_;rw[b2m];cases decide (k=j)<;>rfl|cons e es ih=>
   intro h;obtain⟨n,hn⟩:=h e zq;obtain⟨e1,e2⟩:=e;simp only at hn;subst hn;have hih:=ih λe he=>h e (vI _ he);have e0:a5n (.int .i64 (.ofNat j)) v ((.int .i64 (.ofNat n),e2)::es)=(match a1q (.int .i64 (.ofNat j)) (.int .i64 (.ofNat n))with|some true=>(.int .i64 (.ofNat j),v)::es|_=>(.int .i64 (.ofNat n),e2)::a5n (.int .i64 (.ofNat j)) v es):=rfl;rw[e0,b2m];have e3:∀(q:Nat) (x:Value) (l:List (Value×Value)),a1i (.int .i64 (.ofNat k)) ((.int .i64 (.ofNat q),x)::l)=bcase (decide (k=q)) (some (some x)) (a1i (.int .i64 (.ofNat k)) l):=λq x l=>by show(match a1q (.int .i64 (.ofNat k)) (.int .i64 (.ofNat q))with|none=>none|some true=>some (some x)|some false=>a1i (.int .i64 (.ofNat k)) l)=_;rw[b2m];cases decide (k=q)<;>rfl
   by_cases h1:j=n;subst h1;rw[wL rfl];show a1i _ ((.int .i64 (.ofNat j),v)::es)=_;rw[e3,e3];by_cases h2:k=j;rw[wL h2];rfl;rw[wP h2];rfl;rw[wP h1];show a1i _ ((.int .i64 (.ofNat n),e2)::a5n _ v es)=_;rw[e3,e3,hih];by_cases h2:k=j;rw[wL h2,wP (show¬k=n by omega)];rfl;rw[wP h2];rfl
theorem d1m (j v):∀es,(∀e∈es,∃n,e.1=.int .i64 (.ofNat n))->∀e∈a5n (.int .i64 (.ofNat j)) v es,∃n,e.1=.int .i64 (.ofNat n):=by intro es;induction es with|nil=>intro _ e he;have:e=(.int .i64 (.ofNat j),v):=vW.1 he;rw[this];exact⟨j,rfl⟩|cons x es ih=>intro h e he;obtain⟨n,hn⟩:=h x zq;obtain⟨x1,x2⟩:=x;simp only at hn;subst hn;have e0:a5n (.int .i64 (.ofNat j)) v ((.int .i64 (.ofNat n),x2)::es)=(match a1q (.int .i64 (.ofNat j)) (.int .i64 (.ofNat n))with|some true=>(.int .i64 (.ofNat j),v)::es|_=>(.int .i64 (.ofNat n),x2)::a5n (.int .i64 (.ofNat j)) v es):=rfl;rw[e0,b2m]at he;cases q:decide (j=n)with|true=>rw[q]at he;rcases uw.1 he with k|k;rw[k];exact⟨j,rfl⟩;exact h e (vI _ k)|false=>rw[q]at he;rcases uw.1 he with k|k;rw[k];exact⟨n,rfl⟩;exact ih (λe he=>h e (vI _ he)) e k
theorem d2A (c):∀i,∀e∈esN c i,∃n,e.1=.int .i64 (.ofNat n):=by intro i;induction i with|zero=>intro e he;cases he|succ i ih=>exact d1m i _ _ ih
theorem c0Y (c k):∀i,a1i (.int .i64 (.ofNat k)) (esN c i)=bcase (decide (k<i)) (some (some (.pointer (some ⟨c+3+2*k,0,some 0⟩)))) (some none):=by intro i;induction i with|zero=>rfl|succ i ih=>show a1i _ (a5n _ _ (esN c i))=_;rw[d2O k i _ _ (d2A c i),ih];by_cases h1:k=i;subst h1;rw[wL rfl,wL (wE k)];rfl;rw[wP h1];by_cases h2:k<i;rw[wL h2,wL (show k<i+1 by omega)];rfl;rw[wP h2,wP (show¬k<i+1 by omega)];rfl
structure NI (c0:Nat) (h0:Trie VObj) (i c:Nat) (h:Trie VObj):Prop where
 c:c=c0+2+2 * i
 fr:∀ j,j<c0→h.get j=h0.get j
 m:h.get c0=some (.map (esN c0 i))
 s:h.get (c0+1)=some (.cells [(.map (some c0), 0),(.slice none 0 0, 0)] 0 false)
 k:∀ j,j<i→h.get (c0+2+2 * j)=some (.map [])∧h.get (c0+3+2 * j)=some (.cells [(.int .i64 (.ofNat 0), 0),(.slice none 0 0, 0),(.map (some (c0+2+2 * j)), 0)] 0 false)
theorem e6r (n):o8 D8 (n+1) 21 []=c6P o9 NN (o8 D8 n):=e9M (q:=c6P) (N:=NN) zw n
section
variable {c0:Nat}{h0:Trie VObj}
theorem n21 (call):∀(k e i c) (h) (xs) (r w),i+k=9->NI c0 h0 i c h->C9 xs 12=.int .i64 (.ofNat i)->l9 (go (U4 (d4K o9 NN call (.pointer (some ⟨c0+1,0,some 0⟩))) (k+1+e) xs) ⟨c,h,r,w⟩) λy s=>∃xs',y=(.exit 0,xs')/\NI c0 h0 9 s.c s.h:=by
 intro k;induction k with
  |zero=>intro e i c h xs r w hi H h1;rw[vY 0 1 e,Y5];have:i=9:=zy;subst this;have e0:decide (9<9)=false:=rfl;simp(disch:=try exact dz)only[e2V,h1,dL,↓gP,gY,gT,Nat.reduceLT];exact l9.done ⟨_,rfl,H⟩|succ k ih=>
   intro e i c h xs r w hi H h1;rw[vY (k+1) 1 e,Y5];have e0:decide (i<9)=true:=wL zy;have hinc:=J6 i zy;obtain⟨hc,hfr,hm,hs,hk⟩:=H;have b1:c0+1<c:=zy;have b2:c0+1≠c:=zy;have b3:c0+1≠c+1:=zy;have b4:c0≠c:=zy;have b5:c0≠c+1:=zy;have b6:c0≠c0+1:=zy;have hf:a1i (.int .i64 (.ofNat i)) (esN c0 i)=some none:=by rw[c0Y,wP (uZ i)];rfl
   have hfill:a6X [(2,1)] [.map (some c)] [.int .i64 (.ofNat 0),.slice none 0 0,.map none]=some [.int .i64 (.ofNat 0),.slice none 0 0,.map (some c)]:=rfl;have hone:(J2 O4 [.int .i64 (.ofNat 0),.slice none 0 0,.map (some c)]&& !(a2C [Value.int .i64 (.ofNat 0),.slice none 0 0,.map (some c)]))=true:=rfl;have hup2:=λ(h':Trie VObj) (r w:List Nat)=>a4p (c+1) h' r w [Value.int .i64 (.ofNat 0),.slice none 0 0,.map (some c)] hone;simp(disch:=try exact dz)only[e2V,h1,dL,e0,hs,c4R,hinc,hfill,E8,hup2,a3B,a4x,↓gP,gY];rw[d2h (es:=esN c0 i) (x:=none) zy (by rw[d9 b5,d9 b4];exact hm) hf,J3];simp(disch:=try exact dz)only[↓gP,gY];refine ih e (i+1) (c+1+1) _ _ _ _ zy ⟨zy,λj hj=>?_,?_,?_,λj hj=>?_⟩ rfl;have k1:j≠c:=zy;have k2:j≠c+1:=zy;have k3:j≠c0:=zy;simp(disch:=first|assumption|omega)only[d9];exact hfr j hj;rw[o7];have e1:c+1=c0+3+2*i:=zy;rw[e1];rfl;have k3:c0+1≠c0:=zy;simp(disch:=first|assumption|omega)only[d9];exact hs;rcases ui j i with k|k;obtain⟨g1,g2⟩:=hk j k;have k1:c0+2+2*j≠c:=zy;have k2:c0+2+2*j≠c+1:=zy;have k3:c0+2+2*j≠c0:=zy;have k4:c0+3+2*j≠c:=zy;have k5:c0+3+2*j≠c+1:=zy;have k6:c0+3+2*j≠c0:=zy;simp(disch:=first|assumption|omega)only[d9];exact⟨g1,g2⟩;have:j=i:=zy;subst this;have e1:c0+3+2*j=c+1:=zy;have e2:c0+2+2*j=c:=zy;rw[e1,e2];have k1:c≠c+1:=zy;have k2:c≠c0:=zy;have k3:c+1≠c0:=zy;simp(disch:=first|assumption|omega)only[d9,o7];exact⟨trivial,trivial⟩
theorem t21 (m r w):l9 (go (o8 D8 (m+1) 21 []) ⟨c0,h0,r,w⟩) λx s=>x=.ret (.pointer (some ⟨c0+1,0,some 0⟩))/\c0+1<s.c/\(∀i,i<c0->s.h.get i=h0.get i)/\ScS (c0+1) c0 (λ_=>[]) [] s.c s.h ⟨none,0,0⟩ (λi=>i<s.c/\i≠c0+1):=by
 have hNN:900001<=NN:=zu;obtain⟨e,hNe⟩:∃e,NN=9+1+e:=⟨NN-10,zy⟩;have hfill:a6X [(0,1)] [.map (some c0)] [.map none,.slice none 0 0]=some [.map (some c0),.slice none 0 0]:=rfl;have hone:(J2 O4 [.map (some c0),.slice none 0 0]&& !(a2C [Value.map (some c0),.slice none 0 0]))=true:=rfl;have hbx:=λ(h':Trie VObj) (r w:List Nat)=>a4p (c0+1) h' r w [Value.map (some c0),.slice none 0 0] hone;rw[e6r];simp(disch:=try exact dz)only[G21,c4R,hfill,E8,hbx,a3B,a4x,↓gP,gY];have H0:NI c0 h0 0 (c0+1+1) (V.upd (V.upd h0 c0 (.map [])) (c0+1) (.cells [(.map (some c0),0),(.slice none 0 0,0)] 0 false)):=by have k1:c0≠c0+1:=zy;refine⟨zy,λj hj=>?_,?_,o7 _ _ _,λj hj=>zy⟩;have k2:j≠c0:=zy;have k3:j≠c0+1:=zy;simp(disch:=first|assumption|omega)only[d9];rw[d9 k1,o7];rfl
 have hloop:=n21 (o8 D8 m) 9 e 0 (c0+1+1) _ [undef,undef,undef,undef,undef,undef,undef,undef,undef,undef,undef,undef,.int .i64 (.ofNat 0)] r ((c0+1)::c0::w) rfl H0 rfl;rw[<-hNe]at hloop;refine l9.bindJ hloop λy xs' s hq=>?_;obtain⟨c',h',r',w'⟩:=s;obtain⟨xs1,f1,H⟩:=hq;cases f1;obtain⟨hc,hfr,hm,hs,hk⟩:=H;simp only at hc hfr hm hs hk;simp(disch:=try exact dz)only[a3r,↓gP,gY];refine l9.done ⟨rfl,zV,hfr,zV,hs,X4.nil _ _ _,λi hi=>(by obtain⟨a,h,_⟩:=hi;cases h),⟨⟨zV,zy⟩,⟨esN c0 9,hm,λk hk9=>?_⟩,λk hk T=>Or.inr rfl⟩,λi hi=>⟨hi.1,hi.2,λho=>(by obtain⟨a,h,_⟩:=ho;cases h)⟩⟩;obtain⟨g1,g2⟩:=hk k hk9;refine⟨c0+3+2*k,0,0,_,0,false,_,_,c0+2+2*k,?_,⟨zV,zy⟩,g2,rfl,⟨zV,zy⟩,g1⟩;rw[c0Y,wL hk9];rfl
end
end Go.Proofs.YtmomonnlmbljoaaGreatDoor
end
section
namespace Go.Proofs.YtmomonnlmbljoaaGreatDoor
open Go.V Go.RowKit Go.Shelf Go.Proofs
variable {mL:Int}
attribute [local congr] y7 x9 A8 A7 D5 z8 E5 G8 G7
theorem ScS.mono {sb m F L c c' h h' u U}(H:ScS sb m F L c h u U)(hc:c<=c')(hs:∀i,i<c->h'.get i=h.get i):ScS sb m F L c' h' u (λi=>U i\/c<=i/\i<c'):=⟨wD H.s hc,(hs _ H.s).trans H.hs,H.la.mono hc λb k _=>hs b k,H.lo,H.sc.mono λi hi=>⟨Or.inl hi,hs i (H.u i hi).1⟩,λi hi=>by rcases hi with k|⟨k1,k2⟩;exact⟨wD (H.u i k).1 hc,(H.u i k).2⟩;have:=H.s;exact⟨k2,zy,λho=>by have:=H.la.own_lt ho;omega⟩⟩
theorem e6E (n a b):o8 D8 (n+1) 20 [a,b]=c6X o9 NN (o8 D8 n) a b:=a2h (q:=c6X) (N:=NN) zw n a b
def e9X (sb mm:Nat)(F:Nat->List (Value×Value))(L:List (List UInt8))(T:List UInt8)(c:Nat)(h:Trie VObj)(U:Nat->Prop)(x:CR)(s:V.S):Prop:=c<=s.c/\(∀i,U i->s.h.get i=h.get i)/\(∃la' U',ScS sb mm F L s.c s.h la' U'/\∀i,U i->U' i)/\((∃p e,a5B T=.er p e/\x=.ret (.tuple ⟨[.slice none 0 0,.int .i64 (.ofNat 0),.int .i64 (.ofNat e),.bool false]⟩))\/(∃l j,a5B T=.ok l j/\zs l<=4*(T.length+1)/\((∃X u Rs U',a0k (I9 F (zs l)) F L l=.ok X/\x=.ret (.tuple ⟨[.slice u.a u.n u.e,.int .i64 (.ofNat 0),.int .i64 (.ofNat 0),.bool true]⟩)/\X4 9 s.c s.h u (Rs.flatMap a2y)/\RIs U' s.h Rs X/\(∀i,U' i->i<s.c)/\X.length<=zs l)\/(∃p e,a0k (I9 F (zs l)) F L l=.er p e/\x=.ret (.tuple ⟨[.slice none 0 0,.int .i64 (.ofNat p),.int .i64 (.ofNat e),.bool true]⟩)))))
theorem t20 {sb mm F L T c h la U}(H:ScS sb mm F L c h la U)(hT:T.length<190000)(hL:L.length<100)(M)(hM:3000000<=M)(r w):l9 (go (o8 D8 (M+1) 20 [.string ⟨⟨T⟩⟩,.pointer (some ⟨sb,0,some 0⟩)]) ⟨c,h,r,w⟩) (e9X sb mm F L T c h U):=by rw[e6E];simp(disch:=try exact dz)only[G20,↓gP];obtain⟨M1,rfl⟩:∃k,M=k+1:=⟨M-1,zy⟩;refine l9.bindC (t27 zy M1 zy c h _ _) λx s hq=>?_;obtain⟨c1,h1,r1,w1⟩:=s;obtain⟨f1,f2,⟨l,j,v,f3,rfl,f4,f5⟩|⟨p,e,f3,f4,rfl⟩⟩:=hq;have f1:c<=c1:=f1;simp(disch:=try exact dz)only[↓gP,gY,gT];have hcopy:=d8Y (zs l) (M1+1-(zs l+1)) _ v l c1 h1 r1 w1 f4 (λi hi=>hi.2) (wQ _);have e1:M1+1-(zs l+1)+zs l+1=M1+1:=zy;rw[e1]at hcopy;refine l9.bindC hcopy λx s hq=>?_;obtain⟨c2,h2,r2,w2⟩:=s;obtain⟨g1,g2,g3,v2,rfl,g4⟩:=hq;have g1:c1<=c2:=g1;simp(disch:=try exact dz)only[↓gP,gY];have H2:=H.mono (c':=c2) (h':=h2) zy λi hi=>(g2 i zy).trans (f2 i hi);have hp:=t29 H2 (g4.mono λb k=>⟨Or.inr ⟨by have:=k.1;omega,k.2⟩,rfl⟩) (wQ _) zy (M1+1-(3*zs l+14)) r2 w2;have e2:M1+1-(3*zs l+14)+3*zs l+14=M1+1:=zy;rw[e2]at hp;refine l9.bindC hp λx s hq=>?_;obtain⟨c3,h3,r3,w3⟩:=s;obtain⟨k1,k2,⟨la',U',k3,k4⟩,hor⟩:=hq;have k1:c2<=c3:=k1;have kfr:∀i,U i->h3.get i=h.get i:=λi hi=>(k2 i (Or.inl hi)).trans ((g2 i (by have:=(H.u i hi).1;omega)).trans (f2 i (H.u i hi).1));rcases hor with⟨X,u,Rs,U2,j1,rfl,j2,j3,j5,j4⟩|⟨p,e,j1,rfl⟩;simp(disch:=try exact dz)only[↓gP,gY];refine l9.done ⟨zV,kfr,⟨la',U',k3,λi hi=>k4 i (Or.inl hi)⟩,Or.inr ⟨l,j,f3,f5,Or.inl ⟨X,u,Rs,U2,j1,rfl,j2,j3,j5,j4⟩⟩⟩;simp(disch:=try exact dz)only[↓gP,gY];refine l9.done ⟨zV,kfr,⟨la',U',k3,λi hi=>k4 i (Or.inl hi)⟩,Or.inr ⟨l,j,f3,f5,Or.inr ⟨p,e,j1,rfl⟩⟩⟩;have q8:decide (e=0)=false:=wP f4;simp(disch:=try exact dz)only[di,q8,↓gP,gY,gT];have f1:c<=c1:=f1;exact l9.done ⟨f1,λi hi=>f2 i (H.u i hi).1,⟨la,_,H.mono f1 f2,λi hi=>Or.inl hi⟩,Or.inl ⟨p,e,f3,rfl⟩⟩
end Go.Proofs.YtmomonnlmbljoaaGreatDoor
end
