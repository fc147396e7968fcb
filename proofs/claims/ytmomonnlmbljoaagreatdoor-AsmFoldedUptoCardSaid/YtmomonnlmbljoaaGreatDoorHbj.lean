import Derived.Test.YtmomonnlmbljoaaGreatDoorHbi
set_option maxRecDepth 1000000
set_option maxHeartbeats 4000000
set_option linter.unusedVariables false
set_option linter.unusedSimpArgs false
section
namespace Go.Proofs.YtmomonnlmbljoaaGreatDoor
open Go.V Go.RowKit Go.Shelf Go.Proofs
variable {mL:Int}
theorem Is.wd {n W}(h:Is n (.w W)):n.k=2/\n.t=W/\n.l=[]:=by cases h;exact⟨rfl,rfl,rfl⟩
theorem Is.ls {n xs}(h:Is n (.l xs)):n.k=0/\n.t=[]/\IsL n.l xs:=by cases h with|l h=>exact⟨rfl,rfl,h⟩
theorem IsL.one {ns x}(h:IsL ns [x]):∃n,ns=[n]/\Is n x:=by cases h with|cons h1 h2=>cases h2;exact⟨_,rfl,h1⟩
theorem IsL.two {ns x y}(h:IsL ns [x,y]):∃n m,ns=[n,m]/\Is n x/\Is m y:=by cases h with|cons h1 h2=>obtain⟨m,rfl,h3⟩:=h2.one;exact⟨_,m,rfl,h1,h3⟩
theorem IsL.split {ns xs ys}(h:IsL ns (xs++ys)):∃n1 n2,ns=n1++n2/\IsL n1 xs/\IsL n2 ys:=by induction xs generalizing ns with|nil=>exact⟨[],ns,rfl,.nil,h⟩|cons x xs ih=>cases h with|cons h1 h2=>obtain⟨n1,n2,rfl,h3,h4⟩:=ih h2;exact⟨_::n1,n2,rfl,.cons h1 h3,h4⟩
theorem d3L {α:Type}{l m:List α}{a}(h:l.drop a=m)(j):l[a+j]?=m[j]?:=by rw[<-h,vr]
theorem a0c {α:Type}{l m:List α}{a}(h:l.drop a=m):l[a]?=m[0]?:=d3L h 0
theorem Q6 {α:Type}{l m:List α}{a x}(h:l.drop a=x::m):l.drop (a+1)=m:=by have:=xC List.tail h;simpa using this
structure FolN (n:Nd):Prop where
 ix:M2 n.k n.t=false
 of:(decide (n.k=2) && Q3 n.t [111, 102, 102, 115, 101, 116, 61])=false
 al:(decide (n.k=2) && Q3 n.t [97, 108, 105, 103, 110, 61])=false
 nm:(decide (n.k=2) && a4q n.t)=false
 re:W7 n.k (a0i n.l) [114, 101, 115, 117, 108, 116]=false
 ty:W7 n.k (a0i n.l) [116, 121, 112, 101]=false
def Fol (t:List Nd):Prop:=∀n u,t=n::u->FolN n
theorem Fol.nil:Fol []:=λn u h=>zl
theorem Fol.no {l t a}(h:Fol t)(hd:l.drop a=t):isI l a=false:=by unfold isI;rw[a0c hd];cases t with|nil=>rfl|cons n u=>exact(h n u rfl).ix
theorem a7F {l t a u n}(hd:l.drop a=n::t)(hn:Is n (.w (Lib.decDigits u))):isI l a=true:=by unfold isI;rw[a0c hd];obtain⟨h1,h2,h3⟩:=hn.wd;show M2 n.k n.t=true;unfold M2;rw[h1,h2,a9u];rfl
theorem a3j {fd l t q a u n}(hd:l.drop a=n::t)(hn:Is n (.w (Lib.decDigits u)))(hf:fd (Lib.decDigits u)=(u,0)):D9 fd l q a=.ok u:=by unfold D9;rw[a0c hd];obtain⟨h1,h2,h3⟩:=hn.wd;show bcase (M2 n.k n.t) (bcase (decide ((fd n.t).2=0)) (Ix.ok (fd n.t).1) (Ix.er n.p (fd n.t).2)) (Ix.er n.p 4)=_;unfold M2;rw[h1,h2,a9u,hf];rfl
section
variable {F:Nat->List (Value×Value)}{L:List (List UInt8)}{al q a u v:Nat}{l t:List Nd}{R:RV}{n m:Nd}
theorem e1O {j}(hj:j=2\/j=4\/j=7\/j=8\/j=12\/j=16)(hu:u<4294967296)(hd:l.drop R.i=n::t)(hn:Is n (.w (Lib.decDigits u))):V3 F L al j l q R=.ok {R with i:=R.i+1,A:=u}:=by rcases hj with rfl|rfl|rfl|rfl|rfl|rfl;show a1K R (D9 (P3 L) l q R.i)=_;rw[a3j hd hn (c1N hu)];rfl;all_goals show a1K R (D9 (K3 _) l q R.i)=_;rw[a3j hd hn (a4p hu)];rfl
theorem d1C {fs}(hu:u<4294967296)(h:(u=0/\l.drop R.i=t/\Fol t)\/(l.drop R.i=n::t/\Is n (.w (Lib.decDigits u))))(h0:R.A=0):∃i,b0D (K3 fs) l q R=.ok {R with i:=i,A:=u}/\l.drop i=t:=by unfold b0D;rcases h with⟨rfl,h1,h2⟩|⟨h1,h2⟩;rw[h2.no h1];refine⟨R.i,?_,h1⟩;obtain⟨i,op,A,B,N,k,v,bi,ts,ls,nm⟩:=R;simp only at h0;subst h0;rfl;rw[a7F h1 h2,a3j h1 h2 (a4p hu)];exact⟨R.i+1,rfl,Q6 h1⟩
theorem b4e {fs}(hu:u<4294967296)(h:(u=0/\l.drop R.i=t/\isI l R.i=false)\/(l.drop R.i=n::t/\Is n (.w (Lib.decDigits u))))(h0:R.B=0):∃i,a3Y (K3 fs) l q R=.ok {R with i:=i,B:=u}/\l.drop i=t:=by unfold a3Y;rcases h with⟨rfl,h1,h2⟩|⟨h1,h2⟩;rw[h2];refine⟨R.i,?_,h1⟩;obtain⟨i,op,A,B,N,k,v,bi,ts,ls,nm⟩:=R;simp only at h0;subst h0;rfl;rw[a7F h1 h2,a3j h1 h2 (a4p hu)];exact⟨R.i+1,rfl,Q6 h1⟩
theorem d0X {fs}(hu:u<4294967296)(hv:v<4294967296)(h:(u=0/\v=0/\l.drop R.i=t/\Fol t)\/(l.drop R.i=n::m::t/\Is n (.w (Lib.decDigits u))/\Is m (.w (Lib.decDigits v))))(h0:R.A=0)(h1:R.B=0):∃i,b1w (K3 fs) l q R=.ok {R with i:=i,A:=u,B:=v}/\l.drop i=t:=by unfold b1w;rcases h with⟨rfl,rfl,h2,h3⟩|⟨h2,h3,h4⟩;rw[h3.no h2];refine⟨R.i,?_,h2⟩;obtain⟨i,op,A,B,N,k,v,bi,ts,ls,nm⟩:=R;simp only at h0 h1;subst h0;subst h1;rfl;rw[a7F h2 h3,a3j h2 h3 (a4p hu)];refine⟨R.i+1+1,?_,Q6 (Q6 h2)⟩;show b1m _ (D9 (K3 fs) l q (R.i+1))=_;rw[a3j (Q6 h2) h4 (a4p hv)];rfl
theorem b8r {f1 f2}(hu:u<4294967296)(hv:v<4294967296)(h:(v=0/\l.drop R.i=n::t/\Is n (.w (Lib.decDigits u))/\Fol t)\/(l.drop R.i=m::n::t/\Is m (.w (Lib.decDigits v))/\Is n (.w (Lib.decDigits u))))(h1:R.B=0):∃i,a5w (K3 f1) (K3 f2) l q R=.ok {R with i:=i,A:=u,B:=v}/\l.drop i=t:=by unfold a5w;rcases h with⟨rfl,h2,h3,h4⟩|⟨h2,h3,h4⟩;rw[a7F h2 h3,h4.no (Q6 h2),a3j (fd:=K3 f2) h2 h3 (a4p hu)];refine⟨R.i+1,?_,Q6 h2⟩;obtain⟨i,op,A,B,N,k,v,bi,ts,ls,nm⟩:=R;simp only at h1;subst h1;rfl;rw[a7F h2 h3,a7F (Q6 h2) h4,a3j h2 h3 (a4p hv)];refine⟨R.i+1+1,?_,Q6 (Q6 h2)⟩;show a1K _ (D9 (K3 f2) l q (R.i+1))=_;rw[a3j (Q6 h2) h4 (a4p hu)];rfl
theorem c7k (hn:Is n (.l [.w [116,121,112,101],.w (Lib.decDigits u)])):W7 n.k (a0i n.l) [116,121,112,101]=true/\M2 n.k n.t=false/\W7 n.k (a0i n.l) [114,101,115,117,108,116]=false:=by obtain⟨h1,h2,h3⟩:=hn.ls;obtain⟨x,y,h4,h5,h6⟩:=h3.two;obtain⟨h7,h8,h9⟩:=h5.wd;rw[h1,h2,h4];refine⟨?_,rfl,?_⟩;show(decide ((0:Nat)=0)&&(decide (x.k=2)&&beqBytes x.t _))=true;rw[h7,h8];rfl;show(decide ((0:Nat)=0)&&(decide (x.k=2)&&beqBytes x.t _))=false;rw[h7,h8];rfl
theorem d5O {fs put}(hu:u<4294967296)(hd:l.drop R.i=n::t)(hn:Is n (.l [.w [116,121,112,101],.w (Lib.decDigits u)])):a6l (K3 fs) put l q R=.ok (put {R with i:=R.i+1} u):=by
 obtain⟨b1,b2,b3⟩:=c7k hn;obtain⟨h1,h2,h3⟩:=hn.ls;obtain⟨x,y,h4,h5,h6⟩:=h3.two;obtain⟨h7,h8,h9⟩:=h6.wd;unfold a6l;rw[a0c hd];show bcase (W7 n.k (a0i n.l) _) _ _=_;rw[b1,o9,h4];show bcase (M2 y.k y.t) (bcase (decide ((K3 fs y.t).2=0)) _ _) _=_;have e:M2 y.k y.t=true:=by unfold M2;rw[h7,h8,a9u];rfl
 rw[e,h8,a4p hu];rfl
theorem d1y (hu:u<4294967296)(hv:v<4294967296)(h:(v=0/\l.drop R.i=n::t)\/(l.drop R.i=m::n::t/\Is m (.w (Lib.decDigits v))))(hn:Is n (.l [.w [116,121,112,101],.w (Lib.decDigits u)]))(h1:R.B=0):∃i,V3 F L al 5 l q R=.ok {R with i:=i,A:=u,B:=v}/\l.drop i=t:=by
 obtain⟨b1,b2,b3⟩:=c7k hn;have h':(v=0/\l.drop R.i=n::t/\isI l R.i=false)\/(l.drop R.i=m::(n::t)/\Is m (.w (Lib.decDigits v))):=by rcases h with⟨h2,h3⟩|h2;refine Or.inl ⟨h2,h3,?_⟩;unfold isI;rw[a0c h3];exact b2;exact Or.inr h2
 obtain⟨i,e1,e2⟩:=b4e (q:=q) (fs:=F 2) hv h' h1;show∃i,(a3Y (K3 (F 2)) l q R).then _=_/\_;rw[e1];refine⟨i+1,?_,Q6 e2⟩;show a6l (K3 (F 0)) (λR k=>{R with A:=k}) l q {R with i:=i,B:=v}=_;rw[d5O (R:={R with i:=i,B:=v}) hu e2 hn]
theorem e2A {N w j}(hj:(j=18/\w=32)\/(j=19/\w=64))(hN:N<2^w)(hd:l.drop R.i=n::t)(hn:Is n (.w (Lib.itoa (b4F w N)))):V3 F L al j l q R=.ok {R with i:=R.i+1,N:=N}:=by obtain⟨h1,h2,h3⟩:=hn.wd;rcases hj with⟨rfl,rfl⟩|⟨rfl,rfl⟩;have hT:=c0a (Or.inl rfl) hN;show a7d l q R=_;unfold a7d;rw[a0c hd];show bcase (decide (n.k=2)) (bcase (decide ((V7 n.t 4294967295).2=0)) _ _) _=_;rw[h1,h2];have e:(2:Nat)^32-1=4294967295:=zv;rw[e]at hT;rw[hT];rfl;have hT:=c0a (Or.inr rfl) hN;show a6Y l q R=_;unfold a6Y;rw[a0c hd];show bcase (decide (n.k=2)) (bcase (decide ((V7 n.t 18446744073709551615).2=0)) _ _) _=_;rw[h1,h2];have e:(2:Nat)^64-1=18446744073709551615:=zv;rw[e]at hT;rw[hT];rfl
theorem d8u {A}(hA:A=3\/A=4)(hd:l.drop R.i=n::t)(hn:Is n (.w (bcase (decide (A=3)) [102,117,110,99] [101,120,116,101,114,110]))):V3 F L al 20 l q R=.ok {R with i:=R.i+1,A:=A}:=by obtain⟨h1,h2,h3⟩:=hn.wd;show a8s l q R=_;unfold a8s;rw[a0c hd];show bcase (decide (n.k=2)) (bcase (beqBytes n.t _) _ _) _=_;rw[h1,h2];rcases hA with rfl|rfl;rfl;rfl
end
end Go.Proofs.YtmomonnlmbljoaaGreatDoor
end
section
namespace Go.Proofs.YtmomonnlmbljoaaGreatDoor
open Go.V Go.RowKit Go.Shelf Go.Proofs
variable {mL:Int}
def a8p (N:Nat):List UInt8:=[111,102,102,115,101,116,61]++Lib.decDigits N
def a6B (A:Nat):List UInt8:=[97,108,105,103,110,61]++Lib.decDigits (2^A)
theorem b9n (P T):Q3 (P++T) P=true:=by unfold Q3;have e1:decide (P.length<=(P++T).length)=true:=xL xT;rw[e1,a0k,List.take_left,vj,a0j];exact beq_self_eq_true P
theorem d4J {A}(h:A<64):a4k (2^A)=some A:=by have hall:A9 (λi=>Z0 (a4k (2^i)) i) (upN 64)=true:=zw;have:=(C9 _ _).1 hall A (vd.2 h);unfold Z0 at this;cases e:a4k (2^A)with|none=>rw[e]at this;cases this|some m=>rw[e]at this;rw[xS this]
section
variable {F:Nat->List (Value×Value)}{L:List (List UInt8)}{al q a u v:Nat}{l t:List Nd}{R:RV}{n m:Nd}
theorem c6w {N}(hN:N<4294967296)(h:(N=0/\l.drop R.i=t/\∀n u,t=n::u->(decide (n.k=2)&&Q3 n.t [111,102,102,115,101,116,61])=false)\/(l.drop R.i=n::t/\Is n (.w (a8p N))))(h0:R.N=0):∃i,a1p l R=.ok {R with i:=i,N:=N}/\l.drop i=t:=by
 unfold a1p;rcases h with⟨rfl,h1,h2⟩|⟨h1,h2⟩;refine⟨R.i,?_,h1⟩;have eR:({R with i:=R.i,N:=0}:RV)=R:=by obtain⟨i,op,A,B,N,k,v,bi,ts,ls,nm⟩:=R;simp only at h0;subst h0;rfl
 rw[eR,a0c h1];cases t with|nil=>rfl|cons n u=>have h3:=h2 n u rfl;show bcase (decide (n.k=2)) (bcase (Q3 n.t _) _ _) _=_;cases q1:decide (n.k=2)with|false=>rfl|true=>rw[q1,vj]at h3;rw[h3];rfl
 obtain⟨k1,k2,k3⟩:=h2.wd;refine⟨R.i+1,?_,Q6 h1⟩;rw[a0c h1];show bcase (decide (n.k=2)) (bcase (Q3 n.t _) (bcase (decide ((a2r (z7 n.t 7)).2=0)) _ _) _) _=_;have e:z7 (a8p N) 7=Lib.decDigits N:=by rw[Q8];rfl
 rw[k1,k2,show Q3 (a8p N) [111,102,102,115,101,116,61]=true from b9n _ _,e,b4O hN];rfl
theorem c6v {A}(hA:A<64)(h:(A=R.A/\l.drop R.i=t/\Fol t)\/(l.drop R.i=n::t/\Is n (.w (a6B A)))):∃i,a5M l R=.ok {R with i:=i,A:=A}/\l.drop i=t:=by
 unfold a5M;rcases h with⟨h0,h1,h2⟩|⟨h1,h2⟩;refine⟨R.i,?_,h1⟩;have eR:({R with i:=R.i,A:=A}:RV)=R:=by rw[h0]
 rw[eR,a0c h1];cases t with|nil=>rfl|cons n u=>have h3:=(h2 n u rfl).al;show bcase (decide (n.k=2)) (bcase (Q3 n.t _) _ _) _=_;cases q1:decide (n.k=2)with|false=>rfl|true=>rw[q1,vj]at h3;rw[h3];rfl
 obtain⟨k1,k2,k3⟩:=h2.wd;refine⟨R.i+1,?_,Q6 h1⟩;rw[a0c h1];show bcase (decide (n.k=2)) (bcase (Q3 n.t _) (bcase (decide ((V7 (z7 n.t 6) 18446744073709551615).2=0)) _ _) _) _=_;have e:z7 (a6B A) 6=Lib.decDigits (2^A):=by rw[Q8];rfl
 have h64:2^A<18446744073709551616:=by have:(2:Nat)^A<2^64:=Nat.pow_lt_pow_right zv hA;have h64':(2:Nat)^64=18446744073709551616:=zv;omega
 rw[k1,k2,show Q3 (a6B A) [97,108,105,103,110,61]=true from b9n _ _,e,c1p h64 zy];show(match a4k (2^A)with|some i=>Rs.ok {R with i:=R.i+1,A:=i}|none=>.er n.p 4)=_;rw[d4J hA]
theorem d9C {N A nB nO nA} (hv:v<4294967296) (hN:N<4294967296) (hA:A<64) (hB:(v=0∧nB=[])∨∃ m,nB=[m]∧Is m (.w (Lib.decDigits v))) (hO:(N=0∧nO=[])∨∃ m,nO=[m]∧Is m (.w (a8p N))) (hL:(A=al∧nA=[])∨∃ m,nA=[m]∧Is m (.w (a6B A))) (hf:Fol t) (hd:l.drop R.i=nB ++ (nO ++ (nA ++ t))) (h1:R.B=0) (h2:R.N=0):∃ i,b4y F al l q R=.ok { R with i:=i,A:=A,B:=v,N:=N }∧l.drop i=t:=by
 have noA:∀ n u,nA ++ t=n::u→(decide (n.k=2) && Q3 n.t [111, 102, 102, 115, 101, 116, 61])=false∧M2 n.k n.t=false:=by
  intro n u h
  rcases hL with ⟨_,rfl⟩ | ⟨m,rfl,hm⟩
  · exact ⟨(hf n u h).of,(hf n u h).ix⟩
  · obtain ⟨k1,k2,k3⟩:=hm.wd
    have:n=m:=by cases h; rfl
    subst this
    rw [k1,k2]
    refine ⟨?_,rfl⟩
    have:Q3 (a6B A) [111, 102, 102, 115, 101, 116, 61]=false:=by
     cases q1:Q3 (a6B A) [111, 102, 102, 115, 101, 116, 61] with
     | false=>rfl
     | true=>
       unfold Q3 at q1
       rw [xM] at q1
       have:=a2Q q1.2
       rw [a0k] at this
       cases this
    rw [this,vM]
 have noO:isI l R.i=false∨nB≠[]:=by
  rcases hB with ⟨_,rfl⟩ | ⟨m,rfl,_⟩
  · refine Or.inl ?_
    unfold isI
    rw [a0c hd,wQ]
    rcases hO with ⟨_,rfl⟩ | ⟨m,rfl,hm⟩
    · rw [wQ]
      cases e:nA ++ t with
      | nil=>rfl
      | cons n u=>exact (noA n u e).2
    · obtain ⟨k1,k2,k3⟩:=hm.wd
      show M2 m.k m.t=false
      rw [k1,k2]; rfl
  · exact Or.inr zu
 unfold b4y
 obtain ⟨i1,e1,d1⟩:∃ i,a3Y (K3 (F 3)) l q { R with A:=al }=.ok { R with A:=al,i:=i,B:=v }∧l.drop i=nO ++ (nA ++ t):=by
  rcases hB with ⟨rfl,rfl⟩ | ⟨m,rfl,hm⟩
  · exact b4e (R:={ R with A:=al }) (n:=.mk 0 0 [] []) zv (Or.inl ⟨rfl,hd,noO.resolve_right (fun h=>h rfl)⟩) h1
  · exact b4e (R:={ R with A:=al }) hv (Or.inr ⟨hd,hm⟩) h1
 rw [e1]
 obtain ⟨i2,e2,d2⟩:∃ i,a1p l { R with A:=al,i:=i1,B:=v }=.ok { R with A:=al,B:=v,i:=i,N:=N }∧l.drop i=nA ++ t:=by
  rcases hO with ⟨rfl,rfl⟩ | ⟨m,rfl,hm⟩
  · exact c6w (R:={ R with A:=al,i:=i1,B:=v }) (n:=.mk 0 0 [] []) zv (Or.inl ⟨rfl,d1,fun n u h=>(noA n u h).1⟩) h2
  · exact c6w (R:={ R with A:=al,i:=i1,B:=v }) hN (Or.inr ⟨d1,hm⟩) h2
 show ∃ i,(a1p l { R with A:=al,i:=i1,B:=v }).then (fun R2=>a5M l R2)=_∧_
 rw [e2]
 obtain ⟨i3,e3,d3⟩:∃ i,a5M l { R with A:=al,B:=v,i:=i2,N:=N }=.ok { R with A:=A,B:=v,i:=i,N:=N }∧l.drop i=t:=by
  rcases hL with ⟨rfl,rfl⟩ | ⟨m,rfl,hm⟩
  · exact c6v (R:={ R with A:=A,B:=v,i:=i2,N:=N }) (n:=.mk 0 0 [] []) hA (Or.inl ⟨rfl,d2,hf⟩)
  · exact c6v (R:={ R with A:=al,B:=v,i:=i2,N:=N }) hA (Or.inr ⟨d2,hm⟩)
 exact ⟨i3,e3,d3⟩
theorem e3a {fd}(hfd:∀u,u<4294967296->fd (Lib.decDigits u)=(u,0))(hf:Fol t):∀(ks) (ns),ks≠[]->(∀k∈ks,k<4294967296)->IsL ns (ks.map λk=>.w (Lib.decDigits k))->a0Y fd q (ns++t)=.ok ks:=by
 intro ks;induction ks with
  |nil=>intro ns h;exact absurd rfl h|cons k ks ih=>
   intro ns _ hk hi;cases hi with
    | @cons n x ns xs h1 h2=>
     obtain⟨k1,k2,k3⟩:=h1.wd;have e1:M2 n.k n.t=true:=by unfold M2;rw[k1,k2,a9u];rfl
     have e2:=hfd k (hk k zu);rw[wO];unfold a0Y;rw[e1,o9,k2,e2];show bcase true (bcase (hdI (ns++t)) ((a0Y fd q (ns++t)).cons k) (.ok [k])) _=_;rw[o9];cases ks with
      |nil=>
       cases h2;have:hdI ([]++t)=false:=by cases t with|nil=>rfl|cons n u=>exact(hf n u rfl).ix
       rw[this];rfl|cons k' ks'=>
       have hih:=ih ns zu (λx hx=>hk x (by simp[hx])) h2;rw[hih];cases h2 with
        | @cons n' x' ns' xs' h3 h4=>
         obtain⟨j1,j2,j3⟩:=h3.wd;have:hdI (n'::ns'++t)=true:=by show M2 n'.k n'.t=true;unfold M2;rw[j1,j2,a9u];rfl
         rw[this];rfl
theorem d6h {v}(h1:1<=v)(h4:v<=4):a1C (I0 (.ofNat v))=some v:=by have:v=1\/v=2\/v=3\/v=4:=zy;rcases this with rfl|rfl|rfl|rfl;exact(by kernel_rfl:a1C (I0 (.ofNat 1))=some 1);exact(by kernel_rfl:a1C (I0 (.ofNat 2))=some 2);exact(by kernel_rfl:a1C (I0 (.ofNat 3))=some 3);exact(by kernel_rfl:a1C (I0 (.ofNat 4))=some 4)
theorem d4Y {W}(hn:Is n (.l [.w [114,101,115,117,108,116],.w W])):W7 n.k (a0i n.l) [114,101,115,117,108,116]=true/\n.k=0:=by obtain⟨h1,h2,h3⟩:=hn.ls;obtain⟨x,y,h4,h5,h6⟩:=h3.two;obtain⟨h7,h8,h9⟩:=h5.wd;refine⟨?_,h1⟩;rw[h1,h4];show(decide ((0:Nat)=0)&&(decide (x.k=2)&&beqBytes x.t _))=true;rw[h7,h8];rfl
theorem d5y {v}(h1:1<=v)(h4:v<=4)(hn:Is n (.l [.w [114,101,115,117,108,116],.w (I0 (.ofNat v))])):a1k n q=.ok v:=by obtain⟨a1,a2,a3⟩:=hn.ls;obtain⟨x,y,a4,a5,a6⟩:=a3.two;obtain⟨a7,a8,a9⟩:=a6.wd;unfold a1k;rw[a4];show bcase (decide (y.k=2)) (match a1C y.t with|none=>_|some t=>_) _=_;rw[a7,a8,d6h h1 h4];rfl
inductive BlkN (F:Nat→List (Value×Value)):Nat→Nat→Nat→List Nd→Prop
 | none:BlkN F 0 0 0 []
 | val {v:Nat} {n:Nd}:1≤v→v≤4→Is n (.l [.w [114, 101, 115, 117, 108, 116],.w (I0 (.ofNat v))])→BlkN F 1 v 0 [n]
 | idx {u:Nat} {n:Nd}:u<4294967296→Is n (.l [.w [116, 121, 112, 101],.w (Lib.decDigits u)])→BlkN F 2 0 u [n]
end
end Go.Proofs.YtmomonnlmbljoaaGreatDoor
end
section
namespace Go.Proofs.YtmomonnlmbljoaaGreatDoor
open Go.V Go.RowKit Go.Shelf Go.Proofs
variable {mL:Int}
inductive It where
 | w (W:List UInt8)
 | l (W V:List UInt8)
def It.b:It->List UInt8|.w W=>32::W|.l W V=>32::40::(W++32::(V++[41]))
def It.k:It->List (Nat×List UInt8)|.w W=>[(2,W)]|.l W V=>[(0,[]),(2,W),(2,V),(1,[])]
def It.s:It->Sp|.w W=>.w W|.l W V=>.l [.w W,.w V]
def Wd (W:List UInt8):Prop:=W≠[]/\W.all (λb=>sgN b.toNat)=true
def It.ok:It->Prop|.w W=>Wd W|.l W V=>Wd W/\Wd V
theorem Lk.it {x:It}{t ks}(hx:x.ok)(ht:b8n t=false)(H:Lk t ks):Lk (x.b++t) (x.k++ks):=by
 cases x with
  |w W=>exact Lk.ws (b:=32) rfl (Lk.wd hx.1 hx.2 ht H)|l W V=>
   obtain⟨⟨h1,h2⟩,h3,h4⟩:=hx;have e:It.b (.l W V)++t=32::40::(W++32::(V++41::t)):=by show 32::40::(W++32::(V++[41]))++t=_;simp
   rw[e];refine Lk.ws (b:=32) rfl (Lk.op ?_ (Lk.wd h1 h2 rfl (Lk.ws (b:=32) rfl (Lk.wd h3 h4 rfl (Lk.cl H)))));cases W with
    |nil=>exact absurd rfl h1|cons b W=>
     intro h;have hb:b=59:=by cases h;rfl
     rw[tt,xM]at h2;exact(c4i h2.1).2.1 hb
theorem Lk.its:∀(its:List It) {t} {ks},(∀x∈its,x.ok)->b8n t=false->Lk t ks->Lk (its.flatMap It.b++t) (its.flatMap It.k++ks)/\b8n (its.flatMap It.b++t)=false:=by intro its;induction its with|nil=>intro t ks _ ht H;exact⟨H,ht⟩|cons x its ih=>intro t ks hx ht H;obtain⟨h1,h2⟩:=ih (λy hy=>hx y (by simp[hy])) ht H;rw[wW,wW,wq,wq];refine⟨Lk.it (hx x zu) h2 h1,?_⟩;cases x<;>rfl
theorem Bal.its:∀its:List It,Bal 1 (its.flatMap It.k) (its.map It.s):=by intro its;induction its with|nil=>exact .nil|cons x its ih=>rw[wW,vh];cases x with|w W=>exact .w ih|l W V=>exact .l (.w (.w .nil)) ih
noncomputable def a5E (n:Nat):List It:=bcase (Nat.beq n 0) [] [.w (Lib.decDigits n)]
def tyW:List UInt8:=[116,121,112,101]
def reW:List UInt8:=[114,101,115,117,108,116]
inductive Pl:AI→List It→Prop
 | none {op:Nat}:w6 (.ofNat op)=0→Pl ⟨op, 0, 0, 0, 0, 0, 0, [], []⟩ []
 | one {op A j:Nat}:w6 (.ofNat op)=j→(j=2∨j=4∨j=7∨j=8∨j=12∨j=16)→A<4294967296→Pl ⟨op,A, 0, 0, 0, 0, 0, [], []⟩ [.w (Lib.decDigits A)]
 | tab {op A:Nat} {ls:List Nat}:w6 (.ofNat op)=3→A<4294967296→(∀ k∈ls,k<4294967296)→Pl ⟨op,A, 0, 0, 0, 0, 0, [],ls⟩ ((ls ++ [A]).map fun k=>.w (Lib.decDigits k))
 | ind {op A B:Nat}:w6 (.ofNat op)=5→A<4294967296→B<4294967296→Pl ⟨op,A,B, 0, 0, 0, 0, [], []⟩ (a5E B ++ [.l tyW (Lib.decDigits A)])
 | sel {v:Nat}:1≤v→v≤4→Pl ⟨28, 0, 0, 0, 0, 0, 0, [v], []⟩ [.l reW (I0 (.ofNat v))]
 | tbl {op A:Nat}:w6 (.ofNat op)=9→A<4294967296→Pl ⟨op,A, 0, 0, 0, 0, 0, [], []⟩ (a5E A)
 | two {op A B j:Nat}:w6 (.ofNat op)=j→(j=10∨j=14)→A<4294967296→B<4294967296→Pl ⟨op,A,B, 0, 0, 0, 0, [], []⟩ (bcase (Nat.beq A 0 && Nat.beq B 0) [] [.w (Lib.decDigits A),.w (Lib.decDigits B)])
 | ini {op A B j:Nat}:w6 (.ofNat op)=j→(j=11∨j=15)→A<4294967296→B<4294967296→Pl ⟨op,A,B, 0, 0, 0, 0, [], []⟩ (a5E B ++ [.w (Lib.decDigits A)])
 | mem {op B:Nat}:w6 (.ofNat op)=13→B<4294967296→Pl ⟨op, 0,B, 0, 0, 0, 0, [], []⟩ (a5E B)
 | acc {op A B N:Nat}:w6 (.ofNat op)=17→A<64→B<4294967296→N<4294967296→Pl ⟨op,A,B,N, 0, 0, 0, [], []⟩ (a5E B ++ (bcase (Nat.beq N 0) [] [.w (a8p N)] ++ bcase (Nat.beq A (V0 op)) [] [.w (a6B A)]))
 | con {op N j w:Nat}:w6 (.ofNat op)=j→(j=18∧w=32∨j=19∧w=64)→N<2 ^ w→Pl ⟨op, 0, 0,N, 0, 0, 0, [], []⟩ [.w (Lib.itoa (b4F w N))]
 | null {op A:Nat}:w6 (.ofNat op)=20→(A=3∨A=4)→Pl ⟨op,A, 0, 0, 0, 0, 0, [], []⟩ [.w (bcase (decide (A=3)) [102, 117, 110, 99] [101, 120, 116, 101, 114, 110])]
theorem a8d (u):Wd (Lib.decDigits u):=⟨b9T u,b1d u⟩
theorem a7S {n x}(h:x∈a5E n):x.ok:=by unfold a5E at h;cases q:Nat.beq n 0 with|true=>rw[q]at h;cases h|false=>rw[q,m7,wx]at h;subst h;exact a8d n
theorem d8S {v}(h1:1<=v)(h4:v<=4):Wd (I0 (.ofNat v)):=by have:v=1\/v=2\/v=3\/v=4:=zy;have one:Wd [105,51,50]:=⟨zu,zw⟩;have two:Wd [105,54,52]:=⟨zu,zw⟩;have thr:Wd [102,117,110,99,114,101,102]:=⟨zu,zw⟩;have fou:Wd [101,120,116,101,114,110,114,101,102]:=⟨zu,zw⟩;rcases this with rfl|rfl|rfl|rfl;exact one;exact two;exact thr;exact fou
theorem d7Y (N):Wd (a8p N):=⟨by unfold a8p;simp,by unfold a8p;rw[List.all_append,b1d,uu];kernel_rfl⟩
theorem d6p (A):Wd (a6B A):=⟨by unfold a6B;simp,by unfold a6B;rw[List.all_append,b1d,uu];kernel_rfl⟩
theorem d9u:Wd tyW:=⟨by unfold tyW;simp,zw⟩
theorem e1b:Wd reW:=⟨by unfold reW;simp,zw⟩
theorem Pl.ok {X its}(h:Pl X its):∀x∈its,x.ok:=by
 intro x hx;cases h with
  |none=>cases hx|one _ _ _=>rw[wx]at hx;subst hx;exact a8d _|tab _ _ _=>rw[uy]at hx;obtain⟨k,_,rfl⟩:=hx;exact a8d k|ind _ _ _=>rcases wU.1 hx with h|h;exact a7S h;rw[wx]at h;subst h;exact⟨d9u,a8d _⟩|sel h1 h4=>rw[wx]at hx;subst hx;exact⟨e1b,d8S h1 h4⟩|tbl _ _=>exact a7S hx| @two op A B j _ _ _ _=>cases q:Nat.beq A 0&&Nat.beq B 0 with|true=>rw[q]at hx;cases hx|false=>rw[q,m7]at hx;simp only[wG,sk,or_false]at hx;rcases hx with rfl|rfl;exact a8d _;exact a8d _
  |ini _ _ _ _=>rcases wU.1 hx with h|h;exact a7S h;rw[wx]at h;subst h;exact a8d _|mem _ _=>exact a7S hx| @acc op A B N _ _ _ _=>
   rcases wU.1 hx with h|h;exact a7S h;rcases wU.1 h with h|h;cases q:Nat.beq N 0 with|true=>rw[q]at h;cases h|false=>rw[q,m7,wx]at h;subst h;exact d7Y N
   cases q:Nat.beq A (V0 op)with|true=>rw[q]at h;cases h|false=>rw[q,m7,wx]at h;subst h;exact d6p A
  |con _ _ _=>rw[wx]at hx;subst hx;exact⟨(c6V _).2,(c6V _).1⟩| @null op A _ hA=>rw[wx]at hx;subst hx;rcases hA with rfl|rfl;exact(⟨zu,zw⟩:Wd [102,117,110,99]);exact(⟨zu,zw⟩:Wd [101,120,116,101,114,110])
end Go.Proofs.YtmomonnlmbljoaaGreatDoor
end
section
namespace Go.Proofs.YtmomonnlmbljoaaGreatDoor
open Go.V Go.RowKit Go.Shelf Go.Proofs
variable {mL:Int}
theorem b1a {B ns}(h:IsL ns ((a5E B).map It.s)):(B=0/\ns=[])\/∃m,ns=[m]/\Is m (.w (Lib.decDigits B)):=by unfold a5E at h;cases q:Nat.beq B 0 with|true=>rw[q]at h;cases h;exact Or.inl ⟨xS q,rfl⟩|false=>rw[q,m7]at h;exact Or.inr h.one
section
variable {F:Nat->List (Value×Value)}{L:List (List UInt8)}{i:Nat}{l t ns:List Nd}{n:Nd}
theorem a3q {op}(hop:a3r n.t=some op)(h27:op≠27)(h3:w6 (.ofNat op)≠3){R'}(h:V3 F L (V0 op) (w6 (.ofNat op)) l n.p (Z5 op (i+1))=.ok R'):a0m F L l i n=.ok ⟨R'.op,R'.A,R'.B,R'.N,R'.k,R'.v,R'.bi,[],[]⟩ R'.nm R'.i:=by unfold a0m;rw[hop];show bcase (decide (op=27)) _ (bcase (decide (w6 (.ofNat op)=3)) _ (c4f (V3 F L (V0 op) (w6 (.ofNat op)) l n.p (Z5 op (i+1)))))=_;rw[xO h27,m7,xO h3,m7,h];rfl
theorem e0f:w6 (.ofNat 27)=0:=zw
theorem e3o:w6 (.ofNat 28)=6:=zw
theorem a2K {op j}(hk:B3 (.ofNat op)=true)(hn:n.t=U5 op)(hj:w6 (.ofNat op)=j)(h6:j≠6):a3r n.t=some op:=by rw[hn,(b1P hk).f];unfold opc;rw[wX];intro e;subst e;exact h6 (hj.symm.trans e3o)
theorem a7l {op j}(hj:w6 (.ofNat op)=j)(h0:j≠0):op≠27:=λe=>by subst e;exact h0 (hj.symm.trans e0f)
theorem b5W {X its}(h:Pl X its)(hk:B3 (.ofNat X.op)=true)(hn:n.t=U5 X.op)(hd:l.drop i=n::(ns++t))(hns:IsL ns (its.map It.s))(hf:Fol t):∃nx,a0m F L l i n=.ok X [] nx/\l.drop nx=t:=by
 have hd1:=Q6 hd;cases h with
  | @none op h0=>
   cases hns;have hop:=a2K hk hn h0 zv;refine⟨i+1,?_,hd1⟩;by_cases h27:op=27;subst h27;unfold a0m;rw[hop];show(match l[i+1]? with|none=>_|some n1=>_)=_;rw[a0c hd1,wQ];cases t with|nil=>rfl|cons m u=>show bcase (W7 m.k (a0i m.l) _) _ _=_;rw[(hf m u rfl).re];rfl
   rw[a3q hop h27 (by rw[h0];decide) (R':=Z5 op (i+1)) (by rw[h0];rfl)];rfl| @one op A j hj h1 hA=>obtain⟨m,rfl,hm⟩:=hns.one;have hop:=a2K hk hn hj zy;refine⟨i+1+1,?_,Q6 hd1⟩;rw[a3q hop (a7l hj zy) ze (by rw[hj];exact e1O (R:=Z5 op (i+1)) h1 hA hd1 hm)];rfl| @tab op A ls h3 hA hls=>
   have hop:=a2K hk hn h3 zv;have hks:∀k∈ls++[A],k<4294967296:=λk hk=>by rcases wU.1 hk with h|h;exact hls k h;rw[wx]at h;subst h;exact hA
   rw[vG]at hns;have hT:=e3a (q:=n.p) (fd:=P3 L) (t:=t) (λu hu=>c1N hu) hf (ls++[A]) ns zu hks hns;rw[<-hd1]at hT;have hlen:ns.length=(ls++[A]).length:=by
    have:∀(ns:List Nd) (xs:List Sp),IsL ns xs->ns.length=xs.length:=by intro ns;induction ns with|nil=>intro xs h;cases h;rfl|cons n ns ih=>intro xs h;cases h with|cons a b=>rw[xH,xH,ih _ b]
    rw[this _ _ hns,xF]
   refine⟨i+1+(ls++[A]).length,?_,?_⟩;unfold a0m;rw[hop];show bcase (decide (op=27)) _ (bcase (decide (w6 (.ofNat op)=3)) (match a0Y (P3 L) n.p (l.drop (i+1))with|.ok ks=>_|.er p e=>_) _)=_;rw[xO (a7l h3 zv),m7,xL h3,o9,hT];have e1:a6D (ls++[A])=A:=by unfold a6D;rw[List.getLast?_concat];rfl
   have e2:(ls++[A]).dropLast=ls:=List.dropLast_concat;show Im.ok ⟨op,a6D (ls++[A]),0,0,0,0,0,[],(ls++[A]).dropLast⟩ [] _=_;rw[e1,e2];rw[<-tH,hd1,<-hlen,List.drop_left]| @ind op A B h5 hA hB=>
   have hop:=a2K hk hn h5 zv;rw[wJ]at hns;obtain⟨nB,nT,rfl,hB',hT⟩:=hns.split;obtain⟨m,rfl,hm⟩:=hT.one;obtain⟨nx,e1,e2⟩:∃nx,V3 F L (V0 op) 5 l n.p (Z5 op (i+1))=.ok {Z5 op (i+1)with i:=nx,A:=A,B:=B}/\l.drop nx=t:=by rcases b1a hB' with⟨rfl,rfl⟩|⟨m2,rfl,hm2⟩;exact d1y (R:=Z5 op (i+1)) (m:=.mk 0 0 [] []) hA zv (Or.inl ⟨rfl,hd1⟩) hm rfl;exact d1y (R:=Z5 op (i+1)) hA hB (Or.inr ⟨hd1,hm2⟩) hm rfl
   refine⟨nx,?_,e2⟩;rw[a3q hop (a7l h5 zv) (by rw[h5];decide) (by rw[h5];exact e1)];rfl| @sel v h1 h4=>
   obtain⟨m,rfl,hm⟩:=hns.one;refine⟨i+2,?_,Q6 hd1⟩;have hop:a3r n.t=some 27:=by rw[hn,(b1P hk).f];rfl
   unfold a0m;rw[hop];show(match l[i+1]? with|none=>_|some n1=>_)=_;rw[a0c hd1];show bcase (W7 m.k (a0i m.l) _) (match a1k m n.p with|.ok t=>_|.er p e=>_) _=_;rw[(d4Y hm).1,o9,d5y h1 h4 hm]| @tbl op A h9 hA=>
   have hop:=a2K hk hn h9 zv;obtain⟨nx,e1,e2⟩:∃nx,b0D (K3 (F 2)) l n.p (Z5 op (i+1))=.ok {Z5 op (i+1)with i:=nx,A:=A}/\l.drop nx=t:=by rcases b1a hns with⟨rfl,rfl⟩|⟨m2,rfl,hm2⟩;exact d1C (R:=Z5 op (i+1)) (n:=.mk 0 0 [] []) zv (Or.inl ⟨rfl,hd1,hf⟩) rfl;exact d1C (R:=Z5 op (i+1)) hA (Or.inr ⟨hd1,hm2⟩) rfl
   refine⟨nx,?_,e2⟩;rw[a3q hop (a7l h9 zv) (by rw[h9];decide) (by rw[h9];exact e1)];rfl| @two op A B j hj h2 hA hB=>
   have hop:=a2K hk hn hj zy;have key:∀fs,∃nx,b1w (K3 fs) l n.p (Z5 op (i+1))=.ok {Z5 op (i+1)with i:=nx,A:=A,B:=B}/\l.drop nx=t:=λfs=>by cases q:Nat.beq A 0&&Nat.beq B 0 with|true=>rw[q]at hns;cases hns;rw[xM]at q;have hA0:A=0:=xS q.1;have hB0:B=0:=xS q.2;subst hA0;subst hB0;exact d0X (R:=Z5 op (i+1)) (n:=.mk 0 0 [] []) (m:=.mk 0 0 [] []) zv zv (Or.inl ⟨rfl,rfl,hd1,hf⟩) rfl rfl|false=>rw[q,m7]at hns;obtain⟨x,y,rfl,hx,hy⟩:=hns.two;exact d0X (R:=Z5 op (i+1)) hA hB (Or.inr ⟨hd1,hx,hy⟩) rfl rfl
   rcases h2 with rfl|rfl;obtain⟨nx,e1,e2⟩:=key (F 2);refine⟨nx,?_,e2⟩;rw[a3q hop (a7l hj zv) (by rw[hj];decide) (by rw[hj];exact e1)];rfl;obtain⟨nx,e1,e2⟩:=key (F 3);refine⟨nx,?_,e2⟩;rw[a3q hop (a7l hj zv) (by rw[hj];decide) (by rw[hj];exact e1)];rfl| @ini op A B j hj h2 hA hB=>
   have hop:=a2K hk hn hj zy;rw[wJ]at hns;obtain⟨nB,nT,rfl,hB',hT⟩:=hns.split;obtain⟨m,rfl,hm⟩:=hT.one;have key:∀f1 f2,∃nx,a5w (K3 f1) (K3 f2) l n.p (Z5 op (i+1))=.ok {Z5 op (i+1)with i:=nx,A:=A,B:=B}/\l.drop nx=t:=λf1 f2=>by rcases b1a hB' with⟨rfl,rfl⟩|⟨m2,rfl,hm2⟩;exact b8r (R:=Z5 op (i+1)) (m:=.mk 0 0 [] []) hA zv (Or.inl ⟨rfl,hd1,hm,hf⟩) rfl;exact b8r (R:=Z5 op (i+1)) hA hB (Or.inr ⟨hd1,hm2,hm⟩) rfl
   rcases h2 with rfl|rfl;obtain⟨nx,e1,e2⟩:=key (F 2) (F 5);refine⟨nx,?_,e2⟩;rw[a3q hop (a7l hj zv) (by rw[hj];decide) (by rw[hj];exact e1)];rfl;obtain⟨nx,e1,e2⟩:=key (F 3) (F 6);refine⟨nx,?_,e2⟩;rw[a3q hop (a7l hj zv) (by rw[hj];decide) (by rw[hj];exact e1)];rfl| @mem op B h13 hB=>
   have hop:=a2K hk hn h13 zv;obtain⟨nx,e1,e2⟩:∃nx,a3Y (K3 (F 3)) l n.p (Z5 op (i+1))=.ok {Z5 op (i+1)with i:=nx,B:=B}/\l.drop nx=t:=by rcases b1a hns with⟨rfl,rfl⟩|⟨m2,rfl,hm2⟩;exact b4e (R:=Z5 op (i+1)) (n:=.mk 0 0 [] []) zv (Or.inl ⟨rfl,hd1,hf.no hd1⟩) rfl;exact b4e (R:=Z5 op (i+1)) hB (Or.inr ⟨hd1,hm2⟩) rfl
   refine⟨nx,?_,e2⟩;rw[a3q hop (a7l h13 zv) (by rw[h13];decide) (by rw[h13];exact e1)];rfl| @acc op A B N h17 hA hB hN=>
   have hop:=a2K hk hn h17 zv;rw[wJ,wJ]at hns;obtain⟨nB,nT,rfl,hB',hT⟩:=hns.split;obtain⟨nO,nA,rfl,hO,hL⟩:=hT.split;have hO':(N=0/\nO=[])\/∃m,nO=[m]/\Is m (.w (a8p N)):=by cases q:Nat.beq N 0 with|true=>rw[q]at hO;cases hO;exact Or.inl ⟨xS q,rfl⟩|false=>rw[q,m7]at hO;exact Or.inr hO.one
   have hL':(A=V0 op/\nA=[])\/∃m,nA=[m]/\Is m (.w (a6B A)):=by cases q:Nat.beq A (V0 op)with|true=>rw[q]at hL;cases hL;exact Or.inl ⟨xS q,rfl⟩|false=>rw[q,m7]at hL;exact Or.inr hL.one
   obtain⟨nx,e1,e2⟩:=d9C (F:=F) (q:=n.p) (al:=V0 op) (R:=Z5 op (i+1)) hB hN hA (b1a hB') hO' hL' hf (by have h:=hd1;rw[wq,wq]at h;exact h) rfl rfl;refine⟨nx,?_,e2⟩;rw[a3q hop (a7l h17 zv) (by rw[h17];decide) (by rw[h17];exact e1)];rfl| @con op N j w hj h2 hN=>obtain⟨m,rfl,hm⟩:=hns.one;have hop:=a2K hk hn hj zy;refine⟨i+1+1,?_,Q6 hd1⟩;rw[a3q hop (a7l hj zy) ze (by rw[hj];exact e2A (R:=Z5 op (i+1)) h2 hN hd1 hm)];rfl| @null op A h20 hA=>obtain⟨m,rfl,hm⟩:=hns.one;have hop:=a2K hk hn h20 zv;refine⟨i+1+1,?_,Q6 hd1⟩;rw[a3q hop (a7l h20 zv) (by rw[h20];decide) (by rw[h20];exact d8u (R:=Z5 op (i+1)) hA hd1 hm)];rfl
end
end Go.Proofs.YtmomonnlmbljoaaGreatDoor
end
section
namespace Go.Proofs.YtmomonnlmbljoaaGreatDoor
open Go.V Go.RowKit Go.Shelf Go.Proofs
variable {mL:Int}
structure Fd (x:AI×List It):Prop where
 pl:Pl x.1 x.2
 kn:B3 (.ofNat x.1.op)=true
 el:x.1.op≠5
 en:x.1.op≠11
noncomputable def Y1:List (AI×List It)->List UInt8|[]=>[]|x::r=>40::(U5 x.1.op++(x.2.flatMap It.b++32::(Y1 r++[41])))
noncomputable def a9C:List (AI×List It)->List (Nat×List UInt8)|[]=>[]|x::r=>(0,[])::(((2,U5 x.1.op)::(x.2.flatMap It.k++a9C r))++[(1,[])])
noncomputable def a7c:List (AI×List It)->List Sp|[]=>[]|x::r=>[.l (.w (U5 x.1.op)::(x.2.map It.s++a7c r))]
theorem d2w:∀(r) {t} {kt},(∀x∈r,Fd x)->Lk t kt->Lk (Y1 r++t) (a9C r++kt):=by
 intro r;induction r with
  |nil=>intro t kt _ H;exact H|cons x r ih=>
   intro t kt hx H;have hf:=hx x zu;have nm:=b1P hf.kn;have h1:=ih (λy hy=>hx y (by simp[hy])) (Lk.cl H);have h2:=Lk.its x.2 hf.pl.ok (t:=32::(Y1 r++41::t)) rfl (Lk.ws (b:=32) rfl h1);have h3:=Lk.wd nm.ne nm.sg h2.2 h2.1;have e1:Y1 (x::r)++t=40::(U5 x.1.op++(x.2.flatMap It.b++32::(Y1 r++41::t))):=by show 40::(U5 x.1.op++(x.2.flatMap It.b++32::(Y1 r++[41])))++t=_;simp
   have e2:a9C (x::r)++kt=(0,[])::(2,U5 x.1.op)::(x.2.flatMap It.k++(a9C r++(1,[])::kt)):=by show(0,[])::(((2,U5 x.1.op)::(x.2.flatMap It.k++a9C r))++[(1,[])])++kt=_;simp
   rw[e1,e2];refine Lk.op ?_ h3;have hs:=nm.sg;have hne:=nm.ne;cases hW:U5 x.1.op with
    |nil=>exact absurd hW hne|cons b W=>
     rw[hW]at hs;intro h;have hb:b=59:=by cases h;rfl
     rw[tt,xM]at hs;exact(c4i hs.1).2.1 hb
theorem c8F:∀r,Bal (r.length+1) (a9C r) (a7c r):=by intro r;induction r with|nil=>exact .nil|cons x r ih=>have h1:Bal (r.length+1) (x.2.flatMap It.k++a9C r) (x.2.map It.s++a7c r):=((Bal.its x.2).up zy).app ih;exact .l (.w h1) .nil
theorem d1R {X its}(h:Pl X its):X.op≠2/\X.op≠3/\X.op≠4:=by have i2:w6 (.ofNat 2)=1:=zw;have i3:w6 (.ofNat 3)=1:=zw;have i4:w6 (.ofNat 4)=1:=zw;have key:∀op,w6 (.ofNat op)≠1->op≠2/\op≠3/\op≠4:=λop h=>⟨λe=>h (e▸i2),λe=>h (e▸i3),λe=>h (e▸i4)⟩;cases h with|none h0=>exact key _ (by rw[h0];decide)|one hj h1 _=>exact key _ ze|tab h3 _ _=>exact key _ (by rw[h3];decide)|ind h5 _ _=>exact key _ (by rw[h5];decide)|sel _ _=>exact⟨show(28:Nat)≠2 by decide,show(28:Nat)≠3 by decide,show(28:Nat)≠4 by decide⟩|tbl h9 _=>exact key _ (by rw[h9];decide)|two hj h2 _ _=>exact key _ ze|ini hj h2 _ _=>exact key _ ze|mem h13 _=>exact key _ (by rw[h13];decide)|acc h17 _ _ _=>exact key _ (by rw[h17];decide)|con hj h2 _=>exact key _ ze|null h20 _=>exact key _ (by rw[h20];decide)
theorem IsL.none {ns}(h:IsL ns []):ns=[]:=by cases h;rfl
theorem b9z {r}(hx:∀x∈r,Fd x){ns}(h:IsL ns (a7c r)):Fol ns:=by cases r with|nil=>rw[h.none];exact Fol.nil|cons x r=>obtain⟨n,rfl,hn⟩:=h.one;obtain⟨h1,h2,h3⟩:=hn.ls;have nm:=b1P (hx x zu).kn;intro m u e;cases e;cases hl:n.l with|nil=>rw[hl]at h3;cases h3|cons a b=>rw[hl]at h3;cases h3 with|cons k1 k2=>obtain⟨j1,j2,j3⟩:=k1.wd;refine⟨?_,?_,?_,?_,?_,?_⟩;rw[h1];rfl;rw[h1];rfl;rw[h1];rfl;rw[h1];rfl;rw[h1,hl];show(decide ((0:Nat)=0)&&(decide (a.k=2)&&beqBytes a.t _))=false;rw[j2,nm.re];simp;rw[h1,hl];show(decide ((0:Nat)=0)&&(decide (a.k=2)&&beqBytes a.t _))=false;rw[j2,nm.ty];simp
theorem c6t (F L):∀(r) (x) (m) (n),(∀y∈x::r,Fd y)->Is n (.l (.w (U5 x.1.op)::(x.2.map It.s++a7c r)))->r.length<m->C7 F m L n=.ok ((x::r).reverse.map (·.1)):=by
 intro r;induction r with
  |nil=>
   intro x m n hx hn hm;obtain⟨m,rfl⟩:∃j,m=j+1:=⟨m-1,zy⟩;have hf:=hx x zu;have nm:=b1P hf.kn;obtain⟨h1,h2,h3⟩:=hn.ls;cases hl:n.l with
    |nil=>rw[hl]at h3;cases h3|cons w ns=>
     rw[hl]at h3;cases h3 with
      |cons k1 k2=>
       obtain⟨j1,j2,j3⟩:=k1.wd;obtain⟨n1,n2,rfl,g1,g2⟩:=k2.split;rw[a7w F m L n w _ hl,xL j1,o9];have e1:a3F w.t=false:=by rw[j2,nm.el];exact Q5 hf.el
       have e2:isEn w.t=false:=by rw[j2,nm.en];exact Q5 hf.en
       rw[e1,e2,tc,m7];obtain⟨nx,i1,i2⟩:=b5W (F:=F) (L:=L) (i:=0) (l:=n.l) (t:=n2) hf.pl hf.kn j2 (by rw[hl];rfl) g1 (b9z (λy hy=>by cases hy) g2);have e3:=g2.none;subst e3;obtain⟨o2,o3,o4⟩:=d1R hf.pl;rw[i1];show bcase (decide (x.1.op=2)||decide (x.1.op=3)) _ (bcase (decide (x.1.op=4)) _ (a7u (C7 F m L) x.1 (n.l.drop nx)))=_;rw[xO o2,xO o3,xO o4,i2];rfl
  |cons x' r ih=>
   intro x m n hx hn hm;obtain⟨m,rfl⟩:∃j,m=j+1:=⟨m-1,zy⟩;have hf:=hx x zu;have nm:=b1P hf.kn;obtain⟨h1,h2,h3⟩:=hn.ls;cases hl:n.l with
    |nil=>rw[hl]at h3;cases h3|cons w ns=>
     rw[hl]at h3;cases h3 with
      |cons k1 k2=>
       obtain⟨j1,j2,j3⟩:=k1.wd;obtain⟨n1,n2,rfl,g1,g2⟩:=k2.split;rw[a7w F m L n w _ hl,xL j1,o9];have e1:a3F w.t=false:=by rw[j2,nm.el];exact Q5 hf.el
       have e2:isEn w.t=false:=by rw[j2,nm.en];exact Q5 hf.en
       rw[e1,e2,tc,m7];have hx':∀y∈x'::r,Fd y:=λy hy=>hx y (wY _ hy);obtain⟨nx,i1,i2⟩:=b5W (F:=F) (L:=L) (i:=0) (l:=n.l) (t:=n2) hf.pl hf.kn j2 (by rw[hl];rfl) g1 (b9z hx' g2);obtain⟨y,rfl,hy⟩:=g2.one;obtain⟨o2,o3,o4⟩:=d1R hf.pl;have hih:=ih x' m y hx' hy (by simp only[xH]at hm;omega);rw[i1];show bcase (decide (x.1.op=2)||decide (x.1.op=3)) _ (bcase (decide (x.1.op=4)) _ (a7u (C7 F m L) x.1 (n.l.drop nx)))=_;rw[xO o2,xO o3,xO o4,i2];show a7u (C7 F m L) x.1 [y]=_;unfold a7u;have e4:a5C (C7 F m L) [y] []=.ok ((x'::r).reverse.map (·.1)):=by show bcase (decide (y.k=0)) (match C7 F m L y with|.ok T1=>Ps.ok ([]++T1)|.er p e=>.er p e) _=_;rw[hy.ls.1,hih];rfl
       rw[e4];show Ps.ok ((x'::r).reverse.map (·.1)++[x.1])=_;rw[uI (a:=x),wJ];rfl
theorem d6G (a b):zs (a++b)=zs a+zs b:=by induction a with|nil=>show zs b=0+zs b;omega|cons x a ih=>show x.z+zs (a++b)=x.z+zs a+zs b;rw[ih];omega
theorem d4K:∀(r) (ns),IsL ns (a7c r)->r.length<=zs ns:=by intro r;induction r with|nil=>intro ns _;exact wR _|cons x r ih=>intro ns h;obtain⟨n,rfl,hn⟩:=h.one;obtain⟨h1,h2,h3⟩:=hn.ls;have e:zs [n]=n.z+0:=rfl;have e2:=a6x n;cases hl:n.l with|nil=>rw[hl]at h3;cases h3|cons w ns=>rw[hl]at h3;cases h3 with|cons k1 k2=>obtain⟨n1,n2,rfl,g1,g2⟩:=k2.split;have:=ih n2 g2;rw[hl]at e2;have e3:zs (w::(n1++n2))=w.z+zs (n1++n2):=rfl;rw[d6G]at e3;rw[xH];omega
theorem c8W (F L r)(hx:∀x∈r,Fd x)(l)(h:IsL l (a7c r))(n)(hn:zs l<=n):W6 (C7 F n) F L l=.ok (r.reverse.map (·.1)):=by cases r with|nil=>rw[h.none];rfl|cons x r=>have hz:=d4K (x::r) l h;obtain⟨y,rfl,hy⟩:=h.one;have hs:=c6t F L r x n y hx hy (by simp only[xH]at hz;omega);show bcase (decide (y.k=0)) (match C7 F n L y with|.ok T1=>a6z (C7 F n) F [y] 1 1 [] L ([]++T1)|.er p e=>.er p e) _=_;rw[hy.ls.1,hs];rfl
theorem c4k (r)(hx:∀x∈r,Fd x)(hr:r.length<199):∃l j,a4H (Y1 r)=.ok l j/\IsL l (a7c r):=by have h1:=d2w r hx Lk.nil;rw[xJ,xJ]at h1;exact c8U h1 ((c8F r).up zy)
end Go.Proofs.YtmomonnlmbljoaaGreatDoor
end
section
namespace Go.Proofs.YtmomonnlmbljoaaGreatDoor
open Go.V Go.RowKit Go.Shelf Go.Proofs
variable {mL:Int}
attribute [local congr] m0 l9 n8 n9 q9 m8 s9 A1 A0
theorem e1E (m n v):a5z tab 90 (.map (some m)) (.int .i64 n) v=M.bind (a4M m) λes=>M.obind (U6 (.int .i64 n) es) λ_=>fList (a3e (.int .i64 n) v es) λes'=>wr m (.map es'):=zw
theorem c9Z {m c h r w es n v x}(hm:m<c)(e:h.get m=some (.map es))(hf:U6 (.int .i64 n) es=some x):go (c2w tab 90 (.map (some m)) (.int .i64 n) v) ⟨c,h,r,w⟩=some (undef,⟨c,V.O2 h m (.map (a3e (.int .i64 n) v es)),m::r,m::w⟩):=by unfold c2w;rw[e1E,B4,B4,a7N m c h r w es hm e,B2,hf,r9,M4];show H7 (wr m _ ⟨c,h,m::r,w⟩) _=_;rw[b1r,A5 hm,e];rfl
theorem c1R (c h r w):go c2F ⟨c,h,r,w⟩=some (.map (some c),⟨c+1,V.O2 h c (.map []),r,c::w⟩):=by unfold c2F;rw[B4];show H7 (new _ _) _=_;rw[c1U];rfl
noncomputable def esN (c:Nat):Nat->List (Value×Value)|0=>[]|i+1=>a3e (.int .i64 (.ofNat i)) (.pointer (some ⟨c+3+2*i,0,some 0⟩)) (esN c i)
theorem a9T (a b):V4 (.int .i64 (.ofNat a)) (.int .i64 (.ofNat b))=some (decide (a=b)):=by have e:V4 (.int .i64 (.ofNat a)) (.int .i64 (.ofNat b))=some (decide (Int.ofNat a=Int.ofNat b)):=rfl;rw[e,di]
theorem c8Q (k j v):∀es,(∀e∈es,∃n,e.1=.int .i64 (.ofNat n))->U6 (.int .i64 (.ofNat k)) (a3e (.int .i64 (.ofNat j)) v es)=bcase (decide (k=j)) (some (some v)) (U6 (.int .i64 (.ofNat k)) es):=by
 intro es;induction es with
  |nil=>intro _;show(match V4 (.int .i64 (.ofNat k)) (.int .i64 (.ofNat j))with|none=>none|some true=>some (some v)|some false=>some none)=_;rw[a9T];cases decide (k=j)<;>rfl|cons e es ih=>
   intro h;obtain⟨n,hn⟩:=h e zu;obtain⟨e1,e2⟩:=e;simp only at hn;subst hn;have hih:=ih λe he=>h e (wY _ he);have e0:a3e (.int .i64 (.ofNat j)) v ((.int .i64 (.ofNat n),e2)::es)=(match V4 (.int .i64 (.ofNat j)) (.int .i64 (.ofNat n))with|some true=>(.int .i64 (.ofNat j),v)::es|_=>(.int .i64 (.ofNat n),e2)::a3e (.int .i64 (.ofNat j)) v es):=rfl;rw[e0,a9T];have e3:∀(q:Nat) (x:Value) (l:List (Value×Value)),U6 (.int .i64 (.ofNat k)) ((.int .i64 (.ofNat q),x)::l)=bcase (decide (k=q)) (some (some x)) (U6 (.int .i64 (.ofNat k)) l):=λq x l=>by show(match V4 (.int .i64 (.ofNat k)) (.int .i64 (.ofNat q))with|none=>none|some true=>some (some x)|some false=>U6 (.int .i64 (.ofNat k)) l)=_;rw[a9T];cases decide (k=q)<;>rfl
   by_cases h1:j=n;subst h1;rw[xL rfl];show U6 _ ((.int .i64 (.ofNat j),v)::es)=_;rw[e3,e3];by_cases h2:k=j;rw[xL h2];rfl;rw[xO h2];rfl;rw[xO h1];show U6 _ ((.int .i64 (.ofNat n),e2)::a3e _ v es)=_;rw[e3,e3,hih];by_cases h2:k=j;rw[xL h2,xO (show¬k=n by omega)];rfl;rw[xO h2];rfl
theorem d0q (j v):∀es,(∀e∈es,∃n,e.1=.int .i64 (.ofNat n))->∀e∈a3e (.int .i64 (.ofNat j)) v es,∃n,e.1=.int .i64 (.ofNat n):=by intro es;induction es with|nil=>intro _ e he;have:e=(.int .i64 (.ofNat j),v):=wx.1 he;rw[this];exact⟨j,rfl⟩|cons x es ih=>intro h e he;obtain⟨n,hn⟩:=h x zu;obtain⟨x1,x2⟩:=x;simp only at hn;subst hn;have e0:a3e (.int .i64 (.ofNat j)) v ((.int .i64 (.ofNat n),x2)::es)=(match V4 (.int .i64 (.ofNat j)) (.int .i64 (.ofNat n))with|some true=>(.int .i64 (.ofNat j),v)::es|_=>(.int .i64 (.ofNat n),x2)::a3e (.int .i64 (.ofNat j)) v es):=rfl;rw[e0,a9T]at he;cases q:decide (j=n)with|true=>rw[q]at he;rcases wG.1 he with k|k;rw[k];exact⟨j,rfl⟩;exact h e (wY _ k)|false=>rw[q]at he;rcases wG.1 he with k|k;rw[k];exact⟨n,rfl⟩;exact ih (λe he=>h e (wY _ he)) e k
theorem c8s (c):∀i,∀e∈esN c i,∃n,e.1=.int .i64 (.ofNat n):=by intro i;induction i with|zero=>intro e he;cases he|succ i ih=>exact d0q i _ _ ih
theorem c0u (c k):∀i,U6 (.int .i64 (.ofNat k)) (esN c i)=bcase (decide (k<i)) (some (some (.pointer (some ⟨c+3+2*k,0,some 0⟩)))) (some none):=by intro i;induction i with|zero=>rfl|succ i ih=>show U6 _ (a3e _ _ (esN c i))=_;rw[c8Q k i _ _ (c8s c i),ih];by_cases h1:k=i;subst h1;rw[xL rfl,xL (xG k)];rfl;rw[xO h1];by_cases h2:k<i;rw[xL h2,xL (show k<i+1 by omega)];rfl;rw[xO h2,xO (show¬k<i+1 by omega)];rfl
structure NI (c0:Nat) (h0:Trie VObj) (i c:Nat) (h:Trie VObj):Prop where
 c:c=c0+2+2 * i
 fr:∀ j,j<c0→h.get j=h0.get j
 m:h.get c0=some (.map (esN c0 i))
 s:h.get (c0+1)=some (.cells [(.map (some c0), 0),(.slice none 0 0, 0)] 0 false)
 k:∀ j,j<i→h.get (c0+2+2 * j)=some (.map [])∧h.get (c0+3+2 * j)=some (.cells [(.int .i64 (.ofNat 0), 0),(.slice none 0 0, 0),(.map (some (c0+2+2 * j)), 0)] 0 false)
theorem e0z (n):j0 r7 (n+1) 21 []=c4S i7 NN (j0 r7 n):=e5H (q:=c4S) (N:=NN) zw n
section
variable {c0:Nat}{h0:Trie VObj}
theorem n21 (call):∀(k e i c) (h) (xs) (r w),i+k=9->NI c0 h0 i c h->r6 xs 12=.int .i64 (.ofNat i)->d8 (go (I9 (d1u i7 NN call (.pointer (some ⟨c0+1,0,some 0⟩))) (k+1+e) xs) ⟨c,h,r,w⟩) λy s=>∃xs',y=(.exit 0,xs')/\NI c0 h0 9 s.c s.h:=by
 intro k;induction k with
  |zero=>intro e i c h xs r w hi H h1;rw[wm 0 1 e,N7];have:i=9:=zy;subst this;have e0:decide (9<9)=false:=rfl;simp(disch:=try exact dz)only[d6y,h1,dL,↓gP,gY,gT,Nat.reduceLT];exact d8.done ⟨_,rfl,H⟩|succ k ih=>
   intro e i c h xs r w hi H h1;rw[wm (k+1) 1 e,N7];have e0:decide (i<9)=true:=xL zy;have hinc:=B8 i zy;obtain⟨hc,hfr,hm,hs,hk⟩:=H;have b1:c0+1<c:=zy;have b2:c0+1≠c:=zy;have b3:c0+1≠c+1:=zy;have b4:c0≠c:=zy;have b5:c0≠c+1:=zy;have b6:c0≠c0+1:=zy;have hf:U6 (.int .i64 (.ofNat i)) (esN c0 i)=some none:=by rw[c0u,xO (wD i)];rfl
   have hfill:a3a [(2,1)] [.map (some c)] [.int .i64 (.ofNat 0),.slice none 0 0,.map none]=some [.int .i64 (.ofNat 0),.slice none 0 0,.map (some c)]:=rfl;have hone:(A9 D5 [.int .i64 (.ofNat 0),.slice none 0 0,.map (some c)]&& !(a0l [Value.int .i64 (.ofNat 0),.slice none 0 0,.map (some c)]))=true:=rfl;have hup2:=λ(h':Trie VObj) (r w:List Nat)=>a1t (c+1) h' r w [Value.int .i64 (.ofNat 0),.slice none 0 0,.map (some c)] hone;simp(disch:=try exact dz)only[d6y,h1,dL,e0,hs,c1R,hinc,hfill,r9,hup2,a1z,a2z,↓gP,gY];rw[c9Z (es:=esN c0 i) (x:=none) zy (by rw[c9 b5,c9 b4];exact hm) hf,B2];simp(disch:=try exact dz)only[↓gP,gY];refine ih e (i+1) (c+1+1) _ _ _ _ zy ⟨zy,λj hj=>?_,?_,?_,λj hj=>?_⟩ rfl;have k1:j≠c:=zy;have k2:j≠c+1:=zy;have k3:j≠c0:=zy;simp(disch:=first|assumption|omega)only[c9];exact hfr j hj;rw[d9];have e1:c+1=c0+3+2*i:=zy;rw[e1];rfl;have k3:c0+1≠c0:=zy;simp(disch:=first|assumption|omega)only[c9];exact hs;rcases wK j i with k|k;obtain⟨g1,g2⟩:=hk j k;have k1:c0+2+2*j≠c:=zy;have k2:c0+2+2*j≠c+1:=zy;have k3:c0+2+2*j≠c0:=zy;have k4:c0+3+2*j≠c:=zy;have k5:c0+3+2*j≠c+1:=zy;have k6:c0+3+2*j≠c0:=zy;simp(disch:=first|assumption|omega)only[c9];exact⟨g1,g2⟩;have:j=i:=zy;subst this;have e1:c0+3+2*j=c+1:=zy;have e2:c0+2+2*j=c:=zy;rw[e1,e2];have k1:c≠c+1:=zy;have k2:c≠c0:=zy;have k3:c+1≠c0:=zy;simp(disch:=first|assumption|omega)only[c9,d9];exact⟨trivial,trivial⟩
theorem t21 (m r w):d8 (go (j0 r7 (m+1) 21 []) ⟨c0,h0,r,w⟩) λx s=>x=.ret (.pointer (some ⟨c0+1,0,some 0⟩))/\c0+1<s.c/\(∀i,i<c0->s.h.get i=h0.get i)/\ScS (c0+1) c0 (λ_=>[]) [] s.c s.h ⟨none,0,0⟩ (λi=>i<s.c/\i≠c0+1):=by
 have hNN:90001<=NN:=zv;obtain⟨e,hNe⟩:∃e,NN=9+1+e:=⟨NN-10,zy⟩;have hfill:a3a [(0,1)] [.map (some c0)] [.map none,.slice none 0 0]=some [.map (some c0),.slice none 0 0]:=rfl;have hone:(A9 D5 [.map (some c0),.slice none 0 0]&& !(a0l [Value.map (some c0),.slice none 0 0]))=true:=rfl;have hbx:=λ(h':Trie VObj) (r w:List Nat)=>a1t (c0+1) h' r w [Value.map (some c0),.slice none 0 0] hone;rw[e0z];simp(disch:=try exact dz)only[G21,c1R,hfill,r9,hbx,a1z,a2z,↓gP,gY];have H0:NI c0 h0 0 (c0+1+1) (V.O2 (V.O2 h0 c0 (.map [])) (c0+1) (.cells [(.map (some c0),0),(.slice none 0 0,0)] 0 false)):=by have k1:c0≠c0+1:=zy;refine⟨zy,λj hj=>?_,?_,d9 _ _ _,λj hj=>zy⟩;have k2:j≠c0:=zy;have k3:j≠c0+1:=zy;simp(disch:=first|assumption|omega)only[c9];rw[c9 k1,d9];rfl
 have hloop:=n21 (j0 r7 m) 9 e 0 (c0+1+1) _ [undef,undef,undef,undef,undef,undef,undef,undef,undef,undef,undef,undef,.int .i64 (.ofNat 0)] r ((c0+1)::c0::w) rfl H0 rfl;rw[<-hNe]at hloop;refine d8.bindJ hloop λy xs' s hq=>?_;obtain⟨c',h',r',w'⟩:=s;obtain⟨xs1,f1,H⟩:=hq;cases f1;obtain⟨hc,hfr,hm,hs,hk⟩:=H;simp only at hc hfr hm hs hk;simp(disch:=try exact dz)only[a1d,↓gP,gY];refine d8.done ⟨rfl,zc,hfr,zc,hs,K9.nil _ _ _,λi hi=>(by obtain⟨a,h,_⟩:=hi;cases h),⟨⟨zc,zy⟩,⟨esN c0 9,hm,λk hk9=>?_⟩,λk hk T=>Or.inr rfl⟩,λi hi=>⟨hi.1,hi.2,λho=>(by obtain⟨a,h,_⟩:=ho;cases h)⟩⟩;obtain⟨g1,g2⟩:=hk k hk9;refine⟨c0+3+2*k,0,0,_,0,false,_,_,c0+2+2*k,?_,⟨zc,zy⟩,g2,rfl,⟨zc,zy⟩,g1⟩;rw[c0u,xL hk9];rfl
end
end Go.Proofs.YtmomonnlmbljoaaGreatDoor
end
section
namespace Go.Proofs.YtmomonnlmbljoaaGreatDoor
open Go.V Go.RowKit Go.Shelf Go.Proofs
variable {mL:Int}
attribute [local congr] m0 l9 n8 n9 q9 m8 s9 A1 A0
theorem ScS.mono {sb m F L c c' h h' u U}(H:ScS sb m F L c h u U)(hc:c<=c')(hs:∀i,i<c->h'.get i=h.get i):ScS sb m F L c' h' u (λi=>U i\/c<=i/\i<c'):=⟨xI H.s hc,(hs _ H.s).trans H.hs,H.la.mono hc λb k _=>hs b k,H.lo,H.sc.mono λi hi=>⟨Or.inl hi,hs i (H.u i hi).1⟩,λi hi=>by rcases hi with k|⟨k1,k2⟩;exact⟨xI (H.u i k).1 hc,(H.u i k).2⟩;have:=H.s;exact⟨k2,zy,λho=>by have:=H.la.own_lt ho;omega⟩⟩
theorem e3j (n a b):j0 r7 (n+1) 20 [a,b]=c3U i7 NN (j0 r7 n) a b:=Z9 (q:=c3U) (N:=NN) zw n a b
def e3U (sb mm:Nat)(F:Nat->List (Value×Value))(L:List (List UInt8))(T:List UInt8)(c:Nat)(h:Trie VObj)(U:Nat->Prop)(x:CR)(s:V.S):Prop:=c<=s.c/\(∀i,U i->s.h.get i=h.get i)/\(∃la' U',ScS sb mm F L s.c s.h la' U'/\∀i,U i->U' i)/\((∃p e,a4H T=.er p e/\x=.ret (.tuple ⟨[.slice none 0 0,.int .i64 (.ofNat 0),.int .i64 (.ofNat e),.bool false]⟩))\/(∃l j,a4H T=.ok l j/\zs l<=4*(T.length+1)/\((∃X u Rs U',W6 (C7 F (zs l)) F L l=.ok X/\x=.ret (.tuple ⟨[.slice u.a u.n u.e,.int .i64 (.ofNat 0),.int .i64 (.ofNat 0),.bool true]⟩)/\K9 9 s.c s.h u (Rs.flatMap a0y)/\RIs U' s.h Rs X/\(∀i,U' i->i<s.c)/\X.length<=zs l)\/(∃p e,W6 (C7 F (zs l)) F L l=.er p e/\x=.ret (.tuple ⟨[.slice none 0 0,.int .i64 (.ofNat p),.int .i64 (.ofNat e),.bool true]⟩)))))
theorem t20 {sb mm F L T c h la U}(H:ScS sb mm F L c h la U)(hT:T.length<19000)(hL:L.length<100)(M)(hM:300000<=M)(r w):d8 (go (j0 r7 (M+1) 20 [.string ⟨⟨T⟩⟩,.pointer (some ⟨sb,0,some 0⟩)]) ⟨c,h,r,w⟩) (e3U sb mm F L T c h U):=by rw[e3j];simp(disch:=try exact dz)only[G20,↓gP];obtain⟨M1,rfl⟩:∃k,M=k+1:=⟨M-1,zy⟩;refine d8.bindC (t27 zy M1 zy c h _ _) λx s hq=>?_;obtain⟨c1,h1,r1,w1⟩:=s;obtain⟨f1,f2,⟨l,j,v,f3,rfl,f4,f5⟩|⟨p,e,f3,f4,rfl⟩⟩:=hq;have f1:c<=c1:=f1;simp(disch:=try exact dz)only[↓gP,gY,gT];have hcopy:=d7V (zs l) (M1+1-(zs l+1)) _ v l c1 h1 r1 w1 f4 (λi hi=>hi.2) (xR _);have e1:M1+1-(zs l+1)+zs l+1=M1+1:=zy;rw[e1]at hcopy;refine d8.bindC hcopy λx s hq=>?_;obtain⟨c2,h2,r2,w2⟩:=s;obtain⟨g1,g2,g3,v2,rfl,g4⟩:=hq;have g1:c1<=c2:=g1;simp(disch:=try exact dz)only[↓gP,gY];have H2:=H.mono (c':=c2) (h':=h2) zy λi hi=>(g2 i zy).trans (f2 i hi);have hp:=t29 H2 (g4.mono λb k=>⟨Or.inr ⟨by have:=k.1;omega,k.2⟩,rfl⟩) (xR _) zy (M1+1-(3*zs l+14)) r2 w2;have e2:M1+1-(3*zs l+14)+3*zs l+14=M1+1:=zy;rw[e2]at hp;refine d8.bindC hp λx s hq=>?_;obtain⟨c3,h3,r3,w3⟩:=s;obtain⟨k1,k2,⟨la',U',k3,k4⟩,hor⟩:=hq;have k1:c2<=c3:=k1;have kfr:∀i,U i->h3.get i=h.get i:=λi hi=>(k2 i (Or.inl hi)).trans ((g2 i (by have:=(H.u i hi).1;omega)).trans (f2 i (H.u i hi).1));rcases hor with⟨X,u,Rs,U2,j1,rfl,j2,j3,j5,j4⟩|⟨p,e,j1,rfl⟩;simp(disch:=try exact dz)only[↓gP,gY];refine d8.done ⟨zc,kfr,⟨la',U',k3,λi hi=>k4 i (Or.inl hi)⟩,Or.inr ⟨l,j,f3,f5,Or.inl ⟨X,u,Rs,U2,j1,rfl,j2,j3,j5,j4⟩⟩⟩;simp(disch:=try exact dz)only[↓gP,gY];refine d8.done ⟨zc,kfr,⟨la',U',k3,λi hi=>k4 i (Or.inl hi)⟩,Or.inr ⟨l,j,f3,f5,Or.inr ⟨p,e,j1,rfl⟩⟩⟩;have q8:decide (e=0)=false:=xO f4;simp(disch:=try exact dz)only[di,q8,↓gP,gY,gT];have f1:c<=c1:=f1;exact d8.done ⟨f1,λi hi=>f2 i (H.u i hi).1,⟨la,_,H.mono f1 f2,λi hi=>Or.inl hi⟩,Or.inl ⟨p,e,f3,rfl⟩⟩
end Go.Proofs.YtmomonnlmbljoaaGreatDoor
end
