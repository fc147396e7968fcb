import Derived.Test.YtmomonnlmbljoaaGreatDoorBbp
set_option maxRecDepth 1000000
set_option maxHeartbeats 4000000
set_option linter.unusedVariables false
set_option linter.unusedSimpArgs false
section
namespace Go.Proofs.YtmomonnlmbljoaaGreatDoor
open Go.V Go.RowKit Go.Shelf Go.Proofs
variable {mL:Int}
theorem c3d {u}(h:u<10):Lib.decDigits u=[UInt8.ofNat (48+u)]:=by rw[Lib.decDigits,dif_pos h]
theorem d0s {u}(h:¬u<10):Lib.decDigits u=Lib.decDigits (u/10)++[UInt8.ofNat (48+u%10)]:=by rw[Lib.decDigits,dif_neg h]
theorem c6J {n:Nat}(h:n<256):(UInt8.ofNat n).toNat=n:=by rw[UInt8.toNat_ofNat'];omega
theorem e2E {d}(h:d<10):dgN (48+d)=some d:=by unfold dgN;have e1:Nat.ble 48 (48+d)=true:=a1l zy;have e2:Nat.ble (48+d) 57=true:=a1l zy;rw[e1,e2];show some (48+d-48)=some d;rw[uK]
theorem c4J:∀(n u),u<n->Lib.decDigits u≠[]/\∀b∈Lib.decDigits u,48<=b.toNat/\b.toNat<=57:=by intro n;induction n with|zero=>intro u h;omega|succ n ih=>intro u hu;by_cases h:u<10;rw[c3d h];refine⟨zq,λb hb=>?_⟩;rw[vW]at hb;subst hb;rw[c6J zy];omega;rw[d0s h];obtain⟨h1,h2⟩:=ih (u/10) zy;refine⟨zq,λb hb=>?_⟩;rcases ut.1 hb with k|k;exact h2 b k;rw[vW]at k;subst k;rw[c6J zy];omega
theorem c2n (u):Lib.decDigits u≠[]:=(c4J (u+1) u (wE u)).1
theorem c2w {u b}(h:b∈Lib.decDigits u):48<=b.toNat/\b.toNat<=57:=(c4J (u+1) u (wE u)).2 b h
theorem e5W {n}(h1:48<=n)(h2:n<=57):sgN n=true:=by have hall:J2 (λn=>!(Nat.ble 48 n&&Nat.ble n 57)||sgN n) (upN 256)=true:=zw;have:=(M4 _ _).1 hall n (uI.2 zy);rw[a1l h1,a1l h2]at this;simpa using this
theorem b2X (u):(Lib.decDigits u).all (λb=>sgN b.toNat)=true:=by rw[rq];intro b hb;obtain⟨h1,h2⟩:=c2w hb;exact e5W h1 h2
theorem d5y:∀(n u) (l) (bt),u<n->u<18446744073709551616->dig 10 (Lib.decDigits u++l) 0 false bt=dig 10 l u false true:=by
 have step:∀(d m:Nat) (l:List UInt8) (bt:Bool),d<10->m*10+d<18446744073709551616->dig 10 (UInt8.ofNat (48+d)::l) m false bt=dig 10 l (m*10+d) false true:=by
  intro d m l bt hd hm;conv=>lhs;unfold dig
  rw[c6J zy,e2E hd];have e1:decide (48+d=95)=false:=wP zy;have e2:decide (d<10)=true:=wL hd;have e3:decide (18446744073709551616<=m*10+d)=false:=wP zy;rw[e1,uU,y9];show bcase (decide (d<10)) _ _=_;rw[e2,A9,e3,uF hm];rfl
 intro n;induction n with|zero=>intro u l bt h;omega|succ n ih=>intro u l bt hu h64;by_cases h:u<10;rw[c3d h,qy,step u 0 l bt h zy,tT,vV];rw[d0s h,vw,ih (u/10) _ bt zy zy,qy,step (u%10) (u/10) l true zy zy];have:u/10*10+u%10=u:=zy;rw[this]
theorem d6F (u):c2p (Lib.decDigits u)=false:=by
 unfold c2p;have:beqBytes (a0x (Lib.decDigits u) 2) [48,120]=false:=by cases q:beqBytes (a0x (Lib.decDigits u) 2) [48,120]with|false=>rfl|true=>have h:=a4X q;rw[a2m]at h;have h1:(120:UInt8)∈(Lib.decDigits u).take 2:=zX;have:=(c2w (List.mem_of_mem_take h1)).2;have e:(120:UInt8).toNat=120:=rfl;omega
 rw[this,uD]
theorem b7t {u}(h:u<18446744073709551616):a1w (Lib.decDigits u)=(u,false,true):=by unfold a1w;have:=d5y (u+1) u [] false (wE u) h;rw[wH]at this;rw[d6F,y9,this];rfl
theorem b7h {u}(h:u<4294967296):a4z (Lib.decDigits u)=(u,0):=by unfold a4z;rw[b7t zy];have e:decide (4294967295<u)=false:=wP zy;show bcase true (bcase (false||decide (4294967295<u)) _ _) _=_;rw[e];rfl
theorem b5g (u):∃b t,Lib.decDigits u=b::t/\48<=b.toNat/\b.toNat<=57:=by cases h:Lib.decDigits u with|nil=>exact absurd h (c2n u)|cons b t=>have:=c2w (u:=u) (b:=b) zX;exact⟨b,t,rfl,this.1,this.2⟩
theorem b1p (u):b7G (Lib.decDigits u)=true:=by obtain⟨b,t,h,h1,h2⟩:=b5g u;rw[h];show c5J b=true;unfold c5J;have e1:decide (48<=b.toNat)=true:=wL h1;have e2:decide (b.toNat<=57)=true:=wL h2;simp[h1,h2]
theorem c4v (u):a0y (Lib.decDigits u) [36]=false:=by
 obtain⟨b,t,h,h1,h2⟩:=b5g u;rw[h];unfold a0y;have e:beqBytes (a0x (b::t) [(36:UInt8)].length) [36]=false:=by
  cases q:beqBytes (a0x (b::t) [(36:UInt8)].length) [36]with
   |false=>rfl|true=>
    have h:=a4X q;rw[a2m]at h;have hb:b=36:=by have:=wB (λl=>l.head?) h;simpa using this
    rw[hb]at h1;have e:(36:UInt8).toNat=36:=rfl;omega
 rw[e,uD]
theorem a6D {fs u}(h:u<4294967296):X6 fs (Lib.decDigits u)=(u,0):=by unfold X6;rw[c4v,y9,b7h h]
theorem c5b {L u}(h:u<4294967296):a0q L (Lib.decDigits u)=(u,0):=by unfold a0q;rw[c4v,y9,b7h h]
def b3Q (w n:Nat):Int:=if n<2^(w-1)then(n:Int)else(n:Int)-2^w
theorem d6A (u):c5l (Lib.decDigits u)=false/\a9A (Lib.decDigits u)=false:=by obtain⟨b,t,h,h1,h2⟩:=b5g u;rw[h];have e1:decide (b.toNat=45)=false:=wP zy;have e2:decide (b.toNat=43)=false:=wP zy;exact⟨by show(decide (b.toNat=45)||decide (b.toNat=43))=false;rw[e1,e2];rfl,e1⟩
theorem c4q {u gr}(h:u<18446744073709551616)(hg:u<=gr):a1t (Lib.decDigits u) gr=(u,0):=by unfold a1t a2n;obtain⟨h1,h2⟩:=d6A u;rw[h1,y9,b7t h,h2];have e:decide (gr<u)=false:=wP zy;show bcase true (bcase (false||bcase false _ (decide (gr<u))) _ (bcase false _ (u,0))) _=_;rw[e];rfl
theorem d5t {m gr k}(h1:1<=m)(hk:k<=64)(hk0:1<=k)(hg:gr=2^k-1)(hm:m<=2^(k-1)):a1t (45::Lib.decDigits m) gr=(2^k-m,0):=by
 have hp:2^k=2*2^(k-1):=by obtain⟨j,rfl⟩:∃j,k=j+1:=⟨k-1,zy⟩;rw[oQ,Nat.pow_succ,Nat.mul_comm]
 have h64:(2:Nat)^k<=2^64:=pM zu hk;have h64':(2:Nat)^64=18446744073709551616:=zu;have hpos:1<=2^(k-1):=Nat.one_le_two_pow;unfold a1t a2n;have e1:c5l (45::Lib.decDigits m)=true:=rfl;have e2:a9A (45::Lib.decDigits m)=true:=rfl;have e3:H9 (45::Lib.decDigits m) 1=Lib.decDigits m:=by rw[a0D];rfl
 rw[e1,e2,A9,e3,b7t zy];have e4:decide (gr/2+1<m)=false:=wP zy;show bcase true (bcase (false||bcase true (decide (gr/2+1<m)) _) _ (bcase true (Nat.land (a7Z m) gr,0) _)) _=_;rw[e4];show(Nat.land (a7Z m) gr,0)=_;have e5:a7Z m=18446744073709551616-m:=by unfold a7Z;omega
 have e6:Nat.land (a7Z m) gr=2^k-m:=by
  show a7Z m&&&gr=_;rw[hg,pO,e5];obtain⟨q,hq⟩:∃q,(18446744073709551616:Nat)=2^k*(q+1):=by refine⟨2^(64-k)-1,?_⟩;have:1<=2^(64-k):=Nat.one_le_two_pow;rw[Nat.sub_add_cancel this,<-ru,pE hk]
  have:18446744073709551616-m=(2^k-m)+2^k*q:=by rw[hq,Nat.mul_add];omega
  rw[this,Nat.add_mul_mod_self_left,uF zy]
 rw[e6]
theorem c0x {w N}(hw:w=32\/w=64)(hN:N<2^w):a1t (Lib.itoa (b3Q w N)) (2^w-1)=(N,0):=by
 have hw1:1<=w/\w<=64:=zy;have h64:(2:Nat)^w<=2^64:=pM zu hw1.2;have h64':(2:Nat)^64=18446744073709551616:=zu;have hp:2^w=2*2^(w-1):=by obtain⟨j,rfl⟩:∃j,w=j+1:=⟨w-1,zy⟩;rw[oQ,Nat.pow_succ,Nat.mul_comm]
 unfold b3Q;by_cases h:N<2^(w-1);rw[vH h];have e:Lib.itoa (N:Int)=Lib.decDigits N:=by unfold Lib.itoa;rw[vN zy];simp
 rw[e];exact c4q zy zy;rw[vN h];have e0:((N:Int)-2^w)=-((2^w-N:Nat):Int):=by rw[Int.ofNat_sub zy];push_cast;omega
 have e:Lib.itoa ((N:Int)-2^w)=45::Lib.decDigits (2^w-N):=by rw[e0];unfold Lib.itoa;rw[vH zy];simp
 rw[e,d5t (k:=w) zy hw1.2 hw1.1 rfl zy];have:2^w-(2^w-N)=N:=zy;rw[this]
theorem d0H (z):(Lib.itoa z).all (λb=>sgN b.toNat)=true/\Lib.itoa z≠[]:=by unfold Lib.itoa;by_cases h:z<0;rw[vH h];refine⟨?_,zq⟩;rw[qh,b2X];rfl;rw[vN h];exact⟨b2X _,c2n _⟩
noncomputable def M8 (op:Nat):List UInt8:=match R4 (.ofNat op) N8 with|some r=>r.2.1|none=>[]
def opc (op:Nat):Nat:=if op=28 then 27 else op
noncomputable def a1N (o:Option Nat)(n:Nat):Bool:=match o with|some m=>Nat.beq m n|none=>false
noncomputable def nmB (r:a3V):Bool:=a1N (a5v r.2.1) (bcase (Nat.beq r.1 28) 27 r.1)&&(r.2.1.all (λb=>sgN b.toNat)&&(!r.2.1.isEmpty&&(!(b7G r.2.1)&&(!(a0y r.2.1 [111,102,102,115,101,116,61])&&(!(a0y r.2.1 [97,108,105,103,110,61])&&(!(a0O r.2.1)&&(!(beqBytes r.2.1 [114,101,115,117,108,116])&&(!(beqBytes r.2.1 [116,121,112,101])&&((a3X r.2.1==Nat.beq r.1 5)&&((isEn r.2.1==Nat.beq r.1 11)&& !(beqBytes r.2.1 [116,104,101,110])))))))))))
theorem e2I:J2 nmB N8=true:=zw
structure NmOk (op:Nat):Prop where
 f:a5v (M8 op)=some (opc op)
 sg:(M8 op).all (fun b=>sgN b.toNat)=true
 ne:M8 op≠[]
 ix:b7G (M8 op)=false
 of:a0y (M8 op) [111, 102, 102, 115, 101, 116, 61]=false
 al:a0y (M8 op) [97, 108, 105, 103, 110, 61]=false
 nm:a0O (M8 op)=false
 re:beqBytes (M8 op) [114, 101, 115, 117, 108, 116]=false
 ty:beqBytes (M8 op) [116, 121, 112, 101]=false
 el:a3X (M8 op)=Nat.beq op 5
 en:isEn (M8 op)=Nat.beq op 11
 th:beqBytes (M8 op) [116, 104, 101, 110]=false
theorem a4q {op}(h:I1 (.ofNat op)=true):NmOk op:=by
 unfold I1 at h;cases e:R4 (.ofNat op) N8 with
  |none=>rw[e]at h;cases h|some r=>
   obtain⟨h1,h2⟩:=a3u _ _ _ e;have h3:op=r.1:=sZ h2;have h4:=(M4 _ _).1 e2I r h1;have e1:M8 op=r.2.1:=by unfold M8;rw[e]
   unfold nmB at h4;simp only[wK,tZ,beq_iff_eq]at h4;obtain⟨a1,a2,a3,a4,a5,a6,a7,a8,a9,a10,a11,a12⟩:=h4;rw[<-e1]at a1 a2 a3 a4 a5 a6 a7 a8 a9 a10 a11 a12;rw[<-h3]at a1 a10 a11;refine⟨?_,a2,λh=>(by rw[h]at a3;cases a3),a4,a5,a6,a7,a8,a9,a10,a11,a12⟩;unfold a1N at a1;cases e2:a5v (M8 op)with|none=>rw[e2]at a1;cases a1|some m=>rw[e2]at a1;have:m=bcase (Nat.beq op 28) 27 op:=wR a1;rw[this];unfold opc;by_cases h28:op=28;subst h28;rfl;rw[vN h28,X9 h28];rfl
end Go.Proofs.YtmomonnlmbljoaaGreatDoor
end
section
namespace Go.Proofs.YtmomonnlmbljoaaGreatDoor
open Go.V Go.RowKit Go.Shelf Go.Proofs
variable {mL:Int}
theorem Is.wd {n W}(h:Is n (.w W)):n.k=2/\n.t=W/\n.l=[]:=by cases h;exact⟨rfl,rfl,rfl⟩
theorem Is.ls {n xs}(h:Is n (.l xs)):n.k=0/\n.t=[]/\IsL n.l xs:=by cases h with|l h=>exact⟨rfl,rfl,h⟩
theorem IsL.one {ns x}(h:IsL ns [x]):∃n,ns=[n]/\Is n x:=by cases h with|cons h1 h2=>cases h2;exact⟨_,rfl,h1⟩
theorem IsL.two {ns x y}(h:IsL ns [x,y]):∃n m,ns=[n,m]/\Is n x/\Is m y:=by cases h with|cons h1 h2=>obtain⟨m,rfl,h3⟩:=h2.one;exact⟨_,m,rfl,h1,h3⟩
theorem IsL.split {ns xs ys}(h:IsL ns (xs++ys)):∃n1 n2,ns=n1++n2/\IsL n1 xs/\IsL n2 ys:=by induction xs generalizing ns with|nil=>exact⟨[],ns,rfl,.nil,h⟩|cons x xs ih=>cases h with|cons h1 h2=>obtain⟨n1,n2,rfl,h3,h4⟩:=ih h2;exact⟨_::n1,n2,rfl,.cons h1 h3,h4⟩
theorem d6c {α:Type}{l m:List α}{a}(h:l.drop a=m)(j):l[a+j]?=m[j]?:=by rw[<-h,uT]
theorem a0o {α:Type}{l m:List α}{a}(h:l.drop a=m):l[a]?=m[0]?:=d6c h 0
theorem Y0 {α:Type}{l m:List α}{a x}(h:l.drop a=x::m):l.drop (a+1)=m:=by have:=wB List.tail h;simpa using this
structure FolN (n:Nd):Prop where
 ix:Y3 n.k n.t=false
 of:(decide (n.k=2) && a0y n.t [111, 102, 102, 115, 101, 116, 61])=false
 al:(decide (n.k=2) && a0y n.t [97, 108, 105, 103, 110, 61])=false
 nm:(decide (n.k=2) && a0O n.t)=false
 re:a0A n.k (a0V n.l) [114, 101, 115, 117, 108, 116]=false
 ty:a0A n.k (a0V n.l) [116, 121, 112, 101]=false
def Fol (t:List Nd):Prop:=∀n u,t=n::u->FolN n
theorem Fol.nil:Fol []:=λn u h=>zg
theorem Fol.no {l t a}(h:Fol t)(hd:l.drop a=t):isI l a=false:=by unfold isI;rw[a0o hd];cases t with|nil=>rfl|cons n u=>exact(h n u rfl).ix
theorem a9W {l t a u n}(hd:l.drop a=n::t)(hn:Is n (.w (Lib.decDigits u))):isI l a=true:=by unfold isI;rw[a0o hd];obtain⟨h1,h2,h3⟩:=hn.wd;show Y3 n.k n.t=true;unfold Y3;rw[h1,h2,b1p];rfl
theorem a5f {fd l t q a u n}(hd:l.drop a=n::t)(hn:Is n (.w (Lib.decDigits u)))(hf:fd (Lib.decDigits u)=(u,0)):N9 fd l q a=.ok u:=by unfold N9;rw[a0o hd];obtain⟨h1,h2,h3⟩:=hn.wd;show bcase (Y3 n.k n.t) (bcase (decide ((fd n.t).2=0)) (Ix.ok (fd n.t).1) (Ix.er n.p (fd n.t).2)) (Ix.er n.p 4)=_;unfold Y3;rw[h1,h2,b1p,hf];rfl
section
variable {F:Nat->List (Value×Value)}{L:List (List UInt8)}{al q a u v:Nat}{l t:List Nd}{R:RV}{n m:Nd}
theorem e3n {j}(hj:j=2\/j=4\/j=7\/j=8\/j=12\/j=16)(hu:u<4294967296)(hd:l.drop R.i=n::t)(hn:Is n (.w (Lib.decDigits u))):a1p F L al j l q R=.ok {R with i:=R.i+1,A:=u}:=by rcases hj with rfl|rfl|rfl|rfl|rfl|rfl;show a3T R (N9 (a0q L) l q R.i)=_;rw[a5f hd hn (c5b hu)];rfl;all_goals show a3T R (N9 (X6 _) l q R.i)=_;rw[a5f hd hn (a6D hu)];rfl
theorem d4v {fs}(hu:u<4294967296)(h:(u=0/\l.drop R.i=t/\Fol t)\/(l.drop R.i=n::t/\Is n (.w (Lib.decDigits u))))(h0:R.A=0):∃i,b2U (X6 fs) l q R=.ok {R with i:=i,A:=u}/\l.drop i=t:=by unfold b2U;rcases h with⟨rfl,h1,h2⟩|⟨h1,h2⟩;rw[h2.no h1];refine⟨R.i,?_,h1⟩;obtain⟨i,op,A,B,N,k,v,bi,ts,ls,nm⟩:=R;simp only at h0;subst h0;rfl;rw[a9W h1 h2,a5f h1 h2 (a6D hu)];exact⟨R.i+1,rfl,Y0 h1⟩
theorem b6T {fs}(hu:u<4294967296)(h:(u=0/\l.drop R.i=t/\isI l R.i=false)\/(l.drop R.i=n::t/\Is n (.w (Lib.decDigits u))))(h0:R.B=0):∃i,a6s (X6 fs) l q R=.ok {R with i:=i,B:=u}/\l.drop i=t:=by unfold a6s;rcases h with⟨rfl,h1,h2⟩|⟨h1,h2⟩;rw[h2];refine⟨R.i,?_,h1⟩;obtain⟨i,op,A,B,N,k,v,bi,ts,ls,nm⟩:=R;simp only at h0;subst h0;rfl;rw[a9W h1 h2,a5f h1 h2 (a6D hu)];exact⟨R.i+1,rfl,Y0 h1⟩
theorem d5e {fs}(hu:u<4294967296)(hv:v<4294967296)(h:(u=0/\v=0/\l.drop R.i=t/\Fol t)\/(l.drop R.i=n::m::t/\Is n (.w (Lib.decDigits u))/\Is m (.w (Lib.decDigits v))))(h0:R.A=0)(h1:R.B=0):∃i,b2Y (X6 fs) l q R=.ok {R with i:=i,A:=u,B:=v}/\l.drop i=t:=by unfold b2Y;rcases h with⟨rfl,rfl,h2,h3⟩|⟨h2,h3,h4⟩;rw[h3.no h2];refine⟨R.i,?_,h2⟩;obtain⟨i,op,A,B,N,k,v,bi,ts,ls,nm⟩:=R;simp only at h0 h1;subst h0;subst h1;rfl;rw[a9W h2 h3,a5f h2 h3 (a6D hu)];refine⟨R.i+1+1,?_,Y0 (Y0 h2)⟩;show b3S _ (N9 (X6 fs) l q (R.i+1))=_;rw[a5f (Y0 h2) h4 (a6D hv)];rfl
theorem c1Y {f1 f2}(hu:u<4294967296)(hv:v<4294967296)(h:(v=0/\l.drop R.i=n::t/\Is n (.w (Lib.decDigits u))/\Fol t)\/(l.drop R.i=m::n::t/\Is m (.w (Lib.decDigits v))/\Is n (.w (Lib.decDigits u))))(h1:R.B=0):∃i,a7E (X6 f1) (X6 f2) l q R=.ok {R with i:=i,A:=u,B:=v}/\l.drop i=t:=by unfold a7E;rcases h with⟨rfl,h2,h3,h4⟩|⟨h2,h3,h4⟩;rw[a9W h2 h3,h4.no (Y0 h2),a5f (fd:=X6 f2) h2 h3 (a6D hu)];refine⟨R.i+1,?_,Y0 h2⟩;obtain⟨i,op,A,B,N,k,v,bi,ts,ls,nm⟩:=R;simp only at h1;subst h1;rfl;rw[a9W h2 h3,a9W (Y0 h2) h4,a5f h2 h3 (a6D hv)];refine⟨R.i+1+1,?_,Y0 (Y0 h2)⟩;show a3T _ (N9 (X6 f2) l q (R.i+1))=_;rw[a5f (Y0 h2) h4 (a6D hu)];rfl
theorem c2K (hn:Is n (.l [.w [116,121,112,101],.w (Lib.decDigits u)])):a0A n.k (a0V n.l) [116,121,112,101]=true/\Y3 n.k n.t=false/\a0A n.k (a0V n.l) [114,101,115,117,108,116]=false:=by obtain⟨h1,h2,h3⟩:=hn.ls;obtain⟨x,y,h4,h5,h6⟩:=h3.two;obtain⟨h7,h8,h9⟩:=h5.wd;rw[h1,h2,h4];refine⟨?_,rfl,?_⟩;show(decide ((0:Nat)=0)&&(decide (x.k=2)&&beqBytes x.t _))=true;rw[h7,h8];rfl;show(decide ((0:Nat)=0)&&(decide (x.k=2)&&beqBytes x.t _))=false;rw[h7,h8];rfl
theorem c8i {fs put}(hu:u<4294967296)(hd:l.drop R.i=n::t)(hn:Is n (.l [.w [116,121,112,101],.w (Lib.decDigits u)])):a8E (X6 fs) put l q R=.ok (put {R with i:=R.i+1} u):=by
 obtain⟨b1,b2,b3⟩:=c2K hn;obtain⟨h1,h2,h3⟩:=hn.ls;obtain⟨x,y,h4,h5,h6⟩:=h3.two;obtain⟨h7,h8,h9⟩:=h6.wd;unfold a8E;rw[a0o hd];show bcase (a0A n.k (a0V n.l) _) _ _=_;rw[b1,A9,h4];show bcase (Y3 y.k y.t) (bcase (decide ((X6 fs y.t).2=0)) _ _) _=_;have e:Y3 y.k y.t=true:=by unfold Y3;rw[h7,h8,b1p];rfl
 rw[e,h8,a6D hu];rfl
theorem d4G (hu:u<4294967296)(hv:v<4294967296)(h:(v=0/\l.drop R.i=n::t)\/(l.drop R.i=m::n::t/\Is m (.w (Lib.decDigits v))))(hn:Is n (.l [.w [116,121,112,101],.w (Lib.decDigits u)]))(h1:R.B=0):∃i,a1p F L al 5 l q R=.ok {R with i:=i,A:=u,B:=v}/\l.drop i=t:=by
 obtain⟨b1,b2,b3⟩:=c2K hn;have h':(v=0/\l.drop R.i=n::t/\isI l R.i=false)\/(l.drop R.i=m::(n::t)/\Is m (.w (Lib.decDigits v))):=by rcases h with⟨h2,h3⟩|h2;refine Or.inl ⟨h2,h3,?_⟩;unfold isI;rw[a0o h3];exact b2;exact Or.inr h2
 obtain⟨i,e1,e2⟩:=b6T (q:=q) (fs:=F 2) hv h' h1;show∃i,(a6s (X6 (F 2)) l q R).then _=_/\_;rw[e1];refine⟨i+1,?_,Y0 e2⟩;show a8E (X6 (F 0)) (λR k=>{R with A:=k}) l q {R with i:=i,B:=v}=_;rw[c8i (R:={R with i:=i,B:=v}) hu e2 hn]
theorem e4P {N w j}(hj:(j=18/\w=32)\/(j=19/\w=64))(hN:N<2^w)(hd:l.drop R.i=n::t)(hn:Is n (.w (Lib.itoa (b3Q w N)))):a1p F L al j l q R=.ok {R with i:=R.i+1,N:=N}:=by obtain⟨h1,h2,h3⟩:=hn.wd;rcases hj with⟨rfl,rfl⟩|⟨rfl,rfl⟩;have hT:=c0x (Or.inl rfl) hN;show a9e l q R=_;unfold a9e;rw[a0o hd];show bcase (decide (n.k=2)) (bcase (decide ((a1t n.t 4294967295).2=0)) _ _) _=_;rw[h1,h2];have e:(2:Nat)^32-1=4294967295:=zu;rw[e]at hT;rw[hT];rfl;have hT:=c0x (Or.inr rfl) hN;show a9f l q R=_;unfold a9f;rw[a0o hd];show bcase (decide (n.k=2)) (bcase (decide ((a1t n.t 18446744073709551615).2=0)) _ _) _=_;rw[h1,h2];have e:(2:Nat)^64-1=18446744073709551615:=zu;rw[e]at hT;rw[hT];rfl
theorem e1j {A}(hA:A=3\/A=4)(hd:l.drop R.i=n::t)(hn:Is n (.w (bcase (decide (A=3)) [102,117,110,99] [101,120,116,101,114,110]))):a1p F L al 20 l q R=.ok {R with i:=R.i+1,A:=A}:=by obtain⟨h1,h2,h3⟩:=hn.wd;show b0L l q R=_;unfold b0L;rw[a0o hd];show bcase (decide (n.k=2)) (bcase (beqBytes n.t _) _ _) _=_;rw[h1,h2];rcases hA with rfl|rfl;rfl;rfl
end
end Go.Proofs.YtmomonnlmbljoaaGreatDoor
end
section
namespace Go.Proofs.YtmomonnlmbljoaaGreatDoor
open Go.V Go.RowKit Go.Shelf Go.Proofs
variable {mL:Int}
def b0i (N:Nat):List UInt8:=[111,102,102,115,101,116,61]++Lib.decDigits N
def a8Q (A:Nat):List UInt8:=[97,108,105,103,110,61]++Lib.decDigits (2^A)
theorem c1l (P T):a0y (P++T) P=true:=by unfold a0y;have e1:decide (P.length<=(P++T).length)=true:=wL wT;rw[e1,a2m,List.take_left,uL,a2i];exact beq_self_eq_true P
theorem e0O {A}(h:A<64):a6k (2^A)=some A:=by have hall:J2 (λi=>a1N (a6k (2^i)) i) (upN 64)=true:=zw;have:=(M4 _ _).1 hall A (uI.2 h);unfold a1N at this;cases e:a6k (2^A)with|none=>rw[e]at this;cases this|some m=>rw[e]at this;rw[wR this]
section
variable {F:Nat->List (Value×Value)}{L:List (List UInt8)}{al q a u v:Nat}{l t:List Nd}{R:RV}{n m:Nd}
theorem c9d {N}(hN:N<4294967296)(h:(N=0/\l.drop R.i=t/\∀n u,t=n::u->(decide (n.k=2)&&a0y n.t [111,102,102,115,101,116,61])=false)\/(l.drop R.i=n::t/\Is n (.w (b0i N))))(h0:R.N=0):∃i,a3t l R=.ok {R with i:=i,N:=N}/\l.drop i=t:=by
 unfold a3t;rcases h with⟨rfl,h1,h2⟩|⟨h1,h2⟩;refine⟨R.i,?_,h1⟩;have eR:({R with i:=R.i,N:=0}:RV)=R:=by obtain⟨i,op,A,B,N,k,v,bi,ts,ls,nm⟩:=R;simp only at h0;subst h0;rfl
 rw[eR,a0o h1];cases t with|nil=>rfl|cons n u=>have h3:=h2 n u rfl;show bcase (decide (n.k=2)) (bcase (a0y n.t _) _ _) _=_;cases q1:decide (n.k=2)with|false=>rfl|true=>rw[q1,uL]at h3;rw[h3];rfl
 obtain⟨k1,k2,k3⟩:=h2.wd;refine⟨R.i+1,?_,Y0 h1⟩;rw[a0o h1];show bcase (decide (n.k=2)) (bcase (a0y n.t _) (bcase (decide ((a4z (H9 n.t 7)).2=0)) _ _) _) _=_;have e:H9 (b0i N) 7=Lib.decDigits N:=by rw[a0D];rfl
 rw[k1,k2,show a0y (b0i N) [111,102,102,115,101,116,61]=true from c1l _ _,e,b7h hN];rfl
theorem d0w {A}(hA:A<64)(h:(A=R.A/\l.drop R.i=t/\Fol t)\/(l.drop R.i=n::t/\Is n (.w (a8Q A)))):∃i,a8j l R=.ok {R with i:=i,A:=A}/\l.drop i=t:=by
 unfold a8j;rcases h with⟨h0,h1,h2⟩|⟨h1,h2⟩;refine⟨R.i,?_,h1⟩;have eR:({R with i:=R.i,A:=A}:RV)=R:=by rw[h0]
 rw[eR,a0o h1];cases t with|nil=>rfl|cons n u=>have h3:=(h2 n u rfl).al;show bcase (decide (n.k=2)) (bcase (a0y n.t _) _ _) _=_;cases q1:decide (n.k=2)with|false=>rfl|true=>rw[q1,uL]at h3;rw[h3];rfl
 obtain⟨k1,k2,k3⟩:=h2.wd;refine⟨R.i+1,?_,Y0 h1⟩;rw[a0o h1];show bcase (decide (n.k=2)) (bcase (a0y n.t _) (bcase (decide ((a1t (H9 n.t 6) 18446744073709551615).2=0)) _ _) _) _=_;have e:H9 (a8Q A) 6=Lib.decDigits (2^A):=by rw[a0D];rfl
 have h64:2^A<18446744073709551616:=by have:(2:Nat)^A<2^64:=Nat.pow_lt_pow_right zu hA;have h64':(2:Nat)^64=18446744073709551616:=zu;omega
 rw[k1,k2,show a0y (a8Q A) [97,108,105,103,110,61]=true from c1l _ _,e,c4q h64 zy];show(match a6k (2^A)with|some i=>Rs.ok {R with i:=R.i+1,A:=i}|none=>.er n.p 4)=_;rw[e0O hA]
theorem e5b {N A nB nO nA} (hv:v<4294967296) (hN:N<4294967296) (hA:A<64) (hB:(v=0∧nB=[])∨∃ m,nB=[m]∧Is m (.w (Lib.decDigits v))) (hO:(N=0∧nO=[])∨∃ m,nO=[m]∧Is m (.w (b0i N))) (hL:(A=al∧nA=[])∨∃ m,nA=[m]∧Is m (.w (a8Q A))) (hf:Fol t) (hd:l.drop R.i=nB ++ (nO ++ (nA ++ t))) (h1:R.B=0) (h2:R.N=0):∃ i,b7C F al l q R=.ok { R with i:=i,A:=A,B:=v,N:=N }∧l.drop i=t:=by
 have noA:∀ n u,nA ++ t=n::u→(decide (n.k=2) && a0y n.t [111, 102, 102, 115, 101, 116, 61])=false∧Y3 n.k n.t=false:=by
  intro n u h
  rcases hL with ⟨_,rfl⟩ | ⟨m,rfl,hm⟩
  · exact ⟨(hf n u h).of,(hf n u h).ix⟩
  · obtain ⟨k1,k2,k3⟩:=hm.wd
    have:n=m:=by cases h; rfl
    subst this
    rw [k1,k2]
    refine ⟨?_,rfl⟩
    have:a0y (a8Q A) [111, 102, 102, 115, 101, 116, 61]=false:=by
     cases q1:a0y (a8Q A) [111, 102, 102, 115, 101, 116, 61] with
     | false=>rfl
     | true=>
       unfold a0y at q1
       rw [wK] at q1
       have:=a4X q1.2
       rw [a2m] at this
       cases this
    rw [this,uD]
 have noO:isI l R.i=false∨nB≠[]:=by
  rcases hB with ⟨_,rfl⟩ | ⟨m,rfl,_⟩
  · refine Or.inl ?_
    unfold isI
    rw [a0o hd,vR]
    rcases hO with ⟨_,rfl⟩ | ⟨m,rfl,hm⟩
    · rw [vR]
      cases e:nA ++ t with
      | nil=>rfl
      | cons n u=>exact (noA n u e).2
    · obtain ⟨k1,k2,k3⟩:=hm.wd
      show Y3 m.k m.t=false
      rw [k1,k2]; rfl
  · exact Or.inr zq
 unfold b7C
 obtain ⟨i1,e1,d1⟩:∃ i,a6s (X6 (F 3)) l q { R with A:=al }=.ok { R with A:=al,i:=i,B:=v }∧l.drop i=nO ++ (nA ++ t):=by
  rcases hB with ⟨rfl,rfl⟩ | ⟨m,rfl,hm⟩
  · exact b6T (R:={ R with A:=al }) (n:=.mk 0 0 [] []) zu (Or.inl ⟨rfl,hd,noO.resolve_right (fun h=>h rfl)⟩) h1
  · exact b6T (R:={ R with A:=al }) hv (Or.inr ⟨hd,hm⟩) h1
 rw [e1]
 obtain ⟨i2,e2,d2⟩:∃ i,a3t l { R with A:=al,i:=i1,B:=v }=.ok { R with A:=al,B:=v,i:=i,N:=N }∧l.drop i=nA ++ t:=by
  rcases hO with ⟨rfl,rfl⟩ | ⟨m,rfl,hm⟩
  · exact c9d (R:={ R with A:=al,i:=i1,B:=v }) (n:=.mk 0 0 [] []) zu (Or.inl ⟨rfl,d1,fun n u h=>(noA n u h).1⟩) h2
  · exact c9d (R:={ R with A:=al,i:=i1,B:=v }) hN (Or.inr ⟨d1,hm⟩) h2
 show ∃ i,(a3t l { R with A:=al,i:=i1,B:=v }).then (fun R2=>a8j l R2)=_∧_
 rw [e2]
 obtain ⟨i3,e3,d3⟩:∃ i,a8j l { R with A:=al,B:=v,i:=i2,N:=N }=.ok { R with A:=A,B:=v,i:=i,N:=N }∧l.drop i=t:=by
  rcases hL with ⟨rfl,rfl⟩ | ⟨m,rfl,hm⟩
  · exact d0w (R:={ R with A:=A,B:=v,i:=i2,N:=N }) (n:=.mk 0 0 [] []) hA (Or.inl ⟨rfl,d2,hf⟩)
  · exact d0w (R:={ R with A:=al,B:=v,i:=i2,N:=N }) hA (Or.inr ⟨d2,hm⟩)
 exact ⟨i3,e3,d3⟩
theorem e6t {fd}(hfd:∀u,u<4294967296->fd (Lib.decDigits u)=(u,0))(hf:Fol t):∀(ks) (ns),ks≠[]->(∀k∈ks,k<4294967296)->IsL ns (ks.map λk=>.w (Lib.decDigits k))->a3b fd q (ns++t)=.ok ks:=by
 intro ks;induction ks with
  |nil=>intro ns h;exact absurd rfl h|cons k ks ih=>
   intro ns _ hk hi;cases hi with
    | @cons n x ns xs h1 h2=>
     obtain⟨k1,k2,k3⟩:=h1.wd;have e1:Y3 n.k n.t=true:=by unfold Y3;rw[k1,k2,b1p];rfl
     have e2:=hfd k (hk k zq);rw[vD];unfold a3b;rw[e1,A9,k2,e2];show bcase true (bcase (hdI (ns++t)) ((a3b fd q (ns++t)).cons k) (.ok [k])) _=_;rw[A9];cases ks with
      |nil=>
       cases h2;have:hdI ([]++t)=false:=by cases t with|nil=>rfl|cons n u=>exact(hf n u rfl).ix
       rw[this];rfl|cons k' ks'=>
       have hih:=ih ns zq (λx hx=>hk x zZ) h2;rw[hih];cases h2 with
        | @cons n' x' ns' xs' h3 h4=>
         obtain⟨j1,j2,j3⟩:=h3.wd;have:hdI (n'::ns'++t)=true:=by show Y3 n'.k n'.t=true;unfold Y3;rw[j1,j2,b1p];rfl
         rw[this];rfl
theorem d8P {v}(h1:1<=v)(h4:v<=4):a3D (Q9 (.ofNat v))=some v:=by have:v=1\/v=2\/v=3\/v=4:=zy;rcases this with rfl|rfl|rfl|rfl;exact(by kernel_rfl:a3D (Q9 (.ofNat 1))=some 1);exact(by kernel_rfl:a3D (Q9 (.ofNat 2))=some 2);exact(by kernel_rfl:a3D (Q9 (.ofNat 3))=some 3);exact(by kernel_rfl:a3D (Q9 (.ofNat 4))=some 4)
theorem c8q {W}(hn:Is n (.l [.w [114,101,115,117,108,116],.w W])):a0A n.k (a0V n.l) [114,101,115,117,108,116]=true/\n.k=0:=by obtain⟨h1,h2,h3⟩:=hn.ls;obtain⟨x,y,h4,h5,h6⟩:=h3.two;obtain⟨h7,h8,h9⟩:=h5.wd;refine⟨?_,h1⟩;rw[h1,h4];show(decide ((0:Nat)=0)&&(decide (x.k=2)&&beqBytes x.t _))=true;rw[h7,h8];rfl
theorem c9Q {v}(h1:1<=v)(h4:v<=4)(hn:Is n (.l [.w [114,101,115,117,108,116],.w (Q9 (.ofNat v))])):a2X n q=.ok v:=by obtain⟨a1,a2,a3⟩:=hn.ls;obtain⟨x,y,a4,a5,a6⟩:=a3.two;obtain⟨a7,a8,a9⟩:=a6.wd;unfold a2X;rw[a4];show bcase (decide (y.k=2)) (match a3D y.t with|none=>_|some t=>_) _=_;rw[a7,a8,d8P h1 h4];rfl
inductive BlkN (F:Nat→List (Value×Value)):Nat→Nat→Nat→List Nd→Prop
 | none:BlkN F 0 0 0 []
 | val {v:Nat} {n:Nd}:1≤v→v≤4→Is n (.l [.w [114, 101, 115, 117, 108, 116],.w (Q9 (.ofNat v))])→BlkN F 1 v 0 [n]
 | idx {u:Nat} {n:Nd}:u<4294967296→Is n (.l [.w [116, 121, 112, 101],.w (Lib.decDigits u)])→BlkN F 2 0 u [n]
end
end Go.Proofs.YtmomonnlmbljoaaGreatDoor
end
section
namespace Go.Proofs.YtmomonnlmbljoaaGreatDoor
open Go.V Go.RowKit Go.Shelf Go.Proofs
variable {mL:Int}
inductive It where
 | w (W:List UInt8)
 | l (W V:List UInt8)
def It.b:It->List UInt8|.w W=>32::W|.l W V=>32::40::(W++32::(V++[41]))
def It.k:It->List (Nat×List UInt8)|.w W=>[(2,W)]|.l W V=>[(0,[]),(2,W),(2,V),(1,[])]
def It.s:It->Sp|.w W=>.w W|.l W V=>.l [.w W,.w V]
def Wd (W:List UInt8):Prop:=W≠[]/\W.all (λb=>sgN b.toNat)=true
def It.ok:It->Prop|.w W=>Wd W|.l W V=>Wd W/\Wd V
theorem Lk.it {x:It}{t ks}(hx:x.ok)(ht:a9B t=false)(H:Lk t ks):Lk (x.b++t) (x.k++ks):=by
 cases x with
  |w W=>exact Lk.ws (b:=32) rfl (Lk.wd hx.1 hx.2 ht H)|l W V=>
   obtain⟨⟨h1,h2⟩,h3,h4⟩:=hx;have e:It.b (.l W V)++t=32::40::(W++32::(V++41::t)):=by show 32::40::(W++32::(V++[41]))++t=_;simp
   rw[e];refine Lk.ws (b:=32) rfl (Lk.op ?_ (Lk.wd h1 h2 rfl (Lk.ws (b:=32) rfl (Lk.wd h3 h4 rfl (Lk.cl H)))));cases W with
    |nil=>exact absurd rfl h1|cons b W=>
     intro h;have hb:b=59:=by cases h;rfl
     rw[qh,wK]at h2;exact(b9I h2.1).2.1 hb
theorem Lk.its:∀(its:List It) {t} {ks},(∀x∈its,x.ok)->a9B t=false->Lk t ks->Lk (its.flatMap It.b++t) (its.flatMap It.k++ks)/\a9B (its.flatMap It.b++t)=false:=by intro its;induction its with|nil=>intro t ks _ ht H;exact⟨H,ht⟩|cons x its ih=>intro t ks hx ht H;obtain⟨h1,h2⟩:=ih (λy hy=>hx y (by simp[hy])) ht H;rw[vU,vU,vw,vw];refine⟨Lk.it (hx x zq) h2 h1,?_⟩;cases x<;>rfl
theorem Bal.its:∀its:List It,Bal 1 (its.flatMap It.k) (its.map It.s):=by intro its;induction its with|nil=>exact .nil|cons x its ih=>rw[vU,uy];cases x with|w W=>exact .w ih|l W V=>exact .l (.w (.w .nil)) ih
noncomputable def a8c (n:Nat):List It:=bcase (Nat.beq n 0) [] [.w (Lib.decDigits n)]
def tyW:List UInt8:=[116,121,112,101]
def reW:List UInt8:=[114,101,115,117,108,116]
inductive Pl:AI→List It→Prop
 | none {op:Nat}:E9 (.ofNat op)=0→Pl ⟨op, 0, 0, 0, 0, 0, 0, [], []⟩ []
 | one {op A j:Nat}:E9 (.ofNat op)=j→(j=2∨j=4∨j=7∨j=8∨j=12∨j=16)→A<4294967296→Pl ⟨op,A, 0, 0, 0, 0, 0, [], []⟩ [.w (Lib.decDigits A)]
 | tab {op A:Nat} {ls:List Nat}:E9 (.ofNat op)=3→A<4294967296→(∀ k∈ls,k<4294967296)→Pl ⟨op,A, 0, 0, 0, 0, 0, [],ls⟩ ((ls ++ [A]).map fun k=>.w (Lib.decDigits k))
 | ind {op A B:Nat}:E9 (.ofNat op)=5→A<4294967296→B<4294967296→Pl ⟨op,A,B, 0, 0, 0, 0, [], []⟩ (a8c B ++ [.l tyW (Lib.decDigits A)])
 | sel {v:Nat}:1≤v→v≤4→Pl ⟨28, 0, 0, 0, 0, 0, 0, [v], []⟩ [.l reW (Q9 (.ofNat v))]
 | tbl {op A:Nat}:E9 (.ofNat op)=9→A<4294967296→Pl ⟨op,A, 0, 0, 0, 0, 0, [], []⟩ (a8c A)
 | two {op A B j:Nat}:E9 (.ofNat op)=j→(j=10∨j=14)→A<4294967296→B<4294967296→Pl ⟨op,A,B, 0, 0, 0, 0, [], []⟩ (bcase (Nat.beq A 0 && Nat.beq B 0) [] [.w (Lib.decDigits A),.w (Lib.decDigits B)])
 | ini {op A B j:Nat}:E9 (.ofNat op)=j→(j=11∨j=15)→A<4294967296→B<4294967296→Pl ⟨op,A,B, 0, 0, 0, 0, [], []⟩ (a8c B ++ [.w (Lib.decDigits A)])
 | mem {op B:Nat}:E9 (.ofNat op)=13→B<4294967296→Pl ⟨op, 0,B, 0, 0, 0, 0, [], []⟩ (a8c B)
 | acc {op A B N:Nat}:E9 (.ofNat op)=17→A<64→B<4294967296→N<4294967296→Pl ⟨op,A,B,N, 0, 0, 0, [], []⟩ (a8c B ++ (bcase (Nat.beq N 0) [] [.w (b0i N)] ++ bcase (Nat.beq A (a1m op)) [] [.w (a8Q A)]))
 | con {op N j w:Nat}:E9 (.ofNat op)=j→(j=18∧w=32∨j=19∧w=64)→N<2 ^ w→Pl ⟨op, 0, 0,N, 0, 0, 0, [], []⟩ [.w (Lib.itoa (b3Q w N))]
 | null {op A:Nat}:E9 (.ofNat op)=20→(A=3∨A=4)→Pl ⟨op,A, 0, 0, 0, 0, 0, [], []⟩ [.w (bcase (decide (A=3)) [102, 117, 110, 99] [101, 120, 116, 101, 114, 110])]
theorem a9o (u):Wd (Lib.decDigits u):=⟨c2n u,b2X u⟩
theorem b0s {n x}(h:x∈a8c n):x.ok:=by unfold a8c at h;cases q:Nat.beq n 0 with|true=>rw[q]at h;cases h|false=>rw[q,y9,vW]at h;subst h;exact a9o n
theorem c8v {v}(h1:1<=v)(h4:v<=4):Wd (Q9 (.ofNat v)):=by have:v=1\/v=2\/v=3\/v=4:=zy;have one:Wd [105,51,50]:=⟨zq,zw⟩;have two:Wd [105,54,52]:=⟨zq,zw⟩;have thr:Wd [102,117,110,99,114,101,102]:=⟨zq,zw⟩;have fou:Wd [101,120,116,101,114,110,114,101,102]:=⟨zq,zw⟩;rcases this with rfl|rfl|rfl|rfl;exact one;exact two;exact thr;exact fou
theorem e0s (N):Wd (b0i N):=⟨by unfold b0i;simp,by unfold b0i;rw[List.all_append,b2X,sj];kernel_rfl⟩
theorem e0l (A):Wd (a8Q A):=⟨by unfold a8Q;simp,by unfold a8Q;rw[List.all_append,b2X,sj];kernel_rfl⟩
theorem d4R:Wd tyW:=⟨by unfold tyW;simp,zw⟩
theorem d4c:Wd reW:=⟨by unfold reW;simp,zw⟩
theorem Pl.ok {X its}(h:Pl X its):∀x∈its,x.ok:=by
 intro x hx;cases h with
  |none=>cases hx|one _ _ _=>rw[vW]at hx;subst hx;exact a9o _|tab _ _ _=>rw[uS]at hx;obtain⟨k,_,rfl⟩:=hx;exact a9o k|ind _ _ _=>rcases ut.1 hx with h|h;exact b0s h;rw[vW]at h;subst h;exact⟨d4R,a9o _⟩|sel h1 h4=>rw[vW]at hx;subst hx;exact⟨d4c,c8v h1 h4⟩|tbl _ _=>exact b0s hx| @two op A B j _ _ _ _=>cases q:Nat.beq A 0&&Nat.beq B 0 with|true=>rw[q]at hx;cases hx|false=>rw[q,y9]at hx;simp only[uw,ny,or_false]at hx;rcases hx with rfl|rfl;exact a9o _;exact a9o _
  |ini _ _ _ _=>rcases ut.1 hx with h|h;exact b0s h;rw[vW]at h;subst h;exact a9o _|mem _ _=>exact b0s hx| @acc op A B N _ _ _ _=>
   rcases ut.1 hx with h|h;exact b0s h;rcases ut.1 h with h|h;cases q:Nat.beq N 0 with|true=>rw[q]at h;cases h|false=>rw[q,y9,vW]at h;subst h;exact e0s N
   cases q:Nat.beq A (a1m op)with|true=>rw[q]at h;cases h|false=>rw[q,y9,vW]at h;subst h;exact e0l A
  |con _ _ _=>rw[vW]at hx;subst hx;exact⟨(d0H _).2,(d0H _).1⟩| @null op A _ hA=>rw[vW]at hx;subst hx;rcases hA with rfl|rfl;exact(⟨zq,zw⟩:Wd [102,117,110,99]);exact(⟨zq,zw⟩:Wd [101,120,116,101,114,110])
end Go.Proofs.YtmomonnlmbljoaaGreatDoor
end
section
namespace Go.Proofs.YtmomonnlmbljoaaGreatDoor
open Go.V Go.RowKit Go.Shelf Go.Proofs
variable {mL:Int}
theorem b3p {B ns}(h:IsL ns ((a8c B).map It.s)):(B=0/\ns=[])\/∃m,ns=[m]/\Is m (.w (Lib.decDigits B)):=by unfold a8c at h;cases q:Nat.beq B 0 with|true=>rw[q]at h;cases h;exact Or.inl ⟨wR q,rfl⟩|false=>rw[q,y9]at h;exact Or.inr h.one
section
variable {F:Nat->List (Value×Value)}{L:List (List UInt8)}{i:Nat}{l t ns:List Nd}{n:Nd}
theorem a4N {op}(hop:a5v n.t=some op)(h27:op≠27)(h3:E9 (.ofNat op)≠3){R'}(h:a1p F L (a1m op) (E9 (.ofNat op)) l n.p (RV0 op (i+1))=.ok R'):a1v F L l i n=.ok ⟨R'.op,R'.A,R'.B,R'.N,R'.k,R'.v,R'.bi,[],[]⟩ R'.nm R'.i:=by unfold a1v;rw[hop];show bcase (decide (op=27)) _ (bcase (decide (E9 (.ofNat op)=3)) _ (c6f (a1p F L (a1m op) (E9 (.ofNat op)) l n.p (RV0 op (i+1)))))=_;rw[wP h27,y9,wP h3,y9,h];rfl
theorem e6R:E9 (.ofNat 27)=0:=zw
theorem d4w:E9 (.ofNat 28)=6:=zw
theorem a4f {op j}(hk:I1 (.ofNat op)=true)(hn:n.t=M8 op)(hj:E9 (.ofNat op)=j)(h6:j≠6):a5v n.t=some op:=by rw[hn,(a4q hk).f];unfold opc;rw[vN];intro e;subst e;exact h6 (hj.symm.trans d4w)
theorem a8K {op j}(hj:E9 (.ofNat op)=j)(h0:j≠0):op≠27:=λe=>by subst e;exact h0 (hj.symm.trans e6R)
theorem b3C {X its}(h:Pl X its)(hk:I1 (.ofNat X.op)=true)(hn:n.t=M8 X.op)(hd:l.drop i=n::(ns++t))(hns:IsL ns (its.map It.s))(hf:Fol t):∃nx,a1v F L l i n=.ok X [] nx/\l.drop nx=t:=by
 have hd1:=Y0 hd;cases h with
  | @none op h0=>
   cases hns;have hop:=a4f hk hn h0 zu;refine⟨i+1,?_,hd1⟩;by_cases h27:op=27;subst h27;unfold a1v;rw[hop];show(match l[i+1]? with|none=>_|some n1=>_)=_;rw[a0o hd1,vR];cases t with|nil=>rfl|cons m u=>show bcase (a0A m.k (a0V m.l) _) _ _=_;rw[(hf m u rfl).re];rfl
   rw[a4N hop h27 (by rw[h0];decide) (R':=RV0 op (i+1)) (by rw[h0];rfl)];rfl| @one op A j hj h1 hA=>obtain⟨m,rfl,hm⟩:=hns.one;have hop:=a4f hk hn hj zy;refine⟨i+1+1,?_,Y0 hd1⟩;rw[a4N hop (a8K hj zy) zY (by rw[hj];exact e3n (R:=RV0 op (i+1)) h1 hA hd1 hm)];rfl| @tab op A ls h3 hA hls=>
   have hop:=a4f hk hn h3 zu;have hks:∀k∈ls++[A],k<4294967296:=λk hk=>by rcases ut.1 hk with h|h;exact hls k h;rw[vW]at h;subst h;exact hA
   rw[tC]at hns;have hT:=e6t (q:=n.p) (fd:=a0q L) (t:=t) (λu hu=>c5b hu) hf (ls++[A]) ns zq hks hns;rw[<-hd1]at hT;have hlen:ns.length=(ls++[A]).length:=by
    have:∀(ns:List Nd) (xs:List Sp),IsL ns xs->ns.length=xs.length:=by intro ns;induction ns with|nil=>intro xs h;cases h;rfl|cons n ns ih=>intro xs h;cases h with|cons a b=>rw[wI,wI,ih _ b]
    rw[this _ _ hns,wF]
   refine⟨i+1+(ls++[A]).length,?_,?_⟩;unfold a1v;rw[hop];show bcase (decide (op=27)) _ (bcase (decide (E9 (.ofNat op)=3)) (match a3b (a0q L) n.p (l.drop (i+1))with|.ok ks=>_|.er p e=>_) _)=_;rw[wP (a8K h3 zu),y9,wL h3,A9,hT];have e1:a8V (ls++[A])=A:=by unfold a8V;rw[List.getLast?_concat];rfl
   have e2:(ls++[A]).dropLast=ls:=List.dropLast_concat;show Im.ok ⟨op,a8V (ls++[A]),0,0,0,0,0,[],(ls++[A]).dropLast⟩ [] _=_;rw[e1,e2];rw[<-oq,hd1,<-hlen,List.drop_left]| @ind op A B h5 hA hB=>
   have hop:=a4f hk hn h5 zu;rw[ul]at hns;obtain⟨nB,nT,rfl,hB',hT⟩:=hns.split;obtain⟨m,rfl,hm⟩:=hT.one;obtain⟨nx,e1,e2⟩:∃nx,a1p F L (a1m op) 5 l n.p (RV0 op (i+1))=.ok {RV0 op (i+1)with i:=nx,A:=A,B:=B}/\l.drop nx=t:=by rcases b3p hB' with⟨rfl,rfl⟩|⟨m2,rfl,hm2⟩;exact d4G (R:=RV0 op (i+1)) (m:=.mk 0 0 [] []) hA zu (Or.inl ⟨rfl,hd1⟩) hm rfl;exact d4G (R:=RV0 op (i+1)) hA hB (Or.inr ⟨hd1,hm2⟩) hm rfl
   refine⟨nx,?_,e2⟩;rw[a4N hop (a8K h5 zu) (by rw[h5];decide) (by rw[h5];exact e1)];rfl| @sel v h1 h4=>
   obtain⟨m,rfl,hm⟩:=hns.one;refine⟨i+2,?_,Y0 hd1⟩;have hop:a5v n.t=some 27:=by rw[hn,(a4q hk).f];rfl
   unfold a1v;rw[hop];show(match l[i+1]? with|none=>_|some n1=>_)=_;rw[a0o hd1];show bcase (a0A m.k (a0V m.l) _) (match a2X m n.p with|.ok t=>_|.er p e=>_) _=_;rw[(c8q hm).1,A9,c9Q h1 h4 hm]| @tbl op A h9 hA=>
   have hop:=a4f hk hn h9 zu;obtain⟨nx,e1,e2⟩:∃nx,b2U (X6 (F 2)) l n.p (RV0 op (i+1))=.ok {RV0 op (i+1)with i:=nx,A:=A}/\l.drop nx=t:=by rcases b3p hns with⟨rfl,rfl⟩|⟨m2,rfl,hm2⟩;exact d4v (R:=RV0 op (i+1)) (n:=.mk 0 0 [] []) zu (Or.inl ⟨rfl,hd1,hf⟩) rfl;exact d4v (R:=RV0 op (i+1)) hA (Or.inr ⟨hd1,hm2⟩) rfl
   refine⟨nx,?_,e2⟩;rw[a4N hop (a8K h9 zu) (by rw[h9];decide) (by rw[h9];exact e1)];rfl| @two op A B j hj h2 hA hB=>
   have hop:=a4f hk hn hj zy;have key:∀fs,∃nx,b2Y (X6 fs) l n.p (RV0 op (i+1))=.ok {RV0 op (i+1)with i:=nx,A:=A,B:=B}/\l.drop nx=t:=λfs=>by cases q:Nat.beq A 0&&Nat.beq B 0 with|true=>rw[q]at hns;cases hns;rw[wK]at q;have hA0:A=0:=wR q.1;have hB0:B=0:=wR q.2;subst hA0;subst hB0;exact d5e (R:=RV0 op (i+1)) (n:=.mk 0 0 [] []) (m:=.mk 0 0 [] []) zu zu (Or.inl ⟨rfl,rfl,hd1,hf⟩) rfl rfl|false=>rw[q,y9]at hns;obtain⟨x,y,rfl,hx,hy⟩:=hns.two;exact d5e (R:=RV0 op (i+1)) hA hB (Or.inr ⟨hd1,hx,hy⟩) rfl rfl
   rcases h2 with rfl|rfl;obtain⟨nx,e1,e2⟩:=key (F 2);refine⟨nx,?_,e2⟩;rw[a4N hop (a8K hj zu) zW (by rw[hj];exact e1)];rfl;obtain⟨nx,e1,e2⟩:=key (F 3);refine⟨nx,?_,e2⟩;rw[a4N hop (a8K hj zu) zW (by rw[hj];exact e1)];rfl| @ini op A B j hj h2 hA hB=>
   have hop:=a4f hk hn hj zy;rw[ul]at hns;obtain⟨nB,nT,rfl,hB',hT⟩:=hns.split;obtain⟨m,rfl,hm⟩:=hT.one;have key:∀f1 f2,∃nx,a7E (X6 f1) (X6 f2) l n.p (RV0 op (i+1))=.ok {RV0 op (i+1)with i:=nx,A:=A,B:=B}/\l.drop nx=t:=λf1 f2=>by rcases b3p hB' with⟨rfl,rfl⟩|⟨m2,rfl,hm2⟩;exact c1Y (R:=RV0 op (i+1)) (m:=.mk 0 0 [] []) hA zu (Or.inl ⟨rfl,hd1,hm,hf⟩) rfl;exact c1Y (R:=RV0 op (i+1)) hA hB (Or.inr ⟨hd1,hm2,hm⟩) rfl
   rcases h2 with rfl|rfl;obtain⟨nx,e1,e2⟩:=key (F 2) (F 5);refine⟨nx,?_,e2⟩;rw[a4N hop (a8K hj zu) zW (by rw[hj];exact e1)];rfl;obtain⟨nx,e1,e2⟩:=key (F 3) (F 6);refine⟨nx,?_,e2⟩;rw[a4N hop (a8K hj zu) zW (by rw[hj];exact e1)];rfl| @mem op B h13 hB=>
   have hop:=a4f hk hn h13 zu;obtain⟨nx,e1,e2⟩:∃nx,a6s (X6 (F 3)) l n.p (RV0 op (i+1))=.ok {RV0 op (i+1)with i:=nx,B:=B}/\l.drop nx=t:=by rcases b3p hns with⟨rfl,rfl⟩|⟨m2,rfl,hm2⟩;exact b6T (R:=RV0 op (i+1)) (n:=.mk 0 0 [] []) zu (Or.inl ⟨rfl,hd1,hf.no hd1⟩) rfl;exact b6T (R:=RV0 op (i+1)) hB (Or.inr ⟨hd1,hm2⟩) rfl
   refine⟨nx,?_,e2⟩;rw[a4N hop (a8K h13 zu) (by rw[h13];decide) (by rw[h13];exact e1)];rfl| @acc op A B N h17 hA hB hN=>
   have hop:=a4f hk hn h17 zu;rw[ul,ul]at hns;obtain⟨nB,nT,rfl,hB',hT⟩:=hns.split;obtain⟨nO,nA,rfl,hO,hL⟩:=hT.split;have hO':(N=0/\nO=[])\/∃m,nO=[m]/\Is m (.w (b0i N)):=by cases q:Nat.beq N 0 with|true=>rw[q]at hO;cases hO;exact Or.inl ⟨wR q,rfl⟩|false=>rw[q,y9]at hO;exact Or.inr hO.one
   have hL':(A=a1m op/\nA=[])\/∃m,nA=[m]/\Is m (.w (a8Q A)):=by cases q:Nat.beq A (a1m op)with|true=>rw[q]at hL;cases hL;exact Or.inl ⟨wR q,rfl⟩|false=>rw[q,y9]at hL;exact Or.inr hL.one
   obtain⟨nx,e1,e2⟩:=e5b (F:=F) (q:=n.p) (al:=a1m op) (R:=RV0 op (i+1)) hB hN hA (b3p hB') hO' hL' hf (by have h:=hd1;rw[vw,vw]at h;exact h) rfl rfl;refine⟨nx,?_,e2⟩;rw[a4N hop (a8K h17 zu) (by rw[h17];decide) (by rw[h17];exact e1)];rfl| @con op N j w hj h2 hN=>obtain⟨m,rfl,hm⟩:=hns.one;have hop:=a4f hk hn hj zy;refine⟨i+1+1,?_,Y0 hd1⟩;rw[a4N hop (a8K hj zy) zY (by rw[hj];exact e4P (R:=RV0 op (i+1)) h2 hN hd1 hm)];rfl| @null op A h20 hA=>obtain⟨m,rfl,hm⟩:=hns.one;have hop:=a4f hk hn h20 zu;refine⟨i+1+1,?_,Y0 hd1⟩;rw[a4N hop (a8K h20 zu) (by rw[h20];decide) (by rw[h20];exact e1j (R:=RV0 op (i+1)) hA hd1 hm)];rfl
end
end Go.Proofs.YtmomonnlmbljoaaGreatDoor
end
section
namespace Go.Proofs.YtmomonnlmbljoaaGreatDoor
open Go.V Go.RowKit Go.Shelf Go.Proofs
variable {mL:Int}
structure Fd (x:AI×List It):Prop where
 pl:Pl x.1 x.2
 kn:I1 (.ofNat x.1.op)=true
 el:x.1.op≠5
 en:x.1.op≠11
noncomputable def d4Q:List (AI×List It)->List UInt8|[]=>[]|x::r=>40::(M8 x.1.op++(x.2.flatMap It.b++32::(d4Q r++[41])))
noncomputable def c2m:List (AI×List It)->List Sp|[]=>[]|x::r=>[.l (.w (M8 x.1.op)::(x.2.map It.s++c2m r))]
theorem c7b {X its}(h:Pl X its):X.op≠2/\X.op≠3/\X.op≠4:=by have i2:E9 (.ofNat 2)=1:=zw;have i3:E9 (.ofNat 3)=1:=zw;have i4:E9 (.ofNat 4)=1:=zw;have key:∀op,E9 (.ofNat op)≠1->op≠2/\op≠3/\op≠4:=λop h=>⟨λe=>h (e▸i2),λe=>h (e▸i3),λe=>h (e▸i4)⟩;cases h with|none h0=>exact key _ (by rw[h0];decide)|one hj h1 _=>exact key _ zY|tab h3 _ _=>exact key _ (by rw[h3];decide)|ind h5 _ _=>exact key _ (by rw[h5];decide)|sel _ _=>exact⟨show(28:Nat)≠2 by decide,show(28:Nat)≠3 by decide,show(28:Nat)≠4 by decide⟩|tbl h9 _=>exact key _ (by rw[h9];decide)|two hj h2 _ _=>exact key _ zY|ini hj h2 _ _=>exact key _ zY|mem h13 _=>exact key _ (by rw[h13];decide)|acc h17 _ _ _=>exact key _ (by rw[h17];decide)|con hj h2 _=>exact key _ zY|null h20 _=>exact key _ (by rw[h20];decide)
theorem IsL.none {ns}(h:IsL ns []):ns=[]:=by cases h;rfl
theorem c0t {r}(hx:∀x∈r,Fd x){ns}(h:IsL ns (c2m r)):Fol ns:=by cases r with|nil=>rw[h.none];exact Fol.nil|cons x r=>obtain⟨n,rfl,hn⟩:=h.one;obtain⟨h1,h2,h3⟩:=hn.ls;have nm:=a4q (hx x zq).kn;intro m u e;cases e;cases hl:n.l with|nil=>rw[hl]at h3;cases h3|cons a b=>rw[hl]at h3;cases h3 with|cons k1 k2=>obtain⟨j1,j2,j3⟩:=k1.wd;refine⟨?_,?_,?_,?_,?_,?_⟩;rw[h1];rfl;rw[h1];rfl;rw[h1];rfl;rw[h1];rfl;rw[h1,hl];show(decide ((0:Nat)=0)&&(decide (a.k=2)&&beqBytes a.t _))=false;rw[j2,nm.re];simp;rw[h1,hl];show(decide ((0:Nat)=0)&&(decide (a.k=2)&&beqBytes a.t _))=false;rw[j2,nm.ty];simp
theorem c8T (F L):∀(r) (x) (m) (n),(∀y∈x::r,Fd y)->Is n (.l (.w (M8 x.1.op)::(x.2.map It.s++c2m r)))->r.length<m->I9 F m L n=.ok ((x::r).reverse.map (·.1)):=by
 intro r;induction r with
  |nil=>
   intro x m n hx hn hm;obtain⟨m,rfl⟩:∃j,m=j+1:=⟨m-1,zy⟩;have hf:=hx x zq;have nm:=a4q hf.kn;obtain⟨h1,h2,h3⟩:=hn.ls;cases hl:n.l with
    |nil=>rw[hl]at h3;cases h3|cons w ns=>
     rw[hl]at h3;cases h3 with
      |cons k1 k2=>
       obtain⟨j1,j2,j3⟩:=k1.wd;obtain⟨n1,n2,rfl,g1,g2⟩:=k2.split;rw[a9I F m L n w _ hl,wL j1,A9];have e1:a3X w.t=false:=by rw[j2,nm.el];exact X9 hf.el
       have e2:isEn w.t=false:=by rw[j2,nm.en];exact X9 hf.en
       rw[e1,e2,pg,y9];obtain⟨nx,i1,i2⟩:=b3C (F:=F) (L:=L) (i:=0) (l:=n.l) (t:=n2) hf.pl hf.kn j2 (by rw[hl];rfl) g1 (c0t (λy hy=>by cases hy) g2);have e3:=g2.none;subst e3;obtain⟨o2,o3,o4⟩:=c7b hf.pl;rw[i1];show bcase (decide (x.1.op=2)||decide (x.1.op=3)) _ (bcase (decide (x.1.op=4)) _ (a6Y (I9 F m L) x.1 (n.l.drop nx)))=_;rw[wP o2,wP o3,wP o4,i2];rfl
  |cons x' r ih=>
   intro x m n hx hn hm;obtain⟨m,rfl⟩:∃j,m=j+1:=⟨m-1,zy⟩;have hf:=hx x zq;have nm:=a4q hf.kn;obtain⟨h1,h2,h3⟩:=hn.ls;cases hl:n.l with
    |nil=>rw[hl]at h3;cases h3|cons w ns=>
     rw[hl]at h3;cases h3 with
      |cons k1 k2=>
       obtain⟨j1,j2,j3⟩:=k1.wd;obtain⟨n1,n2,rfl,g1,g2⟩:=k2.split;rw[a9I F m L n w _ hl,wL j1,A9];have e1:a3X w.t=false:=by rw[j2,nm.el];exact X9 hf.el
       have e2:isEn w.t=false:=by rw[j2,nm.en];exact X9 hf.en
       rw[e1,e2,pg,y9];have hx':∀y∈x'::r,Fd y:=λy hy=>hx y (vI _ hy);obtain⟨nx,i1,i2⟩:=b3C (F:=F) (L:=L) (i:=0) (l:=n.l) (t:=n2) hf.pl hf.kn j2 (by rw[hl];rfl) g1 (c0t hx' g2);obtain⟨y,rfl,hy⟩:=g2.one;obtain⟨o2,o3,o4⟩:=c7b hf.pl;have hih:=ih x' m y hx' hy (by simp only[wI]at hm;omega);rw[i1];show bcase (decide (x.1.op=2)||decide (x.1.op=3)) _ (bcase (decide (x.1.op=4)) _ (a6Y (I9 F m L) x.1 (n.l.drop nx)))=_;rw[wP o2,wP o3,wP o4,i2];show a6Y (I9 F m L) x.1 [y]=_;unfold a6Y;have e4:a7P (I9 F m L) [y] []=.ok ((x'::r).reverse.map (·.1)):=by show bcase (decide (y.k=0)) (match I9 F m L y with|.ok T1=>Ps.ok ([]++T1)|.er p e=>.er p e) _=_;rw[hy.ls.1,hih];rfl
       rw[e4];show Ps.ok ((x'::r).reverse.map (·.1)++[x.1])=_;rw[qR (a:=x),ul];rfl
end Go.Proofs.YtmomonnlmbljoaaGreatDoor
end
