import Derived.Test.YtmomonnlmbljoaaGreatDoorKbh
set_option maxRecDepth 1000000
set_option maxHeartbeats 4000000
set_option linter.unusedVariables false
set_option linter.unusedSimpArgs false
noncomputable section
namespace Go.Proofs.YtmomonnlmbljoaaGreatDoor
open Go.V Go.RowKit Go.Shelf Go.Proofs
variable {mL:Int}
theorem c9i {u}(h:u<10):Lib.decDigits u=[UInt8.ofNat (48+u)]:=by rw[Lib.decDigits,dif_pos h]
theorem d0L {u}(h:¬u<10):Lib.decDigits u=Lib.decDigits (u/10)++[UInt8.ofNat (48+u%10)]:=by rw[Lib.decDigits,dif_neg h]
theorem d4J {n:Nat}(h:n<256):(UInt8.ofNat n).toNat=n:=by rw[UInt8.toNat_ofNat'];omega
theorem e2Q {d}(h:d<10):dgN (48+d)=some d:=by unfold dgN;have e1:Nat.ble 48 (48+d)=true:=a1N zy;have e2:Nat.ble (48+d) 57=true:=a1N zy;rw[e1,e2];show some (48+d-48)=some d;rw[uE]
theorem c4Q:∀(n u),u<n->Lib.decDigits u≠[]/\∀b∈Lib.decDigits u,48<=b.toNat/\b.toNat<=57:=by intro n;induction n<;>first|rfl|grind[c9i,d4J,d0L]
theorem c1v (u):Lib.decDigits u≠[]:=(c4Q (u+1) u (wG u)).1
theorem c1m {u b}(h:b∈Lib.decDigits u):48<=b.toNat/\b.toNat<=57:=(c4Q (u+1) u (wG u)).2 b h
theorem e3Y {n}(h1:48<=n)(h2:n<=57):sgN n=true:=by have hall:J7 (λn=>!(Nat.ble 48 n&&Nat.ble n 57)||sgN n) (upN 256)=true:=zw;have:=(M5 _ _).1 hall n (uH.2 zy);rw[a1N h1,a1N h2]at this;simp_all
theorem b3s (u):(Lib.decDigits u).all (λb=>sgN b.toNat)=true:=by rw[rE];grind[c1m,e3Y]
theorem d7m:∀(n u) (l) (bt),u<n->u<18446744073709551616->dig 10 (Lib.decDigits u++l) 0 false bt=dig 10 l u false true:=by
 have step:∀(d m:Nat) (l:List UInt8) (bt:Bool),d<10->m*10+d<18446744073709551616->dig 10 (UInt8.ofNat (48+d)::l) m false bt=dig 10 l (m*10+d) false true:=by
  intro d m l bt hd hm;conv=>lhs;unfold dig
  rw[d4J zy,e2Q hd];have e1:decide (48+d=95)=false:=wL zy;have e2:decide (d<10)=true:=wJ hd;have e3:decide (18446744073709551616<=m*10+d)=false:=wL zy;rw[e1,uR,A8];grind[D8]
 intro n;induction n with|zero=>omega|succ n ih=>intro u l bt hu h64;by_cases h:u<10;rw[c9i h,List.singleton_append,step u 0 l bt h zy,rH,vY];rw[d0L h,vX,ih (u/10) _ bt zy zy,List.singleton_append,step (u%10) (u/10) l true zy zy];have:u/10*10+u%10=u:=zy;rw[this]
theorem d6T (u):c2t (Lib.decDigits u)=false:=by
 unfold c2t;have:beqBytes (a0B (Lib.decDigits u) 2) [48,120]=false:=by cases q:beqBytes (a0B (Lib.decDigits u) 2) [48,120]with|false=>rfl|true=>have h:=a5f q;rw[a2w]at h;have h1:(120:UInt8)∈(Lib.decDigits u).take 2:=zY;have:=(c1m (List.mem_of_mem_take h1)).2;have e:(120:UInt8).toNat=120:=rfl;omega
 rw[this,uJ]
theorem b8v {u}(h:u<18446744073709551616):a1A (Lib.decDigits u)=(u,false,true):=by unfold a1A;have:=d7m (u+1) u [] false (wG u) h;rw[wF]at this;rw[d6T,A8,this];rfl
theorem b7Y {u}(h:u<4294967296):a4O (Lib.decDigits u)=(u,0):=by unfold a4O;rw[b8v zy];have e:decide (4294967295<u)=false:=wL zy;simp_all[bcase,decide]
theorem b5U (u):∃b t,Lib.decDigits u=b::t/\48<=b.toNat/\b.toNat<=57:=by cases h:Lib.decDigits u with|nil=>exact absurd h (c1v u)|cons b t=>have:=c1m (u:=u) (b:=b) zY;simp_all
theorem b1n (u):b8d (Lib.decDigits u)=true:=by obtain⟨b,t,h,h1,h2⟩:=b5U u;rw[h];show c7u b=true;grind[c7u]
theorem c4v (u):a0u (Lib.decDigits u) [36]=false:=by
 obtain⟨b,t,h,h1,h2⟩:=b5U u;rw[h];unfold a0u;have e:beqBytes (a0B (b::t) [(36:UInt8)].length) [36]=false:=by
  cases q:beqBytes (a0B (b::t) [(36:UInt8)].length) [36]with
   |false=>rfl|true=>
    have h:=a5f q;rw[a2w]at h;have hb:b=36:=by have:=vw (λl=>l.head?) h;simp_all
    rw[hb]at h1;have e:(36:UInt8).toNat=36:=rfl;omega
 rw[e,uJ]
theorem a6B {fs u}(h:u<4294967296):X4 fs (Lib.decDigits u)=(u,0):=by grind[X4,c4v,A8,b7Y]
theorem c4W {L u}(h:u<4294967296):a0w L (Lib.decDigits u)=(u,0):=by grind[a0w,c4v,A8,b7Y]
def b8o (w n:Nat):Int:=if n<2^(w-1)then(n:Int)else(n:Int)-2^w
theorem d6q (u):c7k (Lib.decDigits u)=false/\a9I (Lib.decDigits u)=false:=by obtain⟨b,t,h,h1,h2⟩:=b5U u;rw[h];have e1:decide (b.toNat=45)=false:=wL zy;have e2:decide (b.toNat=43)=false:=wL zy;exact⟨by show(decide (b.toNat=45)||decide (b.toNat=43))=false;rw[e1,e2];rfl,e1⟩
theorem c4P {u gr}(h:u<18446744073709551616)(hg:u<=gr):a1G (Lib.decDigits u) gr=(u,0):=by unfold a1G a2B;obtain⟨h1,h2⟩:=d6q u;rw[h1,A8,b8v h,h2];have e:decide (gr<u)=false:=wL zy;simp_all[bcase,decide]
theorem d6I {m gr k}(h1:1<=m)(hk:k<=64)(hk0:1<=k)(hg:gr=2^k-1)(hm:m<=2^(k-1)):a1G (45::Lib.decDigits m) gr=(2^k-m,0):=by
 have hp:2^k=2*2^(k-1):=by obtain⟨j,rfl⟩:∃j,k=j+1:=⟨k-1,zy⟩;rw[Nat.add_sub_cancel,Nat.pow_succ,Nat.mul_comm]
 have h64:(2:Nat)^k<=2^64:=pR zu hk;have h64':(2:Nat)^64=18446744073709551616:=zu;have hpos:1<=2^(k-1):=Nat.one_le_two_pow;unfold a1G a2B;have e1:c7k (45::Lib.decDigits m)=true:=rfl;have e2:a9I (45::Lib.decDigits m)=true:=rfl;have e3:G7 (45::Lib.decDigits m) 1=Lib.decDigits m:=by rw[a0z];rfl
 rw[e1,e2,D8,e3,b8v zy];have e4:decide (gr/2+1<m)=false:=wL zy;show bcase true (bcase (false||bcase true (decide (gr/2+1<m)) _) _ (bcase true (Nat.land (a8t m) gr,0) _)) _=_;rw[e4];show(Nat.land (a8t m) gr,0)=_;have e5:a8t m=18446744073709551616-m:=by unfold a8t;omega
 have e6:Nat.land (a8t m) gr=2^k-m:=by
  show a8t m&&&gr=_;rw[hg,pV,e5];obtain⟨q,hq⟩:∃q,(18446744073709551616:Nat)=2^k*(q+1):=by refine⟨2^(64-k)-1,?_⟩;have:1<=2^(64-k):=Nat.one_le_two_pow;rw[Nat.sub_add_cancel this,<-sH,pI hk]
  have:18446744073709551616-m=(2^k-m)+2^k*q:=by rw[hq,Nat.mul_add];omega
  rw[this,Nat.add_mul_mod_self_left,tL zy]
 rw[e6]
theorem c3g {w N}(hw:w=32\/w=64)(hN:N<2^w):a1G (Lib.itoa (b8o w N)) (2^w-1)=(N,0):=by
 have hw1:1<=w/\w<=64:=zy;have h64:(2:Nat)^w<=2^64:=pR zu hw1.2;have h64':(2:Nat)^64=18446744073709551616:=zu;have hp:2^w=2*2^(w-1):=zo;unfold b8o;by_cases h:N<2^(w-1);rw[vG h];have e:Lib.itoa (N:Int)=Lib.decDigits N:=za;rw[e];grind[c4P];rw[vN h];have e0:((N:Int)-2^w)=-((2^w-N:Nat):Int):=by rw[Int.ofNat_sub zy];grind
 have e:Lib.itoa ((N:Int)-2^w)=45::Lib.decDigits (2^w-N):=by rw[e0];unfold Lib.itoa;rw[vG zy];simp
 rw[e,d6I (k:=w) zy hw1.2 hw1.1 rfl zy];have:2^w-(2^w-N)=N:=zy;rw[this]
theorem c8v (z):(Lib.itoa z).all (λb=>sgN b.toNat)=true/\Lib.itoa z≠[]:=by unfold Lib.itoa;by_cases h:z<0;rw[vG h];refine⟨?_,zq⟩;rw[nM,b3s];rfl;simp_all[vN,b3s,c1v]
def a0S (op:Nat):List UInt8:=match R5 (.ofNat op) O0 with|some r=>r.2.1|none=>[]
def opc (op:Nat):Nat:=if op=28 then 27 else op
def a1T (o:Option Nat)(n:Nat):Bool:=match o with|some m=>Nat.beq m n|none=>false
def nmB (r:a4h):Bool:=a1T (a5A r.2.1) (bcase (Nat.beq r.1 28) 27 r.1)&&(r.2.1.all (λb=>sgN b.toNat)&&(!r.2.1.isEmpty&&(!(b8d r.2.1)&&(!(a0u r.2.1 [111,102,102,115,101,116,61])&&(!(a0u r.2.1 [97,108,105,103,110,61])&&(!(a0n r.2.1)&&(!(beqBytes r.2.1 [114,101,115,117,108,116])&&(!(beqBytes r.2.1 [116,121,112,101])&&((a5O r.2.1==Nat.beq r.1 5)&&((isEn r.2.1==Nat.beq r.1 11)&& !(beqBytes r.2.1 [116,104,101,110])))))))))))
theorem d9h:J7 nmB O0=true:=zw
structure NmOk (op:Nat):Prop where
 f:a5A (a0S op)=some (opc op)
 sg:(a0S op).all (fun b=>sgN b.toNat)=true
 ne:a0S op≠[]
 ix:b8d (a0S op)=false
 of:a0u (a0S op) [111, 102, 102, 115, 101, 116, 61]=false
 al:a0u (a0S op) [97, 108, 105, 103, 110, 61]=false
 nm:a0n (a0S op)=false
 re:beqBytes (a0S op) [114, 101, 115, 117, 108, 116]=false
 ty:beqBytes (a0S op) [116, 121, 112, 101]=false
 el:a5O (a0S op)=Nat.beq op 5
 en:isEn (a0S op)=Nat.beq op 11
 th:beqBytes (a0S op) [116, 104, 101, 110]=false
theorem b4K {op}(h:J3 (.ofNat op)=true):NmOk op:=by
 unfold J3 at h;cases e:R5 (.ofNat op) O0 with
  |none=>rw[e]at h;cases h|some r=>
   obtain⟨h1,h2⟩:=a3L _ _ _ e;have h3:op=r.1:=qM h2;have h4:=(M5 _ _).1 d9h r h1;have e1:a0S op=r.2.1:=by unfold a0S;rw[e]
   unfold nmB at h4;simp only[wI,sw,nP]at h4;obtain⟨a1,a2,a3,a4,a5,a6,a7,a8,a9,a10,a11,a12⟩:=h4;rw[<-e1]at a1 a2 a3 a4 a5 a6 a7 a8 a9 a10 a11 a12;rw[<-h3]at a1 a10 a11;refine⟨?_,a2,λh=>(by rw[h]at a3;cases a3),a4,a5,a6,a7,a8,a9,a10,a11,a12⟩;unfold a1T at a1;cases e2:a5A (a0S op)with|none=>rw[e2]at a1;cases a1|some m=>rw[e2]at a1;have:m=bcase (Nat.beq op 28) 27 op:=wK a1;rw[this];unfold opc;by_cases h28:op=28;subst h28;rfl;rw[vN h28,a0x h28];rfl
section
theorem Is.wd {n W}(h:Is n (.w W)):n.k=2/\n.t=W/\n.l=[]:=by cases h;exact⟨rfl,rfl,rfl⟩
theorem Is.ls {n xs}(h:Is n (.l xs)):n.k=0/\n.t=[]/\IsL n.l xs:=by cases h with|l h=>exact⟨rfl,rfl,h⟩
theorem IsL.one {ns x}(h:IsL ns [x]):∃n,ns=[n]/\Is n x:=by cases h with|cons h1 h2=>cases h2;simp_all
theorem IsL.two {ns x y}(h:IsL ns [x,y]):∃n m,ns=[n,m]/\Is n x/\Is m y:=by cases h with|cons h1 h2=>obtain⟨m,rfl,h3⟩:=h2.one;grind
theorem IsL.split {ns xs ys}(h:IsL ns (xs++ys)):∃n1 n2,ns=n1++n2/\IsL n1 xs/\IsL n2 ys:=by induction xs generalizing ns with|nil=>exact⟨[],ns,rfl,.nil,h⟩|cons x xs ih=>cases h with|cons h1 h2=>obtain⟨n1,n2,rfl,h3,h4⟩:=ih h2;exact⟨_::n1,n2,rfl,.cons h1 h3,h4⟩
theorem d6D {α:Type}{l m:List α}{a}(h:l.drop a=m)(j):l[a+j]?=m[j]?:=by rw[<-h,uG]
theorem a0o {α:Type}{l m:List α}{a}(h:l.drop a=m):l[a]?=m[0]?:=d6D h 0
theorem X7 {α:Type}{l m:List α}{a x}(h:l.drop a=x::m):l.drop (a+1)=m:=by have:=vw List.tail h;simpa using this
structure FolN (n:Nd):Prop where
 ix:Y6 n.k n.t=false
 of:(decide (n.k=2) && a0u n.t [111, 102, 102, 115, 101, 116, 61])=false
 al:(decide (n.k=2) && a0u n.t [97, 108, 105, 103, 110, 61])=false
 nm:(decide (n.k=2) && a0n n.t)=false
 re:a1b n.k (a1D n.l) [114, 101, 115, 117, 108, 116]=false
 ty:a1b n.k (a1D n.l) [116, 121, 112, 101]=false
def Fol (t:List Nd):Prop:=∀n u,t=n::u->FolN n
theorem Fol.nil:Fol []:=λn u h=>zg
theorem Fol.no {l t a}(h:Fol t)(hd:l.drop a=t):isI l a=false:=by unfold isI;rw[a0o hd];cases t with|nil=>rfl|cons n u=>exact(h n u rfl).ix
theorem b0e {l t a u n}(hd:l.drop a=n::t)(hn:Is n (.w (Lib.decDigits u))):isI l a=true:=by unfold isI;rw[a0o hd];obtain⟨h1,h2,h3⟩:=hn.wd;grind[Y6,b1n]
theorem a5k {fd l t q a u n}(hd:l.drop a=n::t)(hn:Is n (.w (Lib.decDigits u)))(hf:fd (Lib.decDigits u)=(u,0)):N7 fd l q a=.ok u:=by unfold N7;rw[a0o hd];obtain⟨h1,h2,h3⟩:=hn.wd;show bcase (Y6 n.k n.t) (bcase (decide ((fd n.t).2=0)) (Ix.ok (fd n.t).1) (Ix.er n.p (fd n.t).2)) (Ix.er n.p 4)=_;unfold Y6;rw[h1,h2,b1n,hf];rfl
section
variable {F:Nat->List (Value×Value)}{L:List (List UInt8)}{al q a u v:Nat}{l t:List Nd}{R:RV}{n m:Nd}
theorem e7d {j}(hj:j=2\/j=4\/j=7\/j=8\/j=12\/j=16)(hu:u<4294967296)(hd:l.drop R.i=n::t)(hn:Is n (.w (Lib.decDigits u))):a1u F L al j l q R=.ok {R with i:=R.i+1,A:=u}:=by rcases hj with rfl|rfl|rfl|rfl|rfl|rfl;show a3X R (N7 (a0w L) l q R.i)=_;rw[a5k hd hn (c4W hu)];rfl;all_goals show a3X R (N7 (X4 _) l q R.i)=_;rw[a5k hd hn (a6B hu)];rfl
theorem d5k {fs}(hu:u<4294967296)(h:(u=0/\l.drop R.i=t/\Fol t)\/(l.drop R.i=n::t/\Is n (.w (Lib.decDigits u))))(h0:R.A=0):∃i,b3J (X4 fs) l q R=.ok {R with i:=i,A:=u}/\l.drop i=t:=by unfold b3J;rcases h with⟨rfl,h1,h2⟩|⟨h1,h2⟩;rw[h2.no h1];refine⟨R.i,?_,h1⟩;obtain⟨i,op,A,B,N,k,v,bi,ts,ls,nm⟩:=R;simp only at h0;subst h0;rfl;rw[b0e h1 h2,a5k h1 h2 (a6B hu)];exact⟨R.i+1,rfl,X7 h1⟩
theorem b6K {fs}(hu:u<4294967296)(h:(u=0/\l.drop R.i=t/\isI l R.i=false)\/(l.drop R.i=n::t/\Is n (.w (Lib.decDigits u))))(h0:R.B=0):∃i,a6q (X4 fs) l q R=.ok {R with i:=i,B:=u}/\l.drop i=t:=by unfold a6q;rcases h with⟨rfl,h1,h2⟩|⟨h1,h2⟩;rw[h2];refine⟨R.i,?_,h1⟩;obtain⟨i,op,A,B,N,k,v,bi,ts,ls,nm⟩:=R;simp only at h0;subst h0;rfl;rw[b0e h1 h2,a5k h1 h2 (a6B hu)];exact⟨R.i+1,rfl,X7 h1⟩
theorem d5l {fs}(hu:u<4294967296)(hv:v<4294967296)(h:(u=0/\v=0/\l.drop R.i=t/\Fol t)\/(l.drop R.i=n::m::t/\Is n (.w (Lib.decDigits u))/\Is m (.w (Lib.decDigits v))))(h0:R.A=0)(h1:R.B=0):∃i,b3F (X4 fs) l q R=.ok {R with i:=i,A:=u,B:=v}/\l.drop i=t:=by unfold b3F;rcases h with⟨rfl,rfl,h2,h3⟩|⟨h2,h3,h4⟩;rw[h3.no h2];refine⟨R.i,?_,h2⟩;obtain⟨i,op,A,B,N,k,v,bi,ts,ls,nm⟩:=R;simp only at h0 h1;subst h0;subst h1;rfl;rw[b0e h2 h3,a5k h2 h3 (a6B hu)];refine⟨R.i+1+1,?_,X7 (X7 h2)⟩;show b3D _ (N7 (X4 fs) l q (R.i+1))=_;rw[a5k (X7 h2) h4 (a6B hv)];rfl
theorem c2O {f1 f2}(hu:u<4294967296)(hv:v<4294967296)(h:(v=0/\l.drop R.i=n::t/\Is n (.w (Lib.decDigits u))/\Fol t)\/(l.drop R.i=m::n::t/\Is m (.w (Lib.decDigits v))/\Is n (.w (Lib.decDigits u))))(h1:R.B=0):∃i,a7F (X4 f1) (X4 f2) l q R=.ok {R with i:=i,A:=u,B:=v}/\l.drop i=t:=by unfold a7F;rcases h with⟨rfl,h2,h3,h4⟩|⟨h2,h3,h4⟩;rw[b0e h2 h3,h4.no (X7 h2),a5k (fd:=X4 f2) h2 h3 (a6B hu)];refine⟨R.i+1,?_,X7 h2⟩;obtain⟨i,op,A,B,N,k,v,bi,ts,ls,nm⟩:=R;simp only at h1;subst h1;rfl;rw[b0e h2 h3,b0e (X7 h2) h4,a5k h2 h3 (a6B hv)];refine⟨R.i+1+1,?_,X7 (X7 h2)⟩;show a3X _ (N7 (X4 f2) l q (R.i+1))=_;rw[a5k (X7 h2) h4 (a6B hu)];rfl
theorem c0X (hn:Is n (.l [.w [116,121,112,101],.w (Lib.decDigits u)])):a1b n.k (a1D n.l) [116,121,112,101]=true/\Y6 n.k n.t=false/\a1b n.k (a1D n.l) [114,101,115,117,108,116]=false:=by obtain⟨h1,h2,h3⟩:=hn.ls;obtain⟨x,y,h4,h5,h6⟩:=h3.two;obtain⟨h7,h8,h9⟩:=h5.wd;rw[h1,h2,h4];refine⟨?_,rfl,?_⟩;show(decide ((0:Nat)=0)&&(decide (x.k=2)&&beqBytes x.t _))=true;rw[h7,h8];rfl;show(decide ((0:Nat)=0)&&(decide (x.k=2)&&beqBytes x.t _))=false;rw[h7,h8];rfl
theorem d0d {fs put}(hu:u<4294967296)(hd:l.drop R.i=n::t)(hn:Is n (.l [.w [116,121,112,101],.w (Lib.decDigits u)])):a8L (X4 fs) put l q R=.ok (put {R with i:=R.i+1} u):=by
 obtain⟨b1,b2,b3⟩:=c0X hn;obtain⟨h1,h2,h3⟩:=hn.ls;obtain⟨x,y,h4,h5,h6⟩:=h3.two;obtain⟨h7,h8,h9⟩:=h6.wd;unfold a8L;rw[a0o hd];show bcase (a1b n.k (a1D n.l) _) _ _=_;rw[b1,D8,h4];show bcase (Y6 y.k y.t) (bcase (decide ((X4 fs y.t).2=0)) _ _) _=_;have e:Y6 y.k y.t=true:=by grind[Y6,b1n]
 rw[e,h8,a6B hu];rfl
theorem d5V (hu:u<4294967296)(hv:v<4294967296)(h:(v=0/\l.drop R.i=n::t)\/(l.drop R.i=m::n::t/\Is m (.w (Lib.decDigits v))))(hn:Is n (.l [.w [116,121,112,101],.w (Lib.decDigits u)]))(h1:R.B=0):∃i,a1u F L al 5 l q R=.ok {R with i:=i,A:=u,B:=v}/\l.drop i=t:=by
 obtain⟨b1,b2,b3⟩:=c0X hn;have h':(v=0/\l.drop R.i=n::t/\isI l R.i=false)\/(l.drop R.i=m::(n::t)/\Is m (.w (Lib.decDigits v))):=by rcases h with⟨h2,h3⟩|h2;simp_all[isI,a0o];simp_all
 obtain⟨i,e1,e2⟩:=b6K (q:=q) (fs:=F 2) hv h' h1;show∃i,(a6q (X4 (F 2)) l q R).then _=_/\_;rw[e1];refine⟨i+1,?_,X7 e2⟩;show a8L (X4 (F 0)) (λR k=>{R with A:=k}) l q {R with i:=i,B:=v}=_;rw[d0d (R:={R with i:=i,B:=v}) hu e2 hn]
theorem e5g {N w j}(hj:(j=18/\w=32)\/(j=19/\w=64))(hN:N<2^w)(hd:l.drop R.i=n::t)(hn:Is n (.w (Lib.itoa (b8o w N)))):a1u F L al j l q R=.ok {R with i:=R.i+1,N:=N}:=by obtain⟨h1,h2,h3⟩:=hn.wd;rcases hj with⟨rfl,rfl⟩|⟨rfl,rfl⟩;have hT:=c3g (Or.inl rfl) hN;show a9A l q R=_;unfold a9A;rw[a0o hd];show bcase (decide (n.k=2)) (bcase (decide ((a1G n.t 4294967295).2=0)) _ _) _=_;rw[h1,h2];have e:(2:Nat)^32-1=4294967295:=zu;rw[e]at hT;rw[hT];rfl;have hT:=c3g (Or.inr rfl) hN;show a9v l q R=_;unfold a9v;rw[a0o hd];show bcase (decide (n.k=2)) (bcase (decide ((a1G n.t 18446744073709551615).2=0)) _ _) _=_;rw[h1,h2];have e:(2:Nat)^64-1=18446744073709551615:=zu;rw[e]at hT;rw[hT];rfl
theorem e1C {A}(hA:A=3\/A=4)(hd:l.drop R.i=n::t)(hn:Is n (.w (bcase (decide (A=3)) [102,117,110,99] [101,120,116,101,114,110]))):a1u F L al 20 l q R=.ok {R with i:=R.i+1,A:=A}:=by obtain⟨h1,h2,h3⟩:=hn.wd;show b0O l q R=_;unfold b0O;rw[a0o hd];show bcase (decide (n.k=2)) (bcase (beqBytes n.t _) _ _) _=_;rw[h1,h2];rcases hA with rfl|rfl;rfl;rfl
end
end
section
def b0K (N:Nat):List UInt8:=[111,102,102,115,101,116,61]++Lib.decDigits N
def a8H (A:Nat):List UInt8:=[97,108,105,103,110,61]++Lib.decDigits (2^A)
theorem c2U (P T):a0u (P++T) P=true:=by unfold a0u;have e1:decide (P.length<=(P++T).length)=true:=wJ wR;rw[e1,a2w,List.take_left,uK,a2p];simp_all
theorem e0J {A}(h:A<64):a6X (2^A)=some A:=by have hall:J7 (λi=>a1T (a6X (2^i)) i) (upN 64)=true:=zw;have:=(M5 _ _).1 hall A (uH.2 h);unfold a1T at this;cases e:a6X (2^A)<;>simp_all
section
variable {F:Nat->List (Value×Value)}{L:List (List UInt8)}{al q a u v:Nat}{l t:List Nd}{R:RV}{n m:Nd}
theorem c8O {N}(hN:N<4294967296)(h:(N=0/\l.drop R.i=t/\∀n u,t=n::u->(decide (n.k=2)&&a0u n.t [111,102,102,115,101,116,61])=false)\/(l.drop R.i=n::t/\Is n (.w (b0K N))))(h0:R.N=0):∃i,a3B l R=.ok {R with i:=i,N:=N}/\l.drop i=t:=by
 unfold a3B;rcases h with⟨rfl,h1,h2⟩|⟨h1,h2⟩;refine⟨R.i,?_,h1⟩;have eR:({R with i:=R.i,N:=0}:RV)=R:=by obtain⟨i,op,A,B,N,k,v,bi,ts,ls,nm⟩:=R;simp_all
 rw[eR,a0o h1];cases t with|nil=>rfl|cons n u=>have h3:=h2 n u rfl;show bcase (decide (n.k=2)) (bcase (a0u n.t _) _ _) _=_;cases q1:decide (n.k=2)with|false=>rfl|true=>rw[q1,uK]at h3;rw[h3];rfl
 obtain⟨k1,k2,k3⟩:=h2.wd;refine⟨R.i+1,?_,X7 h1⟩;rw[a0o h1];show bcase (decide (n.k=2)) (bcase (a0u n.t _) (bcase (decide ((a4O (G7 n.t 7)).2=0)) _ _) _) _=_;have e:G7 (b0K N) 7=Lib.decDigits N:=by rw[a0z];rfl
 rw[k1,k2,show a0u (b0K N) [111,102,102,115,101,116,61]=true from c2U _ _,e,b7Y hN];rfl
theorem c9Z {A}(hA:A<64)(h:(A=R.A/\l.drop R.i=t/\Fol t)\/(l.drop R.i=n::t/\Is n (.w (a8H A)))):∃i,a8h l R=.ok {R with i:=i,A:=A}/\l.drop i=t:=by
 unfold a8h;rcases h with⟨h0,h1,h2⟩|⟨h1,h2⟩;refine⟨R.i,?_,h1⟩;have eR:({R with i:=R.i,A:=A}:RV)=R:=by rw[h0]
 rw[eR,a0o h1];cases t with|nil=>rfl|cons n u=>have h3:=(h2 n u rfl).al;show bcase (decide (n.k=2)) (bcase (a0u n.t _) _ _) _=_;cases q1:decide (n.k=2)with|false=>rfl|true=>rw[q1,uK]at h3;rw[h3];rfl
 obtain⟨k1,k2,k3⟩:=h2.wd;refine⟨R.i+1,?_,X7 h1⟩;rw[a0o h1];show bcase (decide (n.k=2)) (bcase (a0u n.t _) (bcase (decide ((a1G (G7 n.t 6) 18446744073709551615).2=0)) _ _) _) _=_;have e:G7 (a8H A) 6=Lib.decDigits (2^A):=by rw[a0z];rfl
 have h64:2^A<18446744073709551616:=by have:(2:Nat)^A<2^64:=Nat.pow_lt_pow_right zu hA;have h64':(2:Nat)^64=18446744073709551616:=zu;omega
 rw[k1,k2,show a0u (a8H A) [97,108,105,103,110,61]=true from c2U _ _,e,c4P h64 zy];show(match a6X (2^A)with|some i=>Rs.ok {R with i:=R.i+1,A:=i}|none=>.er n.p 4)=_;rw[e0J hA]
theorem e6X {N A nB nO nA} (hv:v<4294967296) (hN:N<4294967296) (hA:A<64) (hB:(v=0∧nB=[])∨∃ m,nB=[m]∧Is m (.w (Lib.decDigits v))) (hO:(N=0∧nO=[])∨∃ m,nO=[m]∧Is m (.w (b0K N))) (hL:(A=al∧nA=[])∨∃ m,nA=[m]∧Is m (.w (a8H A))) (hf:Fol t) (hd:l.drop R.i=nB ++ (nO ++ (nA ++ t))) (h1:R.B=0) (h2:R.N=0):∃ i,b8q F al l q R=.ok { R with i:=i,A:=A,B:=v,N:=N }∧l.drop i=t:=by
 have noA:∀ n u,nA ++ t=n::u→(decide (n.k=2) && a0u n.t [111, 102, 102, 115, 101, 116, 61])=false∧Y6 n.k n.t=false:=by
  intro n u h
  rcases hL with ⟨_,rfl⟩ | ⟨m,rfl,hm⟩
  · exact ⟨(hf n u h).of,(hf n u h).ix⟩
  · obtain ⟨k1,k2,k3⟩:=hm.wd
    have:n=m:=by cases h; rfl
    subst this
    rw [k1,k2]
    refine ⟨?_,rfl⟩
    have:a0u (a8H A) [111, 102, 102, 115, 101, 116, 61]=false:=by
     cases q1:a0u (a8H A) [111, 102, 102, 115, 101, 116, 61] with
     | false=>rfl
     | true=>
       unfold a0u at q1
       rw [wI] at q1
       have:=a5f q1.2
       rw [a2w] at this
       cases this
    rw [this,uJ]
 have noO:isI l R.i=false∨nB≠[]:=by
  rcases hB with ⟨_,rfl⟩ | ⟨m,rfl,_⟩
  · refine Or.inl ?_
    unfold isI
    rw [a0o hd,vI]
    rcases hO with ⟨_,rfl⟩ | ⟨m,rfl,hm⟩
    · rw [vI]
      cases e:nA ++ t <;> simp_all
    · obtain ⟨k1,k2,k3⟩:=hm.wd
      show Y6 m.k m.t=false
      rw [k1,k2]; rfl
  simp_all
 unfold b8q
 obtain ⟨i1,e1,d1⟩:∃ i,a6q (X4 (F 3)) l q { R with A:=al }=.ok { R with A:=al,i:=i,B:=v }∧l.drop i=nO ++ (nA ++ t):=by
  rcases hB with ⟨rfl,rfl⟩ | ⟨m,rfl,hm⟩
  · exact b6K (R:={ R with A:=al }) (n:=.mk 0 0 [] []) zu (Or.inl ⟨rfl,hd,noO.resolve_right (fun h=>h rfl)⟩) h1
  · exact b6K (R:={ R with A:=al }) hv (Or.inr ⟨hd,hm⟩) h1
 rw [e1]
 obtain ⟨i2,e2,d2⟩:∃ i,a3B l { R with A:=al,i:=i1,B:=v }=.ok { R with A:=al,B:=v,i:=i,N:=N }∧l.drop i=nA ++ t:=by
  rcases hO with ⟨rfl,rfl⟩ | ⟨m,rfl,hm⟩
  · exact c8O (R:={ R with A:=al,i:=i1,B:=v }) (n:=.mk 0 0 [] []) zu (Or.inl ⟨rfl,d1,fun n u h=>(noA n u h).1⟩) h2
  · exact c8O (R:={ R with A:=al,i:=i1,B:=v }) hN (Or.inr ⟨d1,hm⟩) h2
 show ∃ i,(a3B l { R with A:=al,i:=i1,B:=v }).then (fun R2=>a8h l R2)=_∧_
 rw [e2]
 obtain ⟨i3,e3,d3⟩:∃ i,a8h l { R with A:=al,B:=v,i:=i2,N:=N }=.ok { R with A:=A,B:=v,i:=i,N:=N }∧l.drop i=t:=by
  rcases hL with ⟨rfl,rfl⟩ | ⟨m,rfl,hm⟩
  · exact c9Z (R:={ R with A:=A,B:=v,i:=i2,N:=N }) (n:=.mk 0 0 [] []) hA (Or.inl ⟨rfl,d2,hf⟩)
  · exact c9Z (R:={ R with A:=al,B:=v,i:=i2,N:=N }) hA (Or.inr ⟨d2,hm⟩)
 exact ⟨i3,e3,d3⟩
theorem e5d {fd}(hfd:∀u,u<4294967296->fd (Lib.decDigits u)=(u,0))(hf:Fol t):∀(ks) (ns),ks≠[]->(∀k∈ks,k<4294967296)->IsL ns (ks.map λk=>.w (Lib.decDigits k))->a3j fd q (ns++t)=.ok ks:=by
 intro ks;induction ks with
  |nil=>simp_all|cons k ks ih=>
   intro ns _ hk hi;cases hi with
    | @cons n x ns xs h1 h2=>
     obtain⟨k1,k2,k3⟩:=h1.wd;have e1:Y6 n.k n.t=true:=by grind[Y6,b1n]
     have e2:=hfd k (hk k zq);rw[ut];unfold a3j;rw[e1,D8,k2,e2];show bcase true (bcase (hdI (ns++t)) ((a3j fd q (ns++t)).cons k) (.ok [k])) _=_;rw[D8];cases ks with
      |nil=>
       cases h2;have:hdI ([]++t)=false:=by cases t with|nil=>rfl|cons n u=>exact(hf n u rfl).ix
       rw[this];rfl|cons k' ks'=>
       have hih:=ih ns zq (λx hx=>hk x (by simp[hx])) h2;rw[hih];cases h2 with
        | @cons n' x' ns' xs' h3 h4=>
         obtain⟨j1,j2,j3⟩:=h3.wd;have:hdI (n'::ns'++t)=true:=by show Y6 n'.k n'.t=true;grind[Y6,b1n]
         rw[this];rfl
theorem e0m {v}(h1:1<=v)(h4:v<=4):a8y (U6 (.ofNat v))=some v:=by have:v=1\/v=2\/v=3\/v=4:=zy;rcases this with rfl|rfl|rfl|rfl;rfl;rfl;rfl;rfl
theorem d0R {W}(hn:Is n (.l [.w [114,101,115,117,108,116],.w W])):a1b n.k (a1D n.l) [114,101,115,117,108,116]=true/\n.k=0:=by obtain⟨h1,h2,h3⟩:=hn.ls;obtain⟨x,y,h4,h5,h6⟩:=h3.two;obtain⟨h7,h8,h9⟩:=h5.wd;refine⟨?_,h1⟩;rw[h1,h4];show(decide ((0:Nat)=0)&&(decide (x.k=2)&&beqBytes x.t _))=true;rw[h7,h8];rfl
theorem c9p {v}(h1:1<=v)(h4:v<=4)(hn:Is n (.l [.w [114,101,115,117,108,116],.w (U6 (.ofNat v))])):a3m n q=.ok v:=by obtain⟨a1,a2,a3⟩:=hn.ls;obtain⟨x,y,a4,a5,a6⟩:=a3.two;obtain⟨a7,a8,a9⟩:=a6.wd;unfold a3m;rw[a4];show bcase (decide (y.k=2)) (match a8y y.t with|none=>_|some t=>_) _=_;rw[a7,a8,e0m h1 h4];rfl
inductive BlkN (F:Nat→List (Value×Value)):Nat→Nat→Nat→List Nd→Prop
 | none:BlkN F 0 0 0 []
 | val {v:Nat} {n:Nd}:1≤v→v≤4→Is n (.l [.w [114, 101, 115, 117, 108, 116],.w (U6 (.ofNat v))])→BlkN F 1 v 0 [n]
 | idx {u:Nat} {n:Nd}:u<4294967296→Is n (.l [.w [116, 121, 112, 101],.w (Lib.decDigits u)])→BlkN F 2 0 u [n]
end
end
inductive It where
 | w (W:List UInt8)
 | l (W V:List UInt8)
def It.b:It->List UInt8|.w W=>32::W|.l W V=>32::40::(W++32::(V++[41]))
def It.k:It->List (Nat×List UInt8)|.w W=>[(2,W)]|.l W V=>[(0,[]),(2,W),(2,V),(1,[])]
def It.s:It->Sp|.w W=>.w W|.l W V=>.l [.w W,.w V]
def Wd (W:List UInt8):Prop:=W≠[]/\W.all (λb=>sgN b.toNat)=true
def It.ok:It->Prop|.w W=>Wd W|.l W V=>Wd W/\Wd V
theorem Lk.it {x:It}{t ks}(hx:x.ok)(ht:b2B t=false)(H:Lk t ks):Lk (x.b++t) (x.k++ks):=by
 cases x with
  |w W=>exact Lk.ws (b:=32) rfl (Lk.wd hx.1 hx.2 ht H)|l W V=>
   obtain⟨⟨h1,h2⟩,h3,h4⟩:=hx;have e:It.b (.l W V)++t=32::40::(W++32::(V++41::t)):=by show 32::40::(W++32::(V++[41]))++t=_;simp
   rw[e];refine Lk.ws (b:=32) rfl (Lk.op ?_ (Lk.wd h1 h2 rfl (Lk.ws (b:=32) rfl (Lk.wd h3 h4 rfl (Lk.cl H)))));cases W with|nil=>simp_all|cons b W=>simp_all[c6Z]
theorem Lk.its:∀(its:List It) {t} {ks},(∀x∈its,x.ok)->b2B t=false->Lk t ks->Lk (its.flatMap It.b++t) (its.flatMap It.k++ks)/\b2B (its.flatMap It.b++t)=false:=by intro its;induction its with|nil=>simp_all|cons x its ih=>intro t ks hx ht H;obtain⟨h1,h2⟩:=ih (λy hy=>hx y (by simp[hy])) ht H;rw[vK,vK,vX,vX];refine⟨Lk.it (hx x zq) h2 h1,?_⟩;cases x<;>rfl
theorem Bal.its:∀its:List It,Bal 1 (its.flatMap It.k) (its.map It.s):=by intro its;induction its with|nil=>exact .nil|cons x its ih=>rw[vK,uh];cases x with|w W=>exact .w ih|l W V=>exact .l (.w (.w .nil)) ih
def a8k (n:Nat):List It:=bcase (Nat.beq n 0) [] [.w (Lib.decDigits n)]
def tyW:List UInt8:=[116,121,112,101]
def reW:List UInt8:=[114,101,115,117,108,116]
inductive Pl:AI→List It→Prop
 | none {op:Nat}:F7 (.ofNat op)=0→Pl ⟨op, 0, 0, 0, 0, 0, 0, [], []⟩ []
 | one {op A j:Nat}:F7 (.ofNat op)=j→(j=2∨j=4∨j=7∨j=8∨j=12∨j=16)→A<4294967296→Pl ⟨op,A, 0, 0, 0, 0, 0, [], []⟩ [.w (Lib.decDigits A)]
 | tab {op A:Nat} {ls:List Nat}:F7 (.ofNat op)=3→A<4294967296→(∀ k∈ls,k<4294967296)→Pl ⟨op,A, 0, 0, 0, 0, 0, [],ls⟩ ((ls ++ [A]).map fun k=>.w (Lib.decDigits k))
 | ind {op A B:Nat}:F7 (.ofNat op)=5→A<4294967296→B<4294967296→Pl ⟨op,A,B, 0, 0, 0, 0, [], []⟩ (a8k B ++ [.l tyW (Lib.decDigits A)])
 | sel {v:Nat}:1≤v→v≤4→Pl ⟨28, 0, 0, 0, 0, 0, 0, [v], []⟩ [.l reW (U6 (.ofNat v))]
 | tbl {op A:Nat}:F7 (.ofNat op)=9→A<4294967296→Pl ⟨op,A, 0, 0, 0, 0, 0, [], []⟩ (a8k A)
 | two {op A B j:Nat}:F7 (.ofNat op)=j→(j=10∨j=14)→A<4294967296→B<4294967296→Pl ⟨op,A,B, 0, 0, 0, 0, [], []⟩ (bcase (Nat.beq A 0 && Nat.beq B 0) [] [.w (Lib.decDigits A),.w (Lib.decDigits B)])
 | ini {op A B j:Nat}:F7 (.ofNat op)=j→(j=11∨j=15)→A<4294967296→B<4294967296→Pl ⟨op,A,B, 0, 0, 0, 0, [], []⟩ (a8k B ++ [.w (Lib.decDigits A)])
 | mem {op B:Nat}:F7 (.ofNat op)=13→B<4294967296→Pl ⟨op, 0,B, 0, 0, 0, 0, [], []⟩ (a8k B)
 | acc {op A B N:Nat}:F7 (.ofNat op)=17→A<64→B<4294967296→N<4294967296→Pl ⟨op,A,B,N, 0, 0, 0, [], []⟩ (a8k B ++ (bcase (Nat.beq N 0) [] [.w (b0K N)] ++ bcase (Nat.beq A (a1p op)) [] [.w (a8H A)]))
 | con {op N j w:Nat}:F7 (.ofNat op)=j→(j=18∧w=32∨j=19∧w=64)→N<2 ^ w→Pl ⟨op, 0, 0,N, 0, 0, 0, [], []⟩ [.w (Lib.itoa (b8o w N))]
 | null {op A:Nat}:F7 (.ofNat op)=20→(A=3∨A=4)→Pl ⟨op,A, 0, 0, 0, 0, 0, [], []⟩ [.w (bcase (decide (A=3)) [102, 117, 110, 99] [101, 120, 116, 101, 114, 110])]
theorem a9w (u):Wd (Lib.decDigits u):=⟨c1v u,b3s u⟩
theorem b0t {n x}(h:x∈a8k n):x.ok:=by unfold a8k at h;cases q:Nat.beq n 0 with|true=>rw[q]at h;cases h|false=>rw[q,A8,vP]at h;subst h;exact a9w n
theorem d1g {v}(h1:1<=v)(h4:v<=4):Wd (U6 (.ofNat v)):=by have:v=1\/v=2\/v=3\/v=4:=zy;have one:Wd [105,51,50]:=⟨zq,zw⟩;have two:Wd [105,54,52]:=⟨zq,zw⟩;have thr:Wd [102,117,110,99,114,101,102]:=⟨zq,zw⟩;have fou:Wd [101,120,116,101,114,110,114,101,102]:=⟨zq,zw⟩;rcases this with rfl|rfl|rfl|rfl;exact one;exact two;exact thr;exact fou
theorem e0M (N):Wd (b0K N):=⟨by unfold b0K;simp,by unfold b0K;rw[List.all_append,b3s,sP];kernel_rfl⟩
theorem e0w (A):Wd (a8H A):=⟨by unfold a8H;simp,by unfold a8H;rw[List.all_append,b3s,sP];kernel_rfl⟩
theorem d4F:Wd tyW:=⟨by unfold tyW;simp,zw⟩
theorem d5d:Wd reW:=⟨by unfold reW;simp,zw⟩
theorem Pl.ok {X its}(h:Pl X its):∀x∈its,x.ok:=by
 intro x hx;cases h with
  |none=>cases hx|one _ _ _=>rw[vP]at hx;subst hx;exact a9w _|tab _ _ _=>rw[uQ]at hx;obtain⟨k,_,rfl⟩:=hx;exact a9w k|ind _ _ _=>rcases uf.1 hx with h|h;exact b0t h;rw[vP]at h;subst h;exact⟨d4F,a9w _⟩|sel h1 h4=>rw[vP]at hx;subst hx;exact⟨d5d,d1g h1 h4⟩|tbl _ _=>exact b0t hx| @two op A B j _ _ _ _=>cases q:Nat.beq A 0&&Nat.beq B 0 with|true=>rw[q]at hx;cases hx|false=>rw[q,A8]at hx;simp only[uy,List.not_mem_nil,or_false]at hx;rcases hx with rfl|rfl;exact a9w _;exact a9w _
  |ini _ _ _ _=>rcases uf.1 hx with h|h;exact b0t h;rw[vP]at h;subst h;exact a9w _|mem _ _=>exact b0t hx| @acc op A B N _ _ _ _=>
   rcases uf.1 hx with h|h;exact b0t h;rcases uf.1 h with h|h;cases q:Nat.beq N 0 with|true=>rw[q]at h;cases h|false=>rw[q,A8,vP]at h;subst h;exact e0M N
   cases q:Nat.beq A (a1p op)with|true=>rw[q]at h;cases h|false=>rw[q,A8,vP]at h;subst h;exact e0w A
  |con _ _ _=>rw[vP]at hx;subst hx;exact⟨(c8v _).2,(c8v _).1⟩| @null op A _ hA=>rw[vP]at hx;subst hx;rcases hA with rfl|rfl;exact(⟨zq,zw⟩:Wd [102,117,110,99]);exact(⟨zq,zw⟩:Wd [101,120,116,101,114,110])
section
theorem b3f {B ns}(h:IsL ns ((a8k B).map It.s)):(B=0/\ns=[])\/∃m,ns=[m]/\Is m (.w (Lib.decDigits B)):=by unfold a8k at h;cases q:Nat.beq B 0 with|true=>rw[q]at h;cases h;simp_all|false=>rw[q,A8]at h;exact Or.inr h.one
section
variable {F:Nat->List (Value×Value)}{L:List (List UInt8)}{i:Nat}{l t ns:List Nd}{n:Nd}
theorem a4X {op}(hop:a5A n.t=some op)(h27:op≠27)(h3:F7 (.ofNat op)≠3){R'}(h:a1u F L (a1p op) (F7 (.ofNat op)) l n.p (RV0 op (i+1))=.ok R'):a1K F L l i n=.ok ⟨R'.op,R'.A,R'.B,R'.N,R'.k,R'.v,R'.bi,[],[]⟩ R'.nm R'.i:=by unfold a1K;rw[hop];show bcase (decide (op=27)) _ (bcase (decide (F7 (.ofNat op)=3)) _ (c6k (a1u F L (a1p op) (F7 (.ofNat op)) l n.p (RV0 op (i+1)))))=_;rw[wL h27,A8,wL h3,A8,h];rfl
theorem e3S:F7 (.ofNat 27)=0:=zw
theorem d5D:F7 (.ofNat 28)=6:=zw
theorem a4l {op j}(hk:J3 (.ofNat op)=true)(hn:n.t=a0S op)(hj:F7 (.ofNat op)=j)(h6:j≠6):a5A n.t=some op:=by rw[hn,(b4K hk).f];unfold opc;rw[vN];grind[d5D]
theorem a8V {op j}(hj:F7 (.ofNat op)=j)(h0:j≠0):op≠27:=λe=>by grind[e3S]
theorem d1j {X its}(h:Pl X its)(hk:J3 (.ofNat X.op)=true)(hn:n.t=a0S X.op)(hd:l.drop i=n::(ns++t))(hns:IsL ns (its.map It.s))(hf:Fol t):∃nx,a1K F L l i n=.ok X [] nx/\l.drop nx=t:=by
 have hd1:=X7 hd;cases h with
  | @none op h0=>
   cases hns;have hop:=a4l hk hn h0 zu;refine⟨i+1,?_,hd1⟩;by_cases h27:op=27;subst h27;unfold a1K;rw[hop];show(match l[i+1]? with|none=>_|some n1=>_)=_;rw[a0o hd1,vI];cases t with|nil=>rfl|cons m u=>show bcase (a1b m.k (a1D m.l) _) _ _=_;rw[(hf m u rfl).re];rfl
   rw[a4X hop h27 (by rw[h0];decide) (R':=RV0 op (i+1)) (by rw[h0];rfl)];rfl| @one op A j hj h1 hA=>obtain⟨m,rfl,hm⟩:=hns.one;have hop:=a4l hk hn hj zy;refine⟨i+1+1,?_,X7 hd1⟩;rw[a4X hop (a8V hj zy) (by rw[hj];omega) (by rw[hj];exact e7d (R:=RV0 op (i+1)) h1 hA hd1 hm)];rfl| @tab op A ls h3 hA hls=>
   have hop:=a4l hk hn h3 zu;have hks:∀k∈ls++[A],k<4294967296:=λk hk=>zo;rw[tq]at hns;have hT:=e5d (q:=n.p) (fd:=a0w L) (t:=t) (λu hu=>c4W hu) hf (ls++[A]) ns zq hks hns;rw[<-hd1]at hT;have hlen:ns.length=(ls++[A]).length:=by
    have:∀(ns:List Nd) (xs:List Sp),IsL ns xs->ns.length=xs.length:=by intro ns;induction ns with|nil=>intro xs h;cases h;rfl|cons n ns ih=>intro xs h;cases h<;>grind
    rw[this _ _ hns,wB]
   refine⟨i+1+(ls++[A]).length,?_,?_⟩;unfold a1K;rw[hop];show bcase (decide (op=27)) _ (bcase (decide (F7 (.ofNat op)=3)) (match a3j (a0w L) n.p (l.drop (i+1))with|.ok ks=>_|.er p e=>_) _)=_;rw[wL (a8V h3 zu),A8,wJ h3,D8,hT];have e1:a9R (ls++[A])=A:=by grind[a9R]
   have e2:(ls++[A]).dropLast=ls:=List.dropLast_concat;simp_all;grind[List.drop_drop,List.drop_left]| @ind op A B h5 hA hB=>
   have hop:=a4l hk hn h5 zu;rw[uu]at hns;obtain⟨nB,nT,rfl,hB',hT⟩:=hns.split;obtain⟨m,rfl,hm⟩:=hT.one;obtain⟨nx,e1,e2⟩:∃nx,a1u F L (a1p op) 5 l n.p (RV0 op (i+1))=.ok {RV0 op (i+1)with i:=nx,A:=A,B:=B}/\l.drop nx=t:=by rcases b3f hB' with⟨rfl,rfl⟩|⟨m2,rfl,hm2⟩;exact d5V (R:=RV0 op (i+1)) (m:=.mk 0 0 [] []) hA zu (Or.inl ⟨rfl,hd1⟩) hm rfl;exact d5V (R:=RV0 op (i+1)) hA hB (Or.inr ⟨hd1,hm2⟩) hm rfl
   refine⟨nx,?_,e2⟩;rw[a4X hop (a8V h5 zu) (by rw[h5];decide) (by rw[h5];exact e1)];rfl| @sel v h1 h4=>
   obtain⟨m,rfl,hm⟩:=hns.one;refine⟨i+2,?_,X7 hd1⟩;have hop:a5A n.t=some 27:=by rw[hn,(b4K hk).f];rfl
   unfold a1K;rw[hop];show(match l[i+1]? with|none=>_|some n1=>_)=_;rw[a0o hd1];show bcase (a1b m.k (a1D m.l) _) (match a3m m n.p with|.ok t=>_|.er p e=>_) _=_;rw[(d0R hm).1,D8,c9p h1 h4 hm]| @tbl op A h9 hA=>
   have hop:=a4l hk hn h9 zu;obtain⟨nx,e1,e2⟩:∃nx,b3J (X4 (F 2)) l n.p (RV0 op (i+1))=.ok {RV0 op (i+1)with i:=nx,A:=A}/\l.drop nx=t:=by rcases b3f hns with⟨rfl,rfl⟩|⟨m2,rfl,hm2⟩;exact d5k (R:=RV0 op (i+1)) (n:=.mk 0 0 [] []) zu (Or.inl ⟨rfl,hd1,hf⟩) rfl;exact d5k (R:=RV0 op (i+1)) hA (Or.inr ⟨hd1,hm2⟩) rfl
   refine⟨nx,?_,e2⟩;rw[a4X hop (a8V h9 zu) (by rw[h9];decide) (by rw[h9];exact e1)];rfl| @two op A B j hj h2 hA hB=>
   have hop:=a4l hk hn hj zy;have key:∀fs,∃nx,b3F (X4 fs) l n.p (RV0 op (i+1))=.ok {RV0 op (i+1)with i:=nx,A:=A,B:=B}/\l.drop nx=t:=λfs=>by cases q:Nat.beq A 0&&Nat.beq B 0 with|true=>rw[q]at hns;cases hns;rw[wI]at q;have hA0:A=0:=wK q.1;have hB0:B=0:=wK q.2;subst hA0;subst hB0;exact d5l (R:=RV0 op (i+1)) (n:=.mk 0 0 [] []) (m:=.mk 0 0 [] []) zu zu (Or.inl ⟨rfl,rfl,hd1,hf⟩) rfl rfl|false=>rw[q,A8]at hns;obtain⟨x,y,rfl,hx,hy⟩:=hns.two;exact d5l (R:=RV0 op (i+1)) hA hB (Or.inr ⟨hd1,hx,hy⟩) rfl rfl
   rcases h2 with rfl|rfl;obtain⟨nx,e1,e2⟩:=key (F 2);refine⟨nx,?_,e2⟩;rw[a4X hop (a8V hj zu) zX (by rw[hj];exact e1)];rfl;obtain⟨nx,e1,e2⟩:=key (F 3);refine⟨nx,?_,e2⟩;rw[a4X hop (a8V hj zu) zX (by rw[hj];exact e1)];rfl| @ini op A B j hj h2 hA hB=>
   have hop:=a4l hk hn hj zy;rw[uu]at hns;obtain⟨nB,nT,rfl,hB',hT⟩:=hns.split;obtain⟨m,rfl,hm⟩:=hT.one;have key:∀f1 f2,∃nx,a7F (X4 f1) (X4 f2) l n.p (RV0 op (i+1))=.ok {RV0 op (i+1)with i:=nx,A:=A,B:=B}/\l.drop nx=t:=λf1 f2=>by rcases b3f hB' with⟨rfl,rfl⟩|⟨m2,rfl,hm2⟩;exact c2O (R:=RV0 op (i+1)) (m:=.mk 0 0 [] []) hA zu (Or.inl ⟨rfl,hd1,hm,hf⟩) rfl;exact c2O (R:=RV0 op (i+1)) hA hB (Or.inr ⟨hd1,hm2,hm⟩) rfl
   rcases h2 with rfl|rfl;obtain⟨nx,e1,e2⟩:=key (F 2) (F 5);refine⟨nx,?_,e2⟩;rw[a4X hop (a8V hj zu) zX (by rw[hj];exact e1)];rfl;obtain⟨nx,e1,e2⟩:=key (F 3) (F 6);refine⟨nx,?_,e2⟩;rw[a4X hop (a8V hj zu) zX (by rw[hj];exact e1)];rfl| @mem op B h13 hB=>
   have hop:=a4l hk hn h13 zu;obtain⟨nx,e1,e2⟩:∃nx,a6q (X4 (F 3)) l n.p (RV0 op (i+1))=.ok {RV0 op (i+1)with i:=nx,B:=B}/\l.drop nx=t:=by rcases b3f hns with⟨rfl,rfl⟩|⟨m2,rfl,hm2⟩;exact b6K (R:=RV0 op (i+1)) (n:=.mk 0 0 [] []) zu (Or.inl ⟨rfl,hd1,hf.no hd1⟩) rfl;exact b6K (R:=RV0 op (i+1)) hB (Or.inr ⟨hd1,hm2⟩) rfl
   refine⟨nx,?_,e2⟩;rw[a4X hop (a8V h13 zu) (by rw[h13];decide) (by rw[h13];exact e1)];rfl| @acc op A B N h17 hA hB hN=>
   have hop:=a4l hk hn h17 zu;rw[uu,uu]at hns;obtain⟨nB,nT,rfl,hB',hT⟩:=hns.split;obtain⟨nO,nA,rfl,hO,hL⟩:=hT.split;have hO':(N=0/\nO=[])\/∃m,nO=[m]/\Is m (.w (b0K N)):=by cases q:Nat.beq N 0 with|true=>rw[q]at hO;cases hO;simp_all|false=>rw[q,A8]at hO;exact Or.inr hO.one
   have hL':(A=a1p op/\nA=[])\/∃m,nA=[m]/\Is m (.w (a8H A)):=by cases q:Nat.beq A (a1p op)with|true=>rw[q]at hL;cases hL;simp_all|false=>rw[q,A8]at hL;exact Or.inr hL.one
   obtain⟨nx,e1,e2⟩:=e6X (F:=F) (q:=n.p) (al:=a1p op) (R:=RV0 op (i+1)) hB hN hA (b3f hB') hO' hL' hf (by have h:=hd1;rw[vX,vX]at h;exact h) rfl rfl;refine⟨nx,?_,e2⟩;rw[a4X hop (a8V h17 zu) (by rw[h17];decide) (by rw[h17];exact e1)];rfl| @con op N j w hj h2 hN=>obtain⟨m,rfl,hm⟩:=hns.one;have hop:=a4l hk hn hj zy;refine⟨i+1+1,?_,X7 hd1⟩;rw[a4X hop (a8V hj zy) (by rw[hj];omega) (by rw[hj];exact e5g (R:=RV0 op (i+1)) h2 hN hd1 hm)];rfl| @null op A h20 hA=>obtain⟨m,rfl,hm⟩:=hns.one;have hop:=a4l hk hn h20 zu;refine⟨i+1+1,?_,X7 hd1⟩;rw[a4X hop (a8V h20 zu) (by rw[h20];decide) (by rw[h20];exact e1C (R:=RV0 op (i+1)) hA hd1 hm)];rfl
end
end
structure Fd (x:AI×List It):Prop where
 pl:Pl x.1 x.2
 kn:J3 (.ofNat x.1.op)=true
 el:x.1.op≠5
 en:x.1.op≠11
def d4v:List (AI×List It)->List UInt8|[]=>[]|x::r=>40::(a0S x.1.op++(x.2.flatMap It.b++32::(d4v r++[41])))
theorem e6a {X its}(h:Pl X its):X.op≠2/\X.op≠3/\X.op≠4:=by have i2:F7 (.ofNat 2)=1:=zw;have i3:F7 (.ofNat 3)=1:=zw;have i4:F7 (.ofNat 4)=1:=zw;have key:∀op,F7 (.ofNat op)≠1->op≠2/\op≠3/\op≠4:=λop h=>⟨λe=>h (e▸i2),λe=>h (e▸i3),λe=>h (e▸i4)⟩;cases h<;>grind
theorem IsL.none {ns}(h:IsL ns []):ns=[]:=by cases h;rfl
section
inductive Bt:Nat→Nat→Nat→List It→Prop
 | none:Bt 0 0 0 []
 | val {v:Nat}:1≤v→v≤4→Bt 1 v 0 [.l reW (U6 (.ofNat v))]
 | idx {u:Nat}:u<4294967296→Bt 2 0 u [.l tyW (Lib.decDigits u)]
theorem Bt.ok {k v b its}(h:Bt k v b its):∀x∈its,x.ok:=by intro x hx;cases h with|none=>cases hx|val h1 h2=>rw[vP]at hx;subst hx;exact⟨d5d,d1g h1 h2⟩|idx h1=>rw[vP]at hx;subst hx;exact⟨d4F,a9w _⟩
section
variable {F:Nat->List (Value×Value)}{L:List (List UInt8)}{i q:Nat}{l t ns:List Nd}{n:Nd}{R:RV}
theorem d0Z {k v b its}(h:Bt k v b its)(hd:l.drop R.i=ns++t)(hns:IsL ns (its.map It.s))(hf:Fol t)(r1:R.k=0)(r2:R.v=0)(r3:R.bi=0):∃i',a6K F l q R=.ok {R with i:=i',k:=k,v:=v,bi:=b}/\l.drop i'=t:=by
 obtain⟨Ri,Rop,RA,RB,RN,Rk,Rv,Rb,R1,R2,R3⟩:=R;simp only at hd r1 r2 r3;subst r1 r2 r3;unfold a6K;cases h with
  |none=>cases hns;rw[a0o hd,vI];refine⟨Ri,?_,hd⟩;cases t with|nil=>rfl|cons m u=>show bcase (a1b m.k (a1D m.l) _) _ (bcase (a1b m.k (a1D m.l) _) _ _)=_;rw[(hf m u rfl).re,(hf m u rfl).ty];rfl
  | @val v h1 h2=>obtain⟨m,rfl,hm⟩:=hns.one;rw[a0o hd];refine⟨Ri+1,?_,X7 hd⟩;show bcase (a1b m.k (a1D m.l) _) (match a3m m q with|.ok t=>_|.er p e=>_) _=_;rw[(d0R hm).1,c9p h1 h2 hm];rfl| @idx u h1=>obtain⟨m,rfl,hm⟩:=hns.one;rw[a0o hd];refine⟨Ri+1,?_,X7 hd⟩;obtain⟨b1,b2,b3⟩:=c0X hm;show bcase (a1b m.k (a1D m.l) _) _ (bcase (a1b m.k (a1D m.l) _) _ _)=_;rw[b3,b1,A8,D8];exact d0d (R:=⟨Ri,Rop,RA,RB,RN,2,0,0,R1,R2,R3⟩) h1 hd hm
theorem e6q {op}(h:blkB op=true):F7 (.ofNat op)=1:=by have i2:F7 (.ofNat 2)=1:=zw;have i3:F7 (.ofNat 3)=1:=zw;have i4:F7 (.ofNat 4)=1:=zw;unfold blkB at h;grind
theorem d2j {op k v b its lb}(hop:blkB op=true)(hk:J3 (.ofNat op)=true)(h:Bt k v b its)(hlb:lb=[]\/∃W,lb=[W]/\a0n W=true)(hn:n.t=a0S op)(hd:l.drop i=n::(ns++t))(hns:IsL ns ((lb.map It.w++its).map It.s))(hf:Fol t):∃nm nx,a1K F L l i n=.ok ⟨op,0,0,0,k,v,b,[],[]⟩ nm nx/\l.drop nx=t:=by
 have hj:=e6q hop;have hd1:=X7 hd;have hfo:=a4l hk hn hj zu;have key:∀R':RV,a6K F l n.p (a6Z l (RV0 op (i+1)))=.ok R'->a1K F L l i n=.ok ⟨R'.op,R'.A,R'.B,R'.N,R'.k,R'.v,R'.bi,[],[]⟩ R'.nm R'.i:=λR' e=>a4X hfo (a8V hj zu) zX (by rw[hj];exact e);rcases hlb with rfl|⟨W,rfl,hW⟩;have hns':IsL ns (its.map It.s):=hns;have e0:a6Z l (RV0 op (i+1))=RV0 op (i+1):=by
  unfold a6Z;show(match l[i+1]? with|none=>_|some n=>_)=_;rw[a0o hd1];cases h with
   |none=>cases hns';rw[vI];cases t with|nil=>rfl|cons m u=>show bcase (decide (m.k=2)&&a0n m.t) _ _=_;rw[(hf m u rfl).nm];rfl
   |val h1 h2=>obtain⟨m,rfl,hm⟩:=hns'.one;show bcase (decide (m.k=2)&&a0n m.t) _ _=_;rw[hm.ls.1];rfl|idx h1=>obtain⟨m,rfl,hm⟩:=hns'.one;show bcase (decide (m.k=2)&&a0n m.t) _ _=_;rw[hm.ls.1];rfl
 obtain⟨i',e1,e2⟩:=d0Z (F:=F) (q:=n.p) (R:=RV0 op (i+1)) h hd1 hns' hf rfl rfl rfl;exact⟨_,i',key _ (by rw[e0];exact e1),e2⟩;cases hns with
  | @cons m _ ns2 _ hm hns'=>
   have hd2:l.drop (i+1)=m::(ns2++t):=hd1;have e0:a6Z l (RV0 op (i+1))={RV0 op (i+1)with nm:=m.t,i:=i+1+1}:=by unfold a6Z;show(match l[i+1]? with|none=>_|some n=>_)=_;rw[a0o hd2];show bcase (decide (m.k=2)&&a0n m.t) _ _=_;obtain⟨m1,m2,m3⟩:=Is.wd (W:=W) hm;rw[m1,m2,hW];rfl
   obtain⟨i',e1,e2⟩:=d0Z (F:=F) (q:=n.p) (R:={RV0 op (i+1)with nm:=m.t,i:=i+1+1}) h (X7 hd2) hns' hf rfl rfl rfl;exact⟨_,i',key _ (by rw[e0];exact e1),e2⟩
end
inductive Rk:AI→List It→Prop
 | pl {X:AI} {its:List It}:Pl X its→Rk X its
 | bl {op k v b:Nat} {its:List It} {lb:List (List UInt8)}:blkB op=true→Bt k v b its→(lb=[]∨∃ W,lb=[W]∧a0n W=true∧Wd W)→Rk ⟨op, 0, 0, 0,k,v,b, [], []⟩ (lb.map It.w ++ its)
structure Ro (x:AI×List It):Prop where
 rk:Rk x.1 x.2
 kn:J3 (.ofNat x.1.op)=true
theorem Ro.ok {x}(h:Ro x):∀y∈x.2,y.ok:=by cases x with|mk X its=>cases h.rk with|pl hpl=>exact hpl.ok|bl _ hbt hl=>intro y hy;rcases uf.1 hy with k|k;rcases hl with rfl|⟨W,rfl,_,hW⟩;cases k;rw[uh,pQ,vP]at k;subst k;exact hW;exact hbt.ok y k
def wst (op:Nat)(st:List Bool):Option (List Bool):=if blkB op then some (decide (op=4)::st)else if op=5 then(match st with|true::r=>some (false::r)|_=>none)else if op=11 then(match st with|_::r=>some r|[]=>none)else some st
def b8j:List Nat->List Bool->Option (List Bool)|[],st=>some st|X::Xs,st=>(wst X st).bind (b8j Xs)
def bst (bs:List Bk):List Bool:=bs.map λb=>decide (b.op=4)&& !b.el
theorem d9k {X its}(h:Pl X its)(h0:F7 (.ofNat X.op)=0):X=aiE X.op/\its=[]:=by cases h with|none _=>exact⟨rfl,rfl⟩|one hj h1 _=>have:=hj.symm.trans h0;omega|tab h3 _ _=>have:=h3.symm.trans h0;omega|ind h5 _ _=>have:=h5.symm.trans h0;omega|sel _ _=>have:=d5D.symm.trans h0;omega|tbl h9 _=>have:=h9.symm.trans h0;omega|two hj h2 _ _=>have:=hj.symm.trans h0;omega|ini hj h2 _ _=>have:=hj.symm.trans h0;omega|mem h13 _=>have:=h13.symm.trans h0;omega|acc h17 _ _ _=>have:=h17.symm.trans h0;omega|con hj h2 _=>have:=hj.symm.trans h0;omega|null h20 _=>have:=h20.symm.trans h0;omega
theorem d7V {F L i k l t ns n fold x bs T st'}(h:Ro x)(hn:Is n (.w (a0S x.1.op)))(hd:l.drop i=n::(ns++t))(hns:IsL ns (x.2.map It.s))(hf:Fol t)(hw:wst x.1.op (bst bs)=some st'):∃nx bs' L',l.drop nx=t/\bst bs'=st'/\a4F fold F l (k+1) i bs L T=a4F fold F l k nx bs' L' (T++[x.1]):=by
 obtain⟨X,its⟩:=x;obtain⟨h1,h2,h3⟩:=hn.wd;have nm:=b4K h.kn;have i5:F7 (.ofNat 5)=0:=zw;have i11:F7 (.ofNat 11)=0:=zw;have e0:a4F fold F l (k+1) i bs L T=bcase (a5O n.t||isEn n.t) (match(generalizing:=false) bs with|[]=>.er n.p 16|b::bs'=>bcase (a5O n.t) (bcase (decide (b.op=4)&& !b.el) (a4F fold F l k (i+1) (⟨b.p,b.op,true⟩::bs') L (T++[aiE 5])) (.er n.p 16)) (a4F fold F l k (i+1) bs' L.dropLast (T++[aiE 11]))) (match a1K F L l i n with|.er p e=>.er p e|.ok X nm nx=>bcase (blkB X.op) (a4F fold F l k nx (⟨n.p,X.op,false⟩::bs) (L++[nm]) (T++[X])) (a4F fold F l k nx bs L (T++[X]))):=by show(match l[i]? with|none=>_|some n=>_)=_;rw[a0o hd];show bcase (decide (n.k=0)) _ (bcase (decide (n.k=2)) _ _)=_;rw[h1];rfl
 rw[e0,h2,nm.el,nm.en];unfold wst at hw;cases h.rk with
  | @bl op kk v b its lb hb hbt hlb=>
   have hop:op≠5/\op≠11:=by unfold blkB at hb;grind
   simp only at hw;rw[vG hb]at hw;cases hw;obtain⟨nm',nx,e1,e2⟩:=d2j (F:=F) (L:=L) (lb:=lb) hb h.kn hbt (hlb.imp id λ⟨W,e,k,_⟩=>⟨W,e,k⟩) h2 hd hns hf;rw[e1,a0x hop.1,a0x hop.2];refine⟨nx,⟨n.p,op,false⟩::bs,L++[nm'],e2,?_,?_⟩;simp_all[bst];show bcase (blkB op) _ _=_;rw[hb];rfl|pl hp=>
   have hb:blkB X.op=false:=by grind[e6a,blkB]
   simp only at hw;rw[vN (by rw[hb];decide)]at hw;by_cases h5:X.op=5;rw[vG h5]at hw;obtain⟨p1,p2⟩:=d9k hp (by rw[h5];exact i5);simp only at p1 p2;subst p2;cases hns;cases bs with
    |nil=>cases hw|cons b bs'=>
     have hbb:(decide (b.op=4)&& !b.el)=true:=by cases q:(decide (b.op=4)&& !b.el)<;>first|rfl|grind[bst]
     refine⟨i+1,⟨b.p,b.op,true⟩::bs',L,X7 hd,?_,?_⟩;unfold bst at hw⊢;rw[uh,hbb]at hw;grind;show bcase (Nat.beq X.op 5||Nat.beq X.op 11) (bcase (Nat.beq X.op 5) (bcase (decide (b.op=4)&& !b.el) _ _) _) _=_;rw[hbb,p1,h5];rfl
   rw[vN h5]at hw;by_cases h11:X.op=11;rw[vG h11]at hw;obtain⟨p1,p2⟩:=d9k hp (by rw[h11];exact i11);simp only at p1 p2;subst p2;cases hns;cases bs with|nil=>cases hw|cons b bs'=>cases hw;refine⟨i+1,bs',L.dropLast,X7 hd,rfl,?_⟩;show bcase (Nat.beq X.op 5||Nat.beq X.op 11) (bcase (Nat.beq X.op 5) _ _) _=_;rw[p1,h11];rfl
   rw[vN h11]at hw;cases hw;obtain⟨nx,e1,e2⟩:=d1j (F:=F) (L:=L) hp h.kn h2 hd hns hf;rw[e1,a0x h5,a0x h11];refine⟨nx,bs,L,e2,rfl,?_⟩;simp_all[bcase]
def b7h (x:AI×List It):List Sp:=.w (a0S x.1.op)::x.2.map It.s
theorem d9j {n op u}(hk:J3 (.ofNat op)=true)(hn:Is n (.w (a0S op))):Fol (n::u):=by have nm:=b4K hk;obtain⟨h1,h2,h3⟩:=hn.wd;intro m v e;cases e;refine⟨?_,?_,?_,?_,?_,?_⟩;unfold Y6;rw[h1,h2,nm.ix];rfl;rw[h1,h2,nm.of];rfl;rw[h1,h2,nm.al];rfl;rw[h1,h2,nm.nm];rfl;rw[h1,h3];rfl;rw[h1,h3];rfl
theorem c9m {F l fold}:∀(xs:List (AI×List It)) (L) (i k) (t ns) (bs) (T) (st'),(∀x∈xs,Ro x)->l.drop i=ns++t->IsL ns (xs.flatMap b7h)->Fol t->b8j (xs.map λx=>x.1.op) (bst bs)=some st'->(l.drop i).length<k->∃nx bs' L' k',l.drop nx=t/\bst bs'=st'/\t.length<k'/\a4F fold F l k i bs L T=a4F fold F l k' nx bs' L' (T++xs.map (·.1)):=by
 intro xs;induction xs with
  |nil=>intro L i k t ns bs T st' _ hd hns hf hw hk;cases hns;cases hw;rw[vI]at hd;exact⟨i,bs,L,k,hd,rfl,by rw[hd]at hk;exact hk,by rw[pQ,wF]⟩|cons x xs ih=>
   intro L i k t ns bs T st' hx hd hns hf hw hk;rw[vK]at hns;obtain⟨n1,n2,rfl,a1,a2⟩:=hns.split;cases a1 with
    | @cons n _ n1 _ b1 b2=>
     have hd':l.drop i=n::(n1++(n2++t)):=by rw[hd];simp
     have hw':(wst x.1.op (bst bs)).bind (b8j (xs.map λx=>x.1.op))=some st':=hw;cases e:wst x.1.op (bst bs)with
      |none=>rw[e]at hw';cases hw'|some st1=>
       rw[e]at hw';have hf2:Fol (n2++t):=by cases xs with|nil=>cases a2;exact hf|cons y ys=>rw[vK]at a2;cases a2 with|cons c1 c2=>exact d9j (hx y zq).kn c1
       obtain⟨k,rfl⟩:∃j,k=j+1:=⟨k-1,zy⟩;obtain⟨nx,bs1,L1,r1,r2,r3⟩:=d7V (F:=F) (L:=L) (fold:=fold) (k:=k) (T:=T) (hx x zq) b1 hd' b2 hf2 e;subst r2;obtain⟨nx2,bs2,L2,k2,s1,s2,s3,s4⟩:=ih L1 nx k t n2 bs1 (T++[x.1]) st' (λy hy=>hx y (by simp[hy])) r1 a2 hf hw' (by rw[hd']at hk;rw[r1];grind);grind
theorem d2F {F L fold}{xs:List (AI×List It)}{l}(hx:∀x∈xs,Ro x)(h:IsL l (xs.flatMap b7h))(hw:b8j (xs.map λx=>x.1.op) []=some []):a1O fold F L l=.ok (xs.map (·.1)):=by
 unfold a1O;obtain⟨nx,bs',L',k',s1,s2,s3,s4⟩:=c9m (F:=F) (l:=l) (fold:=fold) xs L 0 (l.length+1) [] l [] [] [] hx zq h Fol.nil hw zq;have hb:bs'=[]:=by cases bs' with|nil=>rfl|cons b bs=>cases s2
 subst hb;rw[s4,vI];obtain⟨k,rfl⟩:∃j,k'=j+1:=⟨k'-1,zy⟩;show(match l[nx]? with|none=>_|some n=>_)=_;rw[a0o s1];rfl
end
abbrev Row:=AI×List It
def rwT (x:Row):List UInt8:=a0S x.1.op++x.2.flatMap It.b
def rwK (x:Row):List (Nat×List UInt8):=(2,a0S x.1.op)::x.2.flatMap It.k
theorem Lk.row {x:Row}(h:Ro x){t ks}(ht:b2B t=false)(H:Lk t ks):Lk (rwT x++t) (rwK x++ks):=by obtain⟨h1,h2⟩:=Lk.its x.2 h.ok ht H;have nm:=b4K h.kn;have:=Lk.wd nm.ne nm.sg h2 h1;grind[rwT,rwK]
theorem Bal.row (x):Bal 1 (rwK x) (b7h x):=.w (Bal.its x.2)
theorem Bal.rows:∀xs:List Row,Bal 1 (xs.flatMap rwK) (xs.flatMap b7h):=by intro xs;induction xs with|nil=>exact .nil|cons x xs ih=>rw[vK,vK];exact(Bal.row x).app ih
inductive Tx:List UInt8→List Row→Prop
 | nil:Tx [] []
 | ws {b:UInt8} {t:List UInt8} {xs:List Row}:wsB b.toNat=true→Tx t xs→Tx (b::t) xs
 | row {x:Row} {t:List UInt8} {xs:List Row}:Ro x→b2B t=false→Tx t xs→Tx (rwT x ++ t) (x::xs)
theorem Tx.lk {t xs}(H:Tx t xs):Lk t (xs.flatMap rwK):=by induction H<;>first|rfl|grind[Lk.nil,Lk.ws,Lk.row]
theorem Tx.ro {t xs}(H:Tx t xs):∀x∈xs,Ro x:=by induction H<;>simp_all
theorem Tx.parse {t xs}(H:Tx t xs):∃l j,a6x t=.ok l j/\IsL l (xs.flatMap b7h):=d3f H.lk ((Bal.rows xs).up zu)
theorem a9U:wsB (32:UInt8).toNat=true:=rfl
theorem Lk.pad (n){t ks}(H:Lk t ks):Lk (a1y [32,32] n++t) ks:=by induction n with|zero=>exact H|succ n ih=>have e:a1y [32,32] (n+1)++t=32::32::(a1y [32,32] n++t):=za;rw[e];grind[Lk.ws,a9U]
theorem Tx.pad (n){t xs}(H:Tx t xs):Tx (a1y [32,32] n++t) xs:=by induction n with|zero=>exact H|succ n ih=>have e:a1y [32,32] (n+1)++t=32::32::(a1y [32,32] n++t):=za;rw[e];exact Tx.ws a9U (Tx.ws a9U ih)
def inT (c:UInt8)(ps:List (Nat×Row)):List UInt8:=ps.flatMap λp=>a1y [32,32] p.1++(rwT p.2++[c])
theorem c1V (c p ps t):inT c (p::ps)++t=a1y [32,32] p.1++(rwT p.2++(c::(inT c ps++t))):=by grind[inT]
theorem d5u {c:UInt8}(h:wsB c.toNat=true):sgN c.toNat=false:=by cases q:sgN c.toNat<;>first|rfl|grind[c6Z]
theorem Tx.inT {c:UInt8}(hc:wsB c.toNat=true):∀(ps:List (Nat×Row)) {t:List UInt8} {ys:List Row},(∀p∈ps,Ro p.2)->Tx t ys->Tx (inT c ps++t) (ps.map (·.2)++ys):=by intro ps;induction ps with|nil=>intro t ys _ H;exact H|cons p ps ih=>intro t ys hp H;rw[c1V];exact Tx.pad _ (Tx.row (hp p zq) (d5u hc) (Tx.ws hc (ih (λq hq=>hp q (by simp[hq])) H)))
theorem Lk.inT {c:UInt8}(hc:wsB c.toNat=true):∀(ps:List (Nat×Row)) {t:List UInt8} {ks:List (Nat×List UInt8)},(∀p∈ps,Ro p.2)->Lk t ks->Lk (inT c ps++t) ((ps.map (·.2)).flatMap rwK++ks):=by intro ps;induction ps with|nil=>intro t ks _ H;exact H|cons p ps ih=>intro t ks hp H;rw[c1V,uh,vK,vX];exact Lk.pad _ (Lk.row (hp p zq) (d5u hc) (Lk.ws hc (ih (λq hq=>hp q (by simp[hq])) H)))
def b5K (op k v b:Nat)(lb:List (List UInt8))(its:List It):Row:=(⟨op,0,0,0,k,v,b,[],[]⟩,lb.map It.w++its)
def d2v (lb:List (List UInt8)):Prop:=lb=[]\/∃W,lb=[W]/\a0n W=true/\Wd W
def c0C (lb:List (List UInt8))(bt:List UInt8):List UInt8:=(lb.flatMap λW=>32::W)++(32::(bt++[32]))
theorem e9L (lb:List (List UInt8)):(lb.map It.w).flatMap It.b=lb.flatMap λW=>32::W:=by induction lb with|nil=>rfl|cons W lb ih=>rw[uh,vK,vK,ih];rfl
theorem d0v {k v b:Nat}{its bt}(hb:its=[]/\bt=[]\/its.flatMap It.b=32::bt)(lb):∃z,(z=[32,32]\/z=[32])/\c0C lb bt=(lb.map It.w++its).flatMap It.b++z:=by unfold c0C;rw[uL,e9L];grind
theorem Tx.z {z t xs}(hz:z=[32,32]\/z=[32])(H:Tx t xs):Tx (z++t) xs/\b2B (z++t)=false:=by rcases hz with rfl|rfl;exact⟨Tx.ws a9U (Tx.ws a9U H),rfl⟩;exact⟨Tx.ws a9U H,rfl⟩
theorem Lk.z {z t ks}(hz:z=[32,32]\/z=[32])(H:Lk t ks):Lk (z++t) ks/\b2B (z++t)=false:=by rcases hz with rfl|rfl;exact⟨Lk.ws a9U (Lk.ws a9U H),rfl⟩;exact⟨Lk.ws a9U H,rfl⟩
theorem c5x {op k v b lb its}(ho:blkB op=true)(hk:J3 (.ofNat op)=true)(h:Bt k v b its)(hl:d2v lb):Ro (b5K op k v b lb its):=⟨.bl ho h hl,hk⟩
theorem Tx.blk {op k v b lb its bt t xs}(ho:blkB op=true)(hk:J3 (.ofNat op)=true)(h:Bt k v b its)(hl:d2v lb)(hb:its=[]/\bt=[]\/its.flatMap It.b=32::bt)(H:Tx t xs):Tx (a0S op++(c0C lb bt++t)) (b5K op k v b lb its::xs):=by obtain⟨z,hz,e⟩:=d0v (k:=k) (v:=v) (b:=b) hb lb;obtain⟨h1,h2⟩:=Tx.z hz H;have:=Tx.row (x:=b5K op k v b lb its) (c5x ho hk h hl) h2 h1;rw[e];grind[rwT,b5K]
theorem Lk.blk {op k v b lb its bt t ks}(ho:blkB op=true)(hk:J3 (.ofNat op)=true)(h:Bt k v b its)(hl:d2v lb)(hb:its=[]/\bt=[]\/its.flatMap It.b=32::bt)(H:Lk t ks):Lk (a0S op++(c0C lb bt++t)) (rwK (b5K op k v b lb its)++ks):=by obtain⟨z,hz,e⟩:=d0v (k:=k) (v:=v) (b:=b) hb lb;obtain⟨h1,h2⟩:=Lk.z hz H;have:=Lk.row (x:=b5K op k v b lb its) (c5x ho hk h hl) h2 h1;rw[e];grind[rwT,b5K]
section
section
variable {k v b:Nat}{lb:List (List UInt8)}{its:List It}{bt:List UInt8}{ps:List (Nat×Row)}
end
end
section
section
variable {F:Nat->List (Value×Value)}{L:List (List UInt8)}{k v b:Nat}{lb:List (List UInt8)}{its:List It}{rs:List Row}
end
end
section
attribute [local congr] y8 x9 C8 A9 C9 A7 E8 F9 F8
theorem e6c (m n v):a6N tab 90 (.map (some m)) (.int .i64 n) v=M.bind (a6F m) λes=>M.obind (Z0 (.int .i64 n) es) λ_=>fList (a1Z (.int .i64 n) v es) λes'=>wr m (.map es'):=zw
theorem d3C {m c h r w es n v x}(hm:m<c)(e:h.get m=some (.map es))(hf:Z0 (.int .i64 n) es=some x):go (b7Z tab 90 (.map (some m)) (.int .i64 n) v) ⟨c,h,r,w⟩=some (undef,⟨c,V.upd h m (.map (a1Z (.int .i64 n) v es)),m::r,m::w⟩):=by unfold b7Z;rw[e6c,J8,J8,a6z m c h r w es hm e,J5,hf,F6,Y3];show R6 (wr m _ ⟨c,h,m::r,w⟩) _=_;rw[b1u,I1 hm,e];rfl
theorem c5d (c h r w):go c8c ⟨c,h,r,w⟩=some (.map (some c),⟨c+1,V.upd h c (.map []),r,c::w⟩):=by unfold c8c;rw[J8];show R6 (new _ _) _=_;rw[c5j];rfl
def esN (c:Nat):Nat->List (Value×Value)|0=>[]|i+1=>a1Z (.int .i64 (.ofNat i)) (.pointer (some ⟨c+3+2*i,0,some 0⟩)) (esN c i)
theorem b2D (a b):a1v (.int .i64 (.ofNat a)) (.int .i64 (.ofNat b))=some (decide (a=b)):=by have e:a1v (.int .i64 (.ofNat a)) (.int .i64 (.ofNat b))=some (decide (Int.ofNat a=Int.ofNat b)):=rfl;rw[e,di]
theorem d2M (k j v):∀es,(∀e∈es,∃n,e.1=.int .i64 (.ofNat n))->Z0 (.int .i64 (.ofNat k)) (a1Z (.int .i64 (.ofNat j)) v es)=bcase (decide (k=j)) (some (some v)) (Z0 (.int .i64 (.ofNat k)) es):=by
 intro es;induction es with
  |nil=>intro _;show(match a1v (.int .i64 (.ofNat k)) (.int .i64 (.ofNat j))with|none=>none|some true=>some (some v)|some false=>some none)=_;rw[b2D];cases decide (k=j)<;>rfl|cons e es ih=>
   intro h;obtain⟨n,hn⟩:=h e zq;obtain⟨e1,e2⟩:=e;simp only at hn;subst hn;have hih:=ih λe he=>h e (vJ _ he);have e0:a1Z (.int .i64 (.ofNat j)) v ((.int .i64 (.ofNat n),e2)::es)=(match a1v (.int .i64 (.ofNat j)) (.int .i64 (.ofNat n))with|some true=>(.int .i64 (.ofNat j),v)::es|_=>(.int .i64 (.ofNat n),e2)::a1Z (.int .i64 (.ofNat j)) v es):=rfl;rw[e0,b2D];have e3:∀(q:Nat) (x:Value) (l:List (Value×Value)),Z0 (.int .i64 (.ofNat k)) ((.int .i64 (.ofNat q),x)::l)=bcase (decide (k=q)) (some (some x)) (Z0 (.int .i64 (.ofNat k)) l):=λq x l=>by show(match a1v (.int .i64 (.ofNat k)) (.int .i64 (.ofNat q))with|none=>none|some true=>some (some x)|some false=>Z0 (.int .i64 (.ofNat k)) l)=_;rw[b2D];cases decide (k=q)<;>rfl
   by_cases h1:j=n;subst h1;rw[wJ rfl];show Z0 _ ((.int .i64 (.ofNat j),v)::es)=_;rw[e3,e3];by_cases h2:k=j;rw[wJ h2];rfl;rw[wL h2];rfl;rw[wL h1];show Z0 _ ((.int .i64 (.ofNat n),e2)::a1Z _ v es)=_;rw[e3,e3,hih];by_cases h2:k=j;rw[wJ h2,wL (show¬k=n by omega)];rfl;rw[wL h2];rfl
theorem d3D (j v):∀es,(∀e∈es,∃n,e.1=.int .i64 (.ofNat n))->∀e∈a1Z (.int .i64 (.ofNat j)) v es,∃n,e.1=.int .i64 (.ofNat n):=by intro es;induction es with|nil=>intro _ e he;have:e=(.int .i64 (.ofNat j),v):=vP.1 he;rw[this];grind|cons x es ih=>intro h e he;obtain⟨n,hn⟩:=h x zq;obtain⟨x1,x2⟩:=x;simp only at hn;subst hn;have e0:a1Z (.int .i64 (.ofNat j)) v ((.int .i64 (.ofNat n),x2)::es)=(match a1v (.int .i64 (.ofNat j)) (.int .i64 (.ofNat n))with|some true=>(.int .i64 (.ofNat j),v)::es|_=>(.int .i64 (.ofNat n),x2)::a1Z (.int .i64 (.ofNat j)) v es):=rfl;rw[e0,b2D]at he;grind
theorem d2Y (c):∀i,∀e∈esN c i,∃n,e.1=.int .i64 (.ofNat n):=by intro i;induction i with|zero=>intro e he;cases he|succ i ih=>exact d3D i _ _ ih
theorem b5P (c k):∀i,Z0 (.int .i64 (.ofNat k)) (esN c i)=bcase (decide (k<i)) (some (some (.pointer (some ⟨c+3+2*k,0,some 0⟩)))) (some none):=by intro i;induction i with|zero=>rfl|succ i ih=>show Z0 _ (a1Z _ _ (esN c i))=_;rw[d2M k i _ _ (d2Y c i),ih];by_cases h1:k=i;subst h1;rw[wJ rfl,wJ (wG k)];rfl;rw[wL h1];by_cases h2:k<i;rw[wJ h2,wJ (show k<i+1 by omega)];rfl;rw[wL h2,wL (show¬k<i+1 by omega)];rfl
structure NI (c0:Nat) (h0:Trie VObj) (i c:Nat) (h:Trie VObj):Prop where
 c:c=c0+2+2 * i
 fr:∀ j,j<c0→h.get j=h0.get j
 m:h.get c0=some (.map (esN c0 i))
 s:h.get (c0+1)=some (.cells [(.map (some c0), 0),(.slice none 0 0, 0)] 0 false)
 k:∀ j,j<i→h.get (c0+2+2 * j)=some (.map [])∧h.get (c0+3+2 * j)=some (.cells [(.int .i64 (.ofNat 0), 0),(.slice none 0 0, 0),(.map (some (c0+2+2 * j)), 0)] 0 false)
theorem e7X (n):o9 D7 (n+1) 21 []=c6g o8 NN (o9 D7 n):=e2K (q:=c6g) (N:=NN) zw n
section
variable {c0:Nat}{h0:Trie VObj}
theorem n21 (call):∀(k e i c) (h) (xs) (r w),i+k=9->NI c0 h0 i c h->D5 xs 12=.int .i64 (.ofNat i)->l9 (go (R7 (d4z o8 NN call (.pointer (some ⟨c0+1,0,some 0⟩))) (k+1+e) xs) ⟨c,h,r,w⟩) λy s=>∃xs',y=(.exit 0,xs')/\NI c0 h0 9 s.c s.h:=by
 intro k;induction k with
  |zero=>intro e i c h xs r w hi H h1;rw[vv 0 1 e,U3];have:i=9:=zy;subst this;have e0:decide (9<9)=false:=rfl;simp(disch:=try exact dz)only[d9l,h1,dL,↓gP,gY,gT,Nat.reduceLT];exact l9.done ⟨_,rfl,H⟩|succ k ih=>
   intro e i c h xs r w hi H h1;rw[vv (k+1) 1 e,U3];have e0:decide (i<9)=true:=wJ zy;have hinc:=J2 i zy;obtain⟨hc,hfr,hm,hs,hk⟩:=H;have b1:c0+1<c:=zy;have b2:c0+1≠c:=zy;have b3:c0+1≠c+1:=zy;have b4:c0≠c:=zy;have b5:c0≠c+1:=zy;have b6:c0≠c0+1:=zy;have hf:Z0 (.int .i64 (.ofNat i)) (esN c0 i)=some none:=by rw[b5P,wL (uW i)];rfl
   have hfill:a5R [(2,1)] [.map (some c)] [.int .i64 (.ofNat 0),.slice none 0 0,.map none]=some [.int .i64 (.ofNat 0),.slice none 0 0,.map (some c)]:=rfl;have hone:(J7 N8 [.int .i64 (.ofNat 0),.slice none 0 0,.map (some c)]&& !(a2W [Value.int .i64 (.ofNat 0),.slice none 0 0,.map (some c)]))=true:=rfl;have hup2:=λ(h':Trie VObj) (r w:List Nat)=>a1F (c+1) h' r w [Value.int .i64 (.ofNat 0),.slice none 0 0,.map (some c)] hone;simp(disch:=try exact dz)only[d9l,h1,dL,e0,hs,c5d,hinc,hfill,F6,hup2,a3K,a4L,↓gP,gY];rw[d3C (es:=esN c0 i) (x:=none) zy (by rw[d9 b5,d9 b4];exact hm) hf,J5];simp(disch:=try exact dz)only[↓gP,gY];refine ih e (i+1) (c+1+1) _ _ _ _ zy ⟨zy,λj hj=>?_,?_,?_,λj hj=>?_⟩ rfl;have k1:j≠c:=zy;have k2:j≠c+1:=zy;have k3:j≠c0:=zy;grind[d9];rw[o7];have e1:c+1=c0+3+2*i:=zy;rw[e1];rfl;have k3:c0+1≠c0:=zy;grind[d9];rcases uj j i with k|k;grind[d9];have:j=i:=zy;subst this;have e1:c0+3+2*j=c+1:=zy;have e2:c0+2+2*j=c:=zy;rw[e1,e2];have k1:c≠c+1:=zy;have k2:c≠c0:=zy;have k3:c+1≠c0:=zy;simp(disch:=try exact wQ)only[d9,o7];grind
end
theorem ScS.mono {sb m F L c c' h h' u U}(H:ScS sb m F L c h u U)(hc:c<=c')(hs:∀i,i<c->h'.get i=h.get i):ScS sb m F L c' h' u (λi=>U i\/c<=i/\i<c'):=⟨wD H.s hc,(hs _ H.s).trans H.hs,H.la.mono hc λb k _=>hs b k,H.lo,H.sc.mono λi hi=>⟨Or.inl hi,hs i (H.u i hi).1⟩,λi hi=>by rcases hi with k|⟨k1,k2⟩;exact⟨wD (H.u i k).1 hc,(H.u i k).2⟩;have:=H.s;exact⟨k2,zy,λho=>by have:=H.la.own_lt ho;omega⟩⟩
theorem e6Q (n a b):o9 D7 (n+1) 20 [a,b]=c7Z o8 NN (o9 D7 n) a b:=a1H (q:=c7Z) (N:=NN) zw n a b
def e9W (sb mm:Nat)(F:Nat->List (Value×Value))(L:List (List UInt8))(T:List UInt8)(c:Nat)(h:Trie VObj)(U:Nat->Prop)(x:CR)(s:V.S):Prop:=c<=s.c/\(∀i,U i->s.h.get i=h.get i)/\(∃la' U',ScS sb mm F L s.c s.h la' U'/\∀i,U i->U' i)/\((∃p e,a6x T=.er p e/\x=.ret (.tuple ⟨[.slice none 0 0,.int .i64 (.ofNat 0),.int .i64 (.ofNat e),.bool false]⟩))\/(∃l j,a6x T=.ok l j/\zs l<=4*(T.length+1)/\((∃X u Rs U',a1O (Q5 F (zs l)) F L l=.ok X/\x=.ret (.tuple ⟨[.slice u.a u.n u.e,.int .i64 (.ofNat 0),.int .i64 (.ofNat 0),.bool true]⟩)/\U4 9 s.c s.h u (Rs.flatMap a2I)/\RIs U' s.h Rs X/\(∀i,U' i->i<s.c)/\X.length<=zs l)\/(∃p e,a1O (Q5 F (zs l)) F L l=.er p e/\x=.ret (.tuple ⟨[.slice none 0 0,.int .i64 (.ofNat p),.int .i64 (.ofNat e),.bool true]⟩)))))
theorem t20 {sb mm F L T c h la U}(H:ScS sb mm F L c h la U)(hT:T.length<190000)(hL:L.length<100)(M)(hM:3000000<=M)(r w):l9 (go (o9 D7 (M+1) 20 [.string ⟨⟨T⟩⟩,.pointer (some ⟨sb,0,some 0⟩)]) ⟨c,h,r,w⟩) (e9W sb mm F L T c h U):=by rw[e6Q];simp(disch:=try exact dz)only[G20,↓gP];obtain⟨M1,rfl⟩:∃k,M=k+1:=⟨M-1,zy⟩;refine l9.bindC (t27 zy M1 zy c h _ _) λx s hq=>?_;obtain⟨c1,h1,r1,w1⟩:=s;obtain⟨f1,f2,⟨l,j,v,f3,rfl,f4,f5⟩|⟨p,e,f3,f4,rfl⟩⟩:=hq;have f1:c<=c1:=f1;simp(disch:=try exact dz)only[↓gP,gY,gT];have hcopy:=e3r (zs l) (M1+1-(zs l+1)) _ v l c1 h1 r1 w1 f4 (λi hi=>hi.2) (wP _);have e1:M1+1-(zs l+1)+zs l+1=M1+1:=zy;rw[e1]at hcopy;refine l9.bindC hcopy λx s hq=>?_;obtain⟨c2,h2,r2,w2⟩:=s;obtain⟨g1,g2,g3,v2,rfl,g4⟩:=hq;have g1:c1<=c2:=g1;simp(disch:=try exact dz)only[↓gP,gY];have H2:=H.mono (c':=c2) (h':=h2) zy λi hi=>(g2 i zy).trans (f2 i hi);have hp:=t29 H2 (g4.mono λb k=>⟨Or.inr ⟨by have:=k.1;omega,k.2⟩,rfl⟩) (wP _) zy (M1+1-(3*zs l+14)) r2 w2;have e2:M1+1-(3*zs l+14)+3*zs l+14=M1+1:=zy;rw[e2]at hp;refine l9.bindC hp λx s hq=>?_;obtain⟨c3,h3,r3,w3⟩:=s;obtain⟨k1,k2,⟨la',U',k3,k4⟩,hor⟩:=hq;have k1:c2<=c3:=k1;have kfr:∀i,U i->h3.get i=h.get i:=λi hi=>(k2 i (Or.inl hi)).trans ((g2 i (by have:=(H.u i hi).1;omega)).trans (f2 i (H.u i hi).1));rcases hor with⟨X,u,Rs,U2,j1,rfl,j2,j3,j5,j4⟩|⟨p,e,j1,rfl⟩;simp(disch:=try exact dz)only[↓gP,gY];refine l9.done ⟨zV,kfr,⟨la',U',k3,λi hi=>k4 i (Or.inl hi)⟩,Or.inr ⟨l,j,f3,f5,Or.inl ⟨X,u,Rs,U2,j1,rfl,j2,j3,j5,j4⟩⟩⟩;simp(disch:=try exact dz)only[↓gP,gY];refine l9.done ⟨zV,kfr,⟨la',U',k3,λi hi=>k4 i (Or.inl hi)⟩,Or.inr ⟨l,j,f3,f5,Or.inr ⟨p,e,j1,rfl⟩⟩⟩;have q8:decide (e=0)=false:=wL f4;simp(disch:=try exact dz)only[di,q8,↓gP,gY,gT];have f1:c<=c1:=f1;exact l9.done ⟨f1,λi hi=>f2 i (H.u i hi).1,⟨la,_,H.mono f1 f2,λi hi=>Or.inl hi⟩,Or.inl ⟨p,e,f3,rfl⟩⟩
end
theorem d5f (op):S.Y5 (.ofNat op)=a0S op:=za
theorem c3b {z}(h:J3 z=true):∃op,z=.ofNat op/\F7 z<=20/\(F7 z=6->op=28)/\(F7 z=17->(Z9 a0H z).isSome=true):=by
 have hall:J7 (λr:a4h=>Nat.ble r.2.2 20&&((!(Nat.beq r.2.2 6)||Nat.beq r.1 28)&&(!(Nat.beq r.2.2 17)||(Z9 a0H (.ofNat r.1)).isSome))) O0=true:=zw;unfold J3 at h;cases e:R5 z O0 with
  |none=>rw[e]at h;cases h|some r=>
   obtain⟨h1,h2⟩:=a3L _ _ _ e;have h3:=(M5 _ _).1 hall r h1;have e1:F7 z=r.2.2:=by grind[F7]
   simp only[wI,pU,sw]at h3;obtain⟨a1,a2,a3⟩:=h3;refine⟨r.1,h2,by rw[e1];simp_all,λh6=>?_,λh17=>?_⟩;rw[e1]at h6;simp_all;simp_all
theorem b6V {a}(h:S.idxB a=true):∃n,a=.ofNat n/\n<4294967296:=by unfold S.idxB at h;rw[wI]at h;have h1:=vS h.1;have h2:=vS h.2;refine⟨a.toNat,?_,zy⟩;grind
theorem b1G (n):S.a0s n=(a8k n).flatMap It.b:=by unfold S.a0s a8k;cases Nat.beq n 0<;>first|rfl|grind[S.U8,It.b,bcase]
structure PlS (K:Nat) (X:S.Ins):Prop where
 A:∃ n,X.A=.ofNat n∧n<4294967296∧(S.uA K=false→n=0)
 B:∃ n,X.B=.ofNat n∧n<4294967296∧(S.uB K=false→n=0)
 N:S.uN K=false→X.N=0
 N3:K≠19→X.N<4294967296
 b:K≠1→X.k=0∧X.v=0∧X.i=0
 t:K≠6→X.types=[]
 l:K≠3→X.labels=[]
 r:S.a0r K X=true
theorem c9u {K X}(h:S.pK K X=true):PlS K X:=by
 unfold S.pK S.a0h at h;cases h1:S.a2J (S.uA K) (S.uB K) (S.uN K) X with
  |true=>rw[h1]at h;cases h|false=>
   rw[h1,A8]at h;cases h2:S.a2P K X with
    |true=>rw[h2]at h;cases h|false=>
     rw[h2,A8]at h;unfold S.a2J at h1;unfold S.a2P at h2;simp only[sJ,Bool.and_eq_false_iff,Bool.not_eq_false',vF]at h1 h2;obtain⟨⟨⟨⟨a1,a2⟩,a3⟩,a4⟩,a5⟩:=h1;obtain⟨⟨⟨c1,c2⟩,c3⟩,c4⟩:=h2;obtain⟨n,e1,e2⟩:=b6V a4;obtain⟨m,e3,e4⟩:=b6V a5;refine⟨⟨n,e1,e2,λhu=>?_⟩,⟨m,e3,e4,λhu=>?_⟩,λhu=>?_,λhK=>?_,λhK=>?_,λhK=>?_,λhK=>?_,h⟩;simp_all;simp_all;simp_all;simp_all;simp_all[S.a3y];rcases c3 with k|k;simp_all;have:¬0<X.types.length:=λh=>by rw[Nat.blt_eq.mpr h]at k;cases k
     simp_all;rcases c4 with k|k;simp_all;have:¬0<X.labels.length:=λh=>by rw[Nat.blt_eq.mpr h]at k;cases k
     simp_all
def a2u (Y:AI):S.Ins:=⟨.ofNat Y.op,.ofNat Y.A,.ofNat Y.B,Y.N,.ofNat Y.k,.ofNat Y.v,.ofNat Y.bi,Y.ts.map Int.ofNat,Y.ls.map Int.ofNat⟩
theorem d6z:∀l,S.idxAll l=true->∃ns:List Nat,l=ns.map Int.ofNat/\∀n∈ns,n<4294967296:=by intro l;induction l with|nil=>simp_all|cons x l ih=>intro h;unfold S.idxAll at h;rw[U5,wI]at h;obtain⟨n,e1,e2⟩:=b6V h.1;obtain⟨ns,e3,e4⟩:=ih h.2;exact⟨n::ns,by rw[e1,e3];rfl,λm hm=>zo⟩
theorem e4l (ls A):E5 (S.b3e (ls.map Int.ofNat|>.map Int.toNat)) (S.U8 A)=((ls++[A]).map λk=>It.w (Lib.decDigits k)).flatMap It.b:=by induction ls with|nil=>show S.U8 A=_;simp[S.U8,It.b]|cons x ls ih=>have e:S.b3e ((x::ls).map Int.ofNat|>.map Int.toNat)=E5 (S.U8 x) (S.b3e (ls.map Int.ofNat|>.map Int.toNat)):=rfl;rw[e,E9,E9,vX,<-E9 (S.b3e _),ih];rfl
theorem f0N {X op}(ho:X.op=.ofNat op)(hi:F7 (.ofNat op)=0)(H:PlS 0 X)(hN:X.N<18446744073709551616):∃Y its,Pl Y its/\Y.op=op/\S.a2q 0 X=its.flatMap It.b/\X=a2u Y:=by obtain⟨o,A,B,N,k,v,bi,ts,ls⟩:=X;obtain⟨⟨a,hA,hA1,hA2⟩,⟨b,hB,hB1,hB2⟩,hN2,hN3,hb,ht,hl,hr⟩:=H;simp only at ho hA hB hN2 hN3 hb ht hl hr hN;subst ho;subst hA;subst hB;obtain⟨rfl,rfl,rfl⟩:=hb zu;obtain rfl:=ht zu;obtain rfl:=hl zu;obtain rfl:=hA2 rfl;obtain rfl:=hB2 rfl;obtain rfl:=hN2 rfl;exact⟨⟨op,0,0,0,0,0,0,[],[]⟩,[],.none hi,rfl,rfl,rfl⟩
theorem e9c {X op}(ho:X.op=.ofNat op)(hi:F7 (.ofNat op)=2)(H:PlS 2 X)(hN:X.N<18446744073709551616):∃Y its,Pl Y its/\Y.op=op/\S.a2q 2 X=its.flatMap It.b/\X=a2u Y:=zH
theorem f0z {X op}(ho:X.op=.ofNat op)(hi:F7 (.ofNat op)=4)(H:PlS 4 X)(hN:X.N<18446744073709551616):∃Y its,Pl Y its/\Y.op=op/\S.a2q 4 X=its.flatMap It.b/\X=a2u Y:=zH
theorem e9t {X op}(ho:X.op=.ofNat op)(hi:F7 (.ofNat op)=7)(H:PlS 7 X)(hN:X.N<18446744073709551616):∃Y its,Pl Y its/\Y.op=op/\S.a2q 7 X=its.flatMap It.b/\X=a2u Y:=zH
theorem f0g {X op}(ho:X.op=.ofNat op)(hi:F7 (.ofNat op)=8)(H:PlS 8 X)(hN:X.N<18446744073709551616):∃Y its,Pl Y its/\Y.op=op/\S.a2q 8 X=its.flatMap It.b/\X=a2u Y:=zH
theorem e6W {X op}(ho:X.op=.ofNat op)(hi:F7 (.ofNat op)=12)(H:PlS 12 X)(hN:X.N<18446744073709551616):∃Y its,Pl Y its/\Y.op=op/\S.a2q 12 X=its.flatMap It.b/\X=a2u Y:=zH
theorem e4P {X op}(ho:X.op=.ofNat op)(hi:F7 (.ofNat op)=16)(H:PlS 16 X)(hN:X.N<18446744073709551616):∃Y its,Pl Y its/\Y.op=op/\S.a2q 16 X=its.flatMap It.b/\X=a2u Y:=zH
theorem f1j {X op}(ho:X.op=.ofNat op)(hi:F7 (.ofNat op)=3)(H:PlS 3 X)(hN:X.N<18446744073709551616):∃Y its,Pl Y its/\Y.op=op/\S.a2q 3 X=its.flatMap It.b/\X=a2u Y:=by obtain⟨o,A,B,N,k,v,bi,ts,ls⟩:=X;obtain⟨⟨a,hA,hA1,hA2⟩,⟨b,hB,hB1,hB2⟩,hN2,hN3,hb,ht,hl,hr⟩:=H;simp only at ho hA hB hN2 hN3 hb ht hl hr hN;subst ho;subst hA;subst hB;obtain⟨rfl,rfl,rfl⟩:=hb zu;obtain rfl:=ht zu;obtain rfl:=hB2 rfl;obtain rfl:=hN2 rfl;obtain⟨ns,rfl,hns⟩:=d6z ls hr;exact⟨⟨op,a,0,0,0,0,0,[],ns⟩,_,.tab hi hA1 hns,rfl,e4l ns a,rfl⟩
theorem e8K {X op}(ho:X.op=.ofNat op)(hi:F7 (.ofNat op)=5)(H:PlS 5 X)(hN:X.N<18446744073709551616):∃Y its,Pl Y its/\Y.op=op/\S.a2q 5 X=its.flatMap It.b/\X=a2u Y:=by obtain⟨o,A,B,N,k,v,bi,ts,ls⟩:=X;obtain⟨⟨a,hA,hA1,hA2⟩,⟨b,hB,hB1,hB2⟩,hN2,hN3,hb,ht,hl,hr⟩:=H;simp only at ho hA hB hN2 hN3 hb ht hl hr hN;subst ho;subst hA;subst hB;obtain⟨rfl,rfl,rfl⟩:=hb zu;obtain rfl:=ht zu;obtain rfl:=hl zu;obtain rfl:=hN2 rfl;refine⟨⟨op,a,b,0,0,0,0,[],[]⟩,_,.ind hi hA1 hB1,rfl,?_,rfl⟩;show E5 (E5 (S.a0s b) [32,40,116,121,112,101]) (E5 (S.U8 a) [41])=_;rw[b1G];simp[E9,S.U8,It.b,tyW]
theorem e9x {X op}(ho:X.op=.ofNat op)(hi:F7 (.ofNat op)=6)(H:PlS 6 X)(hN:X.N<18446744073709551616)(h28:op=28):∃Y its,Pl Y its/\Y.op=op/\S.a2q 6 X=its.flatMap It.b/\X=a2u Y:=by obtain⟨o,A,B,N,k,v,bi,ts,ls⟩:=X;obtain⟨⟨a,hA,hA1,hA2⟩,⟨b,hB,hB1,hB2⟩,hN2,hN3,hb,ht,hl,hr⟩:=H;simp only at ho hA hB hN2 hN3 hb ht hl hr hN;subst ho;subst hA;subst hB;obtain⟨rfl,rfl,rfl⟩:=hb zu;obtain rfl:=hl zu;obtain rfl:=hA2 rfl;obtain rfl:=hB2 rfl;obtain rfl:=hN2 rfl;subst h28;have hr':S.b0x ts=true:=hr;cases ts with|nil=>cases hr'|cons t ts=>cases ts with|cons t' ts=>cases hr'|nil=>have hv:a1g t=true:=hr';unfold a1g at hv;rw[wI]at hv;have v1:=vS hv.1;have v2:=vS hv.2;obtain⟨n,rfl⟩:∃n:Nat,t=.ofNat n:=⟨t.toNat,(Int.toNat_of_nonneg zy).symm⟩;have v3:1<=n:=tZ.1 v1;have v4:n<=4:=tZ.1 v2;refine⟨⟨28,0,0,0,0,0,0,[n],[]⟩,_,.sel v3 v4,rfl,?_,rfl⟩;have e:∀m:Int,U6 m=U6 m:=λm=>rfl;show E5 [32,40,114,101,115,117,108,116,32] (E5 (U6 (.ofNat n)) [41])=_;rw[e];simp[E9,It.b,reW]
theorem e8E {X op}(ho:X.op=.ofNat op)(hi:F7 (.ofNat op)=9)(H:PlS 9 X)(hN:X.N<18446744073709551616):∃Y its,Pl Y its/\Y.op=op/\S.a2q 9 X=its.flatMap It.b/\X=a2u Y:=by obtain⟨o,A,B,N,k,v,bi,ts,ls⟩:=X;obtain⟨⟨a,hA,hA1,hA2⟩,⟨b,hB,hB1,hB2⟩,hN2,hN3,hb,ht,hl,hr⟩:=H;simp only at ho hA hB hN2 hN3 hb ht hl hr hN;subst ho;subst hA;subst hB;obtain⟨rfl,rfl,rfl⟩:=hb zu;obtain rfl:=ht zu;obtain rfl:=hl zu;obtain rfl:=hB2 rfl;obtain rfl:=hN2 rfl;exact⟨⟨op,a,0,0,0,0,0,[],[]⟩,_,.tbl hi hA1,rfl,b1G a,rfl⟩
theorem e4r {X op}(ho:X.op=.ofNat op)(hi:F7 (.ofNat op)=10)(H:PlS 10 X)(hN:X.N<18446744073709551616):∃Y its,Pl Y its/\Y.op=op/\S.a2q 10 X=its.flatMap It.b/\X=a2u Y:=yx
theorem e4a {X op}(ho:X.op=.ofNat op)(hi:F7 (.ofNat op)=14)(H:PlS 14 X)(hN:X.N<18446744073709551616):∃Y its,Pl Y its/\Y.op=op/\S.a2q 14 X=its.flatMap It.b/\X=a2u Y:=yx
theorem e4O {X op}(ho:X.op=.ofNat op)(hi:F7 (.ofNat op)=11)(H:PlS 11 X)(hN:X.N<18446744073709551616):∃Y its,Pl Y its/\Y.op=op/\S.a2q 11 X=its.flatMap It.b/\X=a2u Y:=yw
theorem e4E {X op}(ho:X.op=.ofNat op)(hi:F7 (.ofNat op)=15)(H:PlS 15 X)(hN:X.N<18446744073709551616):∃Y its,Pl Y its/\Y.op=op/\S.a2q 15 X=its.flatMap It.b/\X=a2u Y:=yw
theorem e5z {X op}(ho:X.op=.ofNat op)(hi:F7 (.ofNat op)=13)(H:PlS 13 X)(hN:X.N<18446744073709551616):∃Y its,Pl Y its/\Y.op=op/\S.a2q 13 X=its.flatMap It.b/\X=a2u Y:=by obtain⟨o,A,B,N,k,v,bi,ts,ls⟩:=X;obtain⟨⟨a,hA,hA1,hA2⟩,⟨b,hB,hB1,hB2⟩,hN2,hN3,hb,ht,hl,hr⟩:=H;simp only at ho hA hB hN2 hN3 hb ht hl hr hN;subst ho;subst hA;subst hB;obtain⟨rfl,rfl,rfl⟩:=hb zu;obtain rfl:=ht zu;obtain rfl:=hl zu;obtain rfl:=hA2 rfl;obtain rfl:=hN2 rfl;exact⟨⟨op,0,b,0,0,0,0,[],[]⟩,_,.mem hi hB1,rfl,b1G b,rfl⟩
theorem e4t {X op}(ho:X.op=.ofNat op)(hi:F7 (.ofNat op)=17)(H:PlS 17 X)(hN:X.N<18446744073709551616)(hal:(Z9 a0H X.op).isSome=true):∃Y its,Pl Y its/\Y.op=op/\S.a2q 17 X=its.flatMap It.b/\X=a2u Y:=by
 obtain⟨o,A,B,N,k,v,bi,ts,ls⟩:=X;obtain⟨⟨a,hA,hA1,hA2⟩,⟨b,hB,hB1,hB2⟩,hN2,hN3,hb,ht,hl,hr⟩:=H;simp only at ho hA hB hN2 hN3 hb ht hl hr hN;subst ho;subst hA;subst hB;obtain⟨rfl,rfl,rfl⟩:=hb zu;obtain rfl:=ht zu;obtain rfl:=hl zu;have hA6:a<64:=by have h:=vS (show decide (Int.ofNat a<=63)=true from hr);have:Int.ofNat a<=Int.ofNat 63:=h;have:=tZ.1 this;omega
 refine⟨⟨op,a,b,N,0,0,0,[],[]⟩,_,.acc hi hA6 hB1 (hN3 zu),rfl,?_,rfl⟩;have e:∀z:Int,Z9 a0H z=Z9 a0H z:=λz=>rfl;show E5 (E5 (S.a0s b) (S.a3B N)) (S.b0u a ((Z9 a0H (.ofNat op)).getD 0))=_;rw[e,b1G];have e1:S.a3B N=(bcase (Nat.beq N 0) [] [It.w (b0K N)]).flatMap It.b:=by unfold S.a3B;cases Nat.beq N 0<;>simp[bcase,It.b,b0K]
 have e2:S.b0u a ((Z9 a0H (.ofNat op)).getD 0)=(bcase (Nat.beq a (a1p op)) [] [It.w (a8H a)]).flatMap It.b:=by unfold S.b0u a1p;cases Nat.beq a ((Z9 a0H (.ofNat op)).getD 0)<;>simp[bcase,It.b,a8H]
 rw[e1,e2,E9,E9,uL,uL,vX]
theorem e5q {X op}(ho:X.op=.ofNat op)(hi:F7 (.ofNat op)=18)(H:PlS 18 X)(hN:X.N<18446744073709551616):∃Y its,Pl Y its/\Y.op=op/\S.a2q 18 X=its.flatMap It.b/\X=a2u Y:=by obtain⟨o,A,B,N,k,v,bi,ts,ls⟩:=X;obtain⟨⟨a,hA,hA1,hA2⟩,⟨b,hB,hB1,hB2⟩,hN2,hN3,hb,ht,hl,hr⟩:=H;simp only at ho hA hB hN2 hN3 hb ht hl hr hN;subst ho;subst hA;subst hB;obtain⟨rfl,rfl,rfl⟩:=hb zu;obtain rfl:=ht zu;obtain rfl:=hl zu;obtain rfl:=hA2 rfl;obtain rfl:=hB2 rfl;refine⟨⟨op,0,0,N,0,0,0,[],[]⟩,_,.con (w:=32) hi zu ?_,rfl,?_,rfl⟩;omega;show 32::Lib.itoa (S.sgn 32 N)=_;have e:S.sgn 32 N=b8o 32 N:=rfl;rw[e];simp[It.b]
theorem e4Z {X op}(ho:X.op=.ofNat op)(hi:F7 (.ofNat op)=19)(H:PlS 19 X)(hN:X.N<18446744073709551616):∃Y its,Pl Y its/\Y.op=op/\S.a2q 19 X=its.flatMap It.b/\X=a2u Y:=by obtain⟨o,A,B,N,k,v,bi,ts,ls⟩:=X;obtain⟨⟨a,hA,hA1,hA2⟩,⟨b,hB,hB1,hB2⟩,hN2,hN3,hb,ht,hl,hr⟩:=H;simp only at ho hA hB hN2 hN3 hb ht hl hr hN;subst ho;subst hA;subst hB;obtain⟨rfl,rfl,rfl⟩:=hb zu;obtain rfl:=ht zu;obtain rfl:=hl zu;obtain rfl:=hA2 rfl;obtain rfl:=hB2 rfl;refine⟨⟨op,0,0,N,0,0,0,[],[]⟩,_,.con (w:=64) hi zu ?_,rfl,?_,rfl⟩;exact hN;show 32::Lib.itoa (S.sgn 64 N)=_;have e:S.sgn 64 N=b8o 64 N:=rfl;rw[e];simp[It.b]
theorem e7t {X op}(ho:X.op=.ofNat op)(hi:F7 (.ofNat op)=20)(H:PlS 20 X)(hN:X.N<18446744073709551616):∃Y its,Pl Y its/\Y.op=op/\S.a2q 20 X=its.flatMap It.b/\X=a2u Y:=by
 obtain⟨o,A,B,N,k,v,bi,ts,ls⟩:=X;obtain⟨⟨a,hA,hA1,hA2⟩,⟨b,hB,hB1,hB2⟩,hN2,hN3,hb,ht,hl,hr⟩:=H;simp only at ho hA hB hN2 hN3 hb ht hl hr hN;subst ho;subst hA;subst hB;obtain⟨rfl,rfl,rfl⟩:=hb zu;obtain rfl:=ht zu;obtain rfl:=hl zu;obtain rfl:=hB2 rfl;obtain rfl:=hN2 rfl;have hA6:a=3\/a=4:=by have h:(decide (Int.ofNat a=3)||decide (Int.ofNat a=4))=true:=hr;rw[pU]at h;grind
 refine⟨⟨op,a,0,0,0,0,0,[],[]⟩,_,.null hi hA6,rfl,?_,rfl⟩;rcases hA6 with rfl|rfl;rfl;rfl
theorem e2I {X}(hp:S.a3u X=true)(hN:X.N<18446744073709551616)(h1:F7 X.op≠1):∃Y its,Pl Y its/\J3 (.ofNat Y.op)=true/\S.a1z X=a0S Y.op++its.flatMap It.b/\X=a2u Y:=by
 unfold S.a3u at hp;cases hk:J3 X.op with
  |false=>rw[hk]at hp;cases hp|true=>
   rw[hk,D8]at hp;obtain⟨op,ho,hle,h6,h17⟩:=c3b hk;have H:=c9u hp;have hl:S.a1z X=a0S op++S.a2q (F7 X.op) X:=by show E5 (S.Y5 X.op) (S.a2q (F7 X.op) X)=_;rw[E9,ho,d5f]
   rw[hl];have hi:F7 (.ofNat op)=F7 X.op:=by rw[ho]
   suffices h:∃Y its,Pl Y its/\Y.op=op/\S.a2q (F7 X.op) X=its.flatMap It.b/\X=a2u Y by grind
   generalize hK:F7 X.op=K at*;have hcase:K=0\/K=2\/K=3\/K=4\/K=5\/K=6\/K=7\/K=8\/K=9\/K=10\/K=11\/K=12\/K=13\/K=14\/K=15\/K=16\/K=17\/K=18\/K=19\/K=20:=zy;rcases hcase with rfl|rfl|rfl|rfl|rfl|rfl|rfl|rfl|rfl|rfl|rfl|rfl|rfl|rfl|rfl|rfl|rfl|rfl|rfl|rfl;grind[f0N];grind[e9c];grind[f1j];grind[f0z];grind[e8K];exact e9x ho hi H hN (h6 rfl);grind[e9t];grind[f0g];grind[e8E];grind[e4r];grind[e4O];grind[e6W];grind[e5z];grind[e4a];grind[e4E];grind[e4P];exact e4t ho hi H hN (h17 rfl);grind[e5q];grind[e4Z];grind[e7t]
end Go.Proofs.YtmomonnlmbljoaaGreatDoor
