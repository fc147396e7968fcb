import Derived.Test.YtmomonnlmbljoaaGreatDoorHay
import Derived.Test.YtmomonnlmbljoaaGreatDoorHaz
set_option maxRecDepth 1000000
set_option maxHeartbeats 4000000
set_option linter.unusedVariables false
set_option linter.unusedSimpArgs false
namespace Go
theorem zN'{p:Prop}(h:p:=by obtain⟨o,A,B,N,k,v,bi,ts,ls⟩:=X;obtain⟨⟨a,hA,hA1,hA2⟩,⟨b,hB,hB1,hB2⟩,hN2,hN3,hb,ht,hl,hr⟩:=H;simp only at ho hA hB hN2 hN3 hb ht hl hr hN;subst ho;subst hA;subst hB;obtain⟨rfl,rfl,rfl⟩:=hb zv;obtain rfl:=ht zv;obtain rfl:=hl zv;obtain rfl:=hB2 rfl;obtain rfl:=hN2 rfl;exact⟨⟨op,a,0,0,0,0,0,[],[]⟩,[.w (Lib.decDigits a)],.one hi zv hA1,rfl,by show S.I8 a=_;simp[S.I8,It.b],rfl⟩):p:=h
theorem zF'{p:Prop}(h:p:=by obtain⟨o,A,B,N,k,v,bi,ts,ls⟩:=X;obtain⟨⟨a,hA,hA1,hA2⟩,⟨b,hB,hB1,hB2⟩,hN2,hN3,hb,ht,hl,hr⟩:=H;simp only at ho hA hB hN2 hN3 hb ht hl hr hN;subst ho;subst hA;subst hB;obtain⟨rfl,rfl,rfl⟩:=hb zv;obtain rfl:=ht zv;obtain rfl:=hl zv;obtain rfl:=hN2 rfl;refine⟨⟨op,a,b,0,0,0,0,[],[]⟩,_,.two hi zv hA1 hB1,rfl,?_,rfl⟩;show S.a4s a b=_;unfold S.a4s;cases Nat.beq a 0&&Nat.beq b 0 with|true=>rfl|false=>show S.I8 a++S.I8 b=_;simp[S.I8,It.b,bcase]):p:=h
theorem zE'{p:Prop}(h:p:=by obtain⟨o,A,B,N,k,v,bi,ts,ls⟩:=X;obtain⟨⟨a,hA,hA1,hA2⟩,⟨b,hB,hB1,hB2⟩,hN2,hN3,hb,ht,hl,hr⟩:=H;simp only at ho hA hB hN2 hN3 hb ht hl hr hN;subst ho;subst hA;subst hB;obtain⟨rfl,rfl,rfl⟩:=hb zv;obtain rfl:=ht zv;obtain rfl:=hl zv;obtain rfl:=hN2 rfl;refine⟨⟨op,a,b,0,0,0,0,[],[]⟩,_,.ini hi zv hA1 hB1,rfl,?_,rfl⟩;show m9 (S.P9 b) (S.I8 a)=_;rw[a9h];simp[v8,S.I8,It.b]):p:=h
theorem xY'{p:Prop}(h:p:=by unfold S.A7;rw[wc,xP hlt];rfl):p:=h
end Go
section
namespace Go.Proofs.YtmomonnlmbljoaaGreatDoor
open Go.V Go.RowKit Go.Shelf Go.Proofs
variable {mL:Int}
attribute [local congr] m0 l9 n8 n9 q9 m8 s9
theorem a7a (w M m x)(hm:m<2^w):x&&&(2^w*M+m)=2^w*((x/2^w)&&&M)+((x%2^w)&&&m):=by have h0:0<2^w:=Nat.two_pow_pos w;rw[<-Nat.div_add_mod (x&&&(2^w*M+m)) (2^w),Nat.and_div_two_pow,Nat.and_mod_two_pow,Nat.mul_add_div h0,Nat.div_eq_of_lt hm,wV,Nat.mul_add_mod,vX hm]
def rp (m:Nat):Nat->Nat|0=>0|k+1=>256*rp m k+m
def a1 (k n:Nat):Nat:=((n/2)&&&rp 85 k)+(n&&&rp 85 k)
def a2 (k n:Nat):Nat:=((a1 k n/4)&&&rp 51 k)+(a1 k n&&&rp 51 k)
def a3 (k n:Nat):Nat:=(a2 k n/16+a2 k n)&&&rp 15 k
def b1 (b:Nat):Nat:=((b/2)&&&85)+(b&&&85)
def b2 (b:Nat):Nat:=((b1 b/4)&&&51)+(b1 b&&&51)
def b3 (b:Nat):Nat:=(b2 b/16+b2 b)&&&15
theorem a6V (p n)(h:A9 p (upN n)=true)(b)(hb:b<n):p b=true:=(C9 _ _).1 h b (vd.2 hb)
theorem e5F:A9 (λb=>(Nat.beq ((128+b/2)&&&85) ((b/2)&&&85))&&Nat.blt (b1 b) 171&&Nat.ble (b2 b) 68&&Nat.ble (b2 b%16) 4&&Nat.ble (b3 b) 8&&Nat.ble (b3 b) 8) (upN 256)=true:=zw
theorem e5u:A9 (λb=>A9 (λr=>Nat.beq ((64*r+b/4)&&&51) ((b/4)&&&51)) (upN 4)) (upN 256)=true:=zw
theorem e4a:A9 (λb=>A9 (λr=>Nat.beq ((16*r+(b2 b/16+b2 b))&&&15) (b3 b)) (upN 5)) (upN 256)=true:=zw
theorem a4S (b)(hb:b<256):((128+b/2)&&&85)=((b/2)&&&85)/\b1 b<171/\b2 b<=68/\b2 b%16<=4/\b3 b<=8:=by have q:=a6V _ _ e5F b hb;simp only[xM]at q;obtain⟨⟨⟨⟨⟨q1,q2⟩,q3⟩,q4⟩,q5⟩,_⟩:=q;exact⟨xS q1,by simpa[wB]using q2,wk q3,wk q4,wk q5⟩
theorem e5C (k a b)(hb:b<256):a1 (k+1) (256*a+b)=256*a1 k a+b1 b:=by
 unfold a1 b1;have e1:(256*a+b)/2/256=a/2:=zy;have e2:(256*a+b)/2%256=128*(a%2)+b/2:=zy;have e3:(256*a+b)/256=a:=zy;have e4:(256*a+b)%256=b:=zy;have s1:=a7a 8 (rp 85 k) 85 ((256*a+b)/2) zv;have s2:=a7a 8 (rp 85 k) 85 (256*a+b) zv;simp only[Nat.reducePow,e1,e2,e3,e4]at s1 s2;show((256*a+b)/2&&&(256*rp 85 k+85))+((256*a+b)&&&(256*rp 85 k+85))=_;rw[s1,s2];have:((128*(a%2)+b/2)&&&85)=((b/2)&&&85):=by rcases Nat.mod_two_eq_zero_or_one a with h|h;rw[h];simp;rw[h];exact(a4S b hb).1
 rw[this];omega
theorem d5t (k a b)(hb:b<256):a2 (k+1) (256*a+b)=256*a2 k a+b2 b:=by unfold a2 b2;rw[e5C k a b hb];have hb1:=(a4S b hb).2.1;generalize a1 k a=x at*;have e1:(256*x+b1 b)/4/256=x/4:=zy;have e2:(256*x+b1 b)/4%256=64*(x%4)+b1 b/4:=zy;have e3:(256*x+b1 b)/256=x:=zy;have e4:(256*x+b1 b)%256=b1 b:=zy;have s1:=a7a 8 (rp 51 k) 51 ((256*x+b1 b)/4) zv;have s2:=a7a 8 (rp 51 k) 51 (256*x+b1 b) zv;simp only[Nat.reducePow,e1,e2,e3,e4]at s1 s2;show((256*x+b1 b)/4&&&(256*rp 51 k+51))+((256*x+b1 b)&&&(256*rp 51 k+51))=_;rw[s1,s2];have:((64*(x%4)+b1 b/4)&&&51)=((b1 b/4)&&&51):=xS (a6V _ _ (a6V _ _ e5u (b1 b) zy) (x%4) zy);rw[this];omega
theorem d6L (k n)(hn:n<256^k):a2 k n%16<=4:=by
 cases k with
  |zero=>
   have:n=0:=by simp at hn;omega
   subst this;decide|succ k=>have e:n=256*(n/256)+n%256:=zy;rw[e,d5t k _ _ zy];have:=(a4S (n%256) zy).2.2.2.1;omega
theorem b0U (k a b)(ha:a<256^k)(hb:b<256):a3 (k+1) (256*a+b)=256*a3 k a+b3 b:=by have hl:=d6L k a ha;unfold a3;rw[d5t k a b hb];have hb2:=(a4S b hb).2.2.1;generalize a2 k a=x at*;have e1:((256*x+b2 b)/16+(256*x+b2 b))/256=x/16+x:=zy;have e2:((256*x+b2 b)/16+(256*x+b2 b))%256=16*(x%16)+(b2 b/16+b2 b):=zy;have s1:=a7a 8 (rp 15 k) 15 ((256*x+b2 b)/16+(256*x+b2 b)) zv;simp only[Nat.reducePow,e1,e2]at s1;show(((256*x+b2 b)/16+(256*x+b2 b))&&&(256*rp 15 k+15))=_;rw[s1,xS (a6V _ _ (a6V _ _ e4a b hb) (x%16) zy)]
theorem e5G (n)(hn:n<18446744073709551616):∃c0 c1 c2 c3 c4 c5 c6 c7,c0<256/\c1<256/\c2<256/\c3<256/\c4<256/\c5<256/\c6<256/\c7<256/\n=256*(256*(256*(256*(256*(256*(256*c7+c6)+c5)+c4)+c3)+c2)+c1)+c0/\a3 8 n=256*(256*(256*(256*(256*(256*(256*b3 c7+b3 c6)+b3 c5)+b3 c4)+b3 c3)+b3 c2)+b3 c1)+b3 c0:=by have md:=λm:Nat=>sQ m (show 0<256 by decide);have dm:=λm:Nat=>(Nat.div_add_mod m 256).symm;have z:a3 0 0=0:=zv;have l0:n<256^8:=hn;have l1:n/256<256^7:=zy;generalize g1:n/256=n1 at*;have l2:n1/256<256^6:=zy;generalize g2:n1/256=n2 at*;have l3:n2/256<256^5:=zy;generalize g3:n2/256=n3 at*;have l4:n3/256<256^4:=zy;generalize g4:n3/256=n4 at*;have l5:n4/256<256^3:=zy;generalize g5:n4/256=n5 at*;have l6:n5/256<256^2:=zy;generalize g6:n5/256=n6 at*;have l7:n6/256<256^1:=zy;generalize g7:n6/256=n7 at*;have l8:n7<256:=zy;have e0:=dm n;have e1:=dm n1;have e2:=dm n2;have e3:=dm n3;have e4:=dm n4;have e5:=dm n5;have e6:=dm n6;rw[g1]at e0;rw[g2]at e1;rw[g3]at e2;rw[g4]at e3;rw[g5]at e4;rw[g6]at e5;rw[g7]at e6;have s7:=b0U 0 0 n7 zv l8;simp only[uf,wt,z]at s7;have s6:=b0U 1 n7 (n6%256) l7 (md _);rw[<-e6,s7]at s6;have s5:=b0U 2 n6 (n5%256) l6 (md _);rw[<-e5,s6]at s5;have s4:=b0U 3 n5 (n4%256) l5 (md _);rw[<-e4,s5]at s4;have s3:=b0U 4 n4 (n3%256) l4 (md _);rw[<-e3,s4]at s3;have s2:=b0U 5 n3 (n2%256) l3 (md _);rw[<-e2,s3]at s2;have s1:=b0U 6 n2 (n1%256) l2 (md _);rw[<-e1,s2]at s1;have s0:=b0U 7 n1 (n%256) l1 (md _);rw[<-e0,s1]at s0;refine⟨n%256,n1%256,n2%256,n3%256,n4%256,n5%256,n6%256,n7,md _,md _,md _,md _,md _,md _,md _,l8,?_,s0⟩;rw[<-e6,<-e5,<-e4,<-e3,<-e2,<-e1,<-e0]
noncomputable def lg8 (b:Nat):Nat:=bcase (Nat.beq b 1) 0 (bcase (Nat.beq b 2) 1 (bcase (Nat.beq b 4) 2 (bcase (Nat.beq b 8) 3 (bcase (Nat.beq b 16) 4 (bcase (Nat.beq b 32) 5 (bcase (Nat.beq b 64) 6 7))))))
theorem e4S (b)(hb:b<256)(h:b3 b=0):b=0:=by have:A9 (λb=>!(Nat.beq (b3 b) 0)||Nat.beq b 0) (upN 256)=true:=zw;have:=a6V _ _ this b hb;rw[h]at this;simpa using this
theorem b0z (b)(hb:b<256)(h:b3 b=1):∃i,i<8/\b=2^i:=by have q:A9 (λb=>!(Nat.beq (b3 b) 1)||(Nat.beq b (2^lg8 b)&&Nat.blt (lg8 b) 8)) (upN 256)=true:=zw;have q2:=a6V _ _ q b hb;rw[h,I4,ut,wZ,xM]at q2;exact⟨lg8 b,by simpa[wB]using q2.2,xS q2.1⟩
def pop (n:Nat):Nat:=
 let x:=a3 8 n
 let y:=x+x / 256
 let z:=y+y / 65536
 (z+z / 4294967296) % 128
theorem d3T (d0 d1 d2 d3 d4 d5 d6 d7)(h0:d0<=8)(h1:d1<=8)(h2:d2<=8)(h3:d3<=8)(h4:d4<=8)(h5:d5<=8)(h6:d6<=8)(h7:d7<=8)(x0 x1 x2 x3 x4 x5 x6 x7 y z)(e0:x0=256*x1+d0)(e1:x1=256*x2+d1)(e2:x2=256*x3+d2)(e3:x3=256*x4+d3)(e4:x4=256*x5+d4)(e5:x5=256*x6+d5)(e6:x6=256*x7+d6)(e7:x7=d7)(hy:y=x0+x0/256)(hz:z=y+y/65536):(z+z/4294967296)%128=d0+d1+d2+d3+d4+d5+d6+d7:=by
 have q1:x0/256=x1:=by rw[e0];omega
 rw[q1]at hy;have q2:y=65536*(x2+x3)+(256*(d1+d2)+(d0+d1)):=zy;have q3:y/65536=x2+x3:=by rw[q2];omega
 rw[q3]at hz;have q4:z=4294967296*(x4+x5+x6+x7)+(16777216*(d3+d4+d5+d6)+65536*(d2+d3+d4+d5)+256*(d1+d2+d3+d4)+(d0+d1+d2+d3)):=zy;have q5:z/4294967296=x4+x5+x6+x7:=by rw[q4,Nat.mul_add_div zv,Nat.div_eq_of_lt zy,wV]
 rw[q5];have q6:z+(x4+x5+x6+x7)=128*(2*(x1+x2+x3+x4+x5+x6+x7))+(d0+d1+d2+d3+d4+d5+d6+d7):=by rw[hz,hy,e0];clear q2 q3 q4 q5 hy hz q1 e0 h0 h1 h2 h3 h4 h5 h6 h7;omega
 have q7:d0+d1+d2+d3+d4+d5+d6+d7<128:=by clear q2 q3 q4 q5 hy hz q1 e0 e1 e2 e3 e4 e5 e6 e7 q6;omega
 rw[q6,Nat.mul_add_mod,vX q7]
theorem e3n (n)(hn:n<18446744073709551616)(h:pop n=1):∃i,i<64/\n=2^i:=by
 obtain⟨c0,c1,c2,c3,c4,c5,c6,c7,h0,h1,h2,h3,h4,h5,h6,h7,e,e3⟩:=e5G n hn;have hs:b3 c0+b3 c1+b3 c2+b3 c3+b3 c4+b3 c5+b3 c6+b3 c7=1:=by rw[<-d3T (b3 c0) (b3 c1) (b3 c2) (b3 c3) (b3 c4) (b3 c5) (b3 c6) (b3 c7) (a4S c0 h0).2.2.2.2 (a4S c1 h1).2.2.2.2 (a4S c2 h2).2.2.2.2 (a4S c3 h3).2.2.2.2 (a4S c4 h4).2.2.2.2 (a4S c5 h5).2.2.2.2 (a4S c6 h6).2.2.2.2 (a4S c7 h7).2.2.2.2 (a3 8 n) _ _ _ _ _ _ _ _ _ e3 rfl rfl rfl rfl rfl rfl rfl rfl rfl];exact h
 clear e3 h hn;generalize k0:b3 c0=d0 at*;generalize k1:b3 c1=d1 at*;generalize k2:b3 c2=d2 at*;generalize k3:b3 c3=d3 at*;generalize k4:b3 c4=d4 at*;generalize k5:b3 c5=d5 at*;generalize k6:b3 c6=d6 at*;generalize k7:b3 c7=d7 at*;have zz:=λ(b d:Nat) (hb:b<256) (k:b3 b=d) (h:d=0)=>e4S b hb (k.trans h);by_cases q0:d0=1;obtain⟨i,hi,hc⟩:=b0z c0 h0 (k0.trans q0);refine⟨i+0,zy,?_⟩;rw[e,zz c1 d1 h1 k1 zy,zz c2 d2 h2 k2 zy,zz c3 d3 h3 k3 zy,zz c4 d4 h4 k4 zy,zz c5 d5 h5 k5 zy,zz c6 d6 h6 k6 zy,zz c7 d7 h7 k7 zy,hc,ui];clear hs e;simp only[uf,wt,wV,Nat.reducePow,wI];by_cases q1:d1=1;obtain⟨i,hi,hc⟩:=b0z c1 h1 (k1.trans q1);refine⟨i+8,zy,?_⟩;rw[e,zz c0 d0 h0 k0 zy,zz c2 d2 h2 k2 zy,zz c3 d3 h3 k3 zy,zz c4 d4 h4 k4 zy,zz c5 d5 h5 k5 zy,zz c6 d6 h6 k6 zy,zz c7 d7 h7 k7 zy,hc,ui];clear hs e;simp only[uf,wt,wV,Nat.reducePow];omega;by_cases q2:d2=1;obtain⟨i,hi,hc⟩:=b0z c2 h2 (k2.trans q2);refine⟨i+16,zy,?_⟩;rw[e,zz c0 d0 h0 k0 zy,zz c1 d1 h1 k1 zy,zz c3 d3 h3 k3 zy,zz c4 d4 h4 k4 zy,zz c5 d5 h5 k5 zy,zz c6 d6 h6 k6 zy,zz c7 d7 h7 k7 zy,hc,ui];clear hs e;simp only[uf,wt,wV,Nat.reducePow];omega;by_cases q3:d3=1;obtain⟨i,hi,hc⟩:=b0z c3 h3 (k3.trans q3);refine⟨i+24,zy,?_⟩;rw[e,zz c0 d0 h0 k0 zy,zz c1 d1 h1 k1 zy,zz c2 d2 h2 k2 zy,zz c4 d4 h4 k4 zy,zz c5 d5 h5 k5 zy,zz c6 d6 h6 k6 zy,zz c7 d7 h7 k7 zy,hc,ui];clear hs e;simp only[uf,wt,wV,Nat.reducePow];omega;by_cases q4:d4=1;obtain⟨i,hi,hc⟩:=b0z c4 h4 (k4.trans q4);refine⟨i+32,zy,?_⟩;rw[e,zz c0 d0 h0 k0 zy,zz c1 d1 h1 k1 zy,zz c2 d2 h2 k2 zy,zz c3 d3 h3 k3 zy,zz c5 d5 h5 k5 zy,zz c6 d6 h6 k6 zy,zz c7 d7 h7 k7 zy,hc,ui];clear hs e;simp only[uf,wt,wV,Nat.reducePow];omega;by_cases q5:d5=1;obtain⟨i,hi,hc⟩:=b0z c5 h5 (k5.trans q5);refine⟨i+40,zy,?_⟩;rw[e,zz c0 d0 h0 k0 zy,zz c1 d1 h1 k1 zy,zz c2 d2 h2 k2 zy,zz c3 d3 h3 k3 zy,zz c4 d4 h4 k4 zy,zz c6 d6 h6 k6 zy,zz c7 d7 h7 k7 zy,hc,ui];clear hs e;simp only[uf,wt,wV,Nat.reducePow];omega;by_cases q6:d6=1;obtain⟨i,hi,hc⟩:=b0z c6 h6 (k6.trans q6);refine⟨i+48,zy,?_⟩;rw[e,zz c0 d0 h0 k0 zy,zz c1 d1 h1 k1 zy,zz c2 d2 h2 k2 zy,zz c3 d3 h3 k3 zy,zz c4 d4 h4 k4 zy,zz c5 d5 h5 k5 zy,zz c7 d7 h7 k7 zy,hc,ui];clear hs e;simp only[uf,wt,wV,Nat.reducePow];omega;obtain⟨i,hi,hc⟩:=b0z c7 h7 (k7.trans zy);refine⟨i+56,zy,?_⟩;rw[e,zz c0 d0 h0 k0 zy,zz c1 d1 h1 k1 zy,zz c2 d2 h2 k2 zy,zz c3 d3 h3 k3 zy,zz c4 d4 h4 k4 zy,zz c5 d5 h5 k5 zy,zz c6 d6 h6 k6 zy,hc,ui];clear hs e;simp only[wV,Nat.reducePow];omega
theorem d2W (i)(hi:i<64):pop (2^i)=1:=by have:A9 (λi=>Nat.beq (pop (2^i)) 1) (upN 64)=true:=zw;exact xS (a6V _ _ this i hi)
theorem d1K (n)(h:n<18446744073709551616):G8 .u64 (Int.ofNat n)=Int.ofNat n:=a8l .u64 n h
noncomputable def a4k (n:Nat):Option Nat:=List.rec (motive:=λ_=>Option Nat) none (λi _ ih=>bcase (Nat.beq n (2^i)) (some i) ih) (upN 64)
theorem b5U {n i}(h:a4k n=some i):i<64/\n=2^i:=by
 have key:∀l:List Nat,List.rec (motive:=λ_=>Option Nat) none (λi _ ih=>bcase (Nat.beq n (2^i)) (some i) ih) l=some i->i∈l/\n=2^i:=by intro l;induction l with|nil=>intro h;cases h|cons j l ih=>intro h;cases q:Nat.beq n (2^j)with|true=>have h':bcase (Nat.beq n (2^j)) (some j) (List.rec (motive:=λ_=>Option Nat) none (λi _ ih=>bcase (Nat.beq n (2^i)) (some i) ih) l)=some i:=h;rw[q]at h';cases h';exact⟨wH,xS q⟩|false=>have h':bcase (Nat.beq n (2^j)) (some j) (List.rec (motive:=λ_=>Option Nat) none (λi _ ih=>bcase (Nat.beq n (2^i)) (some i) ih) l)=some i:=h;rw[q]at h';obtain⟨h1,h2⟩:=ih h';exact⟨wY _ h1,h2⟩
 obtain⟨h1,h2⟩:=key (upN 64) h;exact⟨vd.1 h1,h2⟩
theorem c7s {n}(h:a4k n=none)(i)(hi:i<64):n≠2^i:=by
 have key:∀l:List Nat,List.rec (motive:=λ_=>Option Nat) none (λi _ ih=>bcase (Nat.beq n (2^i)) (some i) ih) l=none->∀i∈l,n≠2^i:=by intro l;induction l with|nil=>intro _ i hi;cases hi|cons j l ih=>intro h i hi;have h':bcase (Nat.beq n (2^j)) (some j) (List.rec (motive:=λ_=>Option Nat) none (λi _ ih=>bcase (Nat.beq n (2^i)) (some i) ih) l)=none:=h;cases q:Nat.beq n (2^j)with|true=>rw[q]at h';cases h'|false=>rw[q]at h';rcases wG.1 hi with rfl|hm;intro e;rw[e,I4]at q;cases q;exact ih h' i hm
 exact key (upN 64) h i (vd.2 hi)
theorem c9f (n)(hn:n<18446744073709551616):decide (pop n=1)=(a4k n).isSome:=by cases h:a4k n with|some i=>obtain⟨h1,rfl⟩:=b5U h;rw[d2W i h1];rfl|none=>show _=false;rw[wu];intro e;obtain⟨i,h1,h2⟩:=e3n n hn e;exact c7s h i h1 h2
theorem b1D (p T t x y n m)(h:m<=64):R9 p T .shr t x y (.int .u64 (.ofNat n)) (.int .u64 (.ofNat m))=M.pure (.int .u64 (.ofNat (n/2^m))):=by
 rw[F7 p T t x y .u64 .u64 (.ofNat n) m h];have e:(Int.ofNat n).fdiv (2^m)=Int.ofNat (n/2^m):=by have:=Int.ofNat_fdiv n (2^m);rw[Int.natCast_pow]at this;exact this.symm
 rw[e]
theorem e3T (p T t x y n m)(h1:n<18446744073709551616)(h2:m<9223372036854775808):R9 p T .and t x y (.int .i64 (.ofNat n)) (.int .i64 (.ofNat m))=M.pure (.int .i64 (.ofNat (Nat.land n m))):=by refine a9Y p T rfl rfl ?_;show some (Value.int .i64 (G8 .i64 (.ofNat (Nat.land (Nat.mod n (Nat.pow 2 64)) (Nat.mod m (Nat.pow 2 64))))))=_;rw[show Nat.mod n (Nat.pow 2 64)=n from vX h1,show Nat.mod m (Nat.pow 2 64)=m from vX (vF h2 zv),b2U (Nat.land n m) (vq (show Nat.land n m<=m from vB) h2)]
theorem b1I (p T t x y n m)(h:n+m<18446744073709551616):R9 p T .add t x y (.int .u64 (.ofNat n)) (.int .u64 (.ofNat m))=M.pure (.int .u64 (.ofNat (n+m))):=by rw[A6,show Int.ofNat n+Int.ofNat m=Int.ofNat (n+m)from rfl,d1K _ h]
theorem e6j:rp 85 8=6148914691236517205:=zv
theorem e5I:rp 51 8=3689348814741910323:=zv
theorem e4l:rp 15 8=1085102592571150095:=zv
theorem e5f (N call n)(h:n<18446744073709551616):b6J i7 N call (.int .u64 (.ofNat n))=M.pure (.ret (.int .i64 (.ofNat (pop n)))):=by
 have u1:a1 8 n=Nat.land (n/2^1) 6148914691236517205+Nat.land n 6148914691236517205:=by unfold a1;rw[e6j];rfl
 have u2:a2 8 n=Nat.land (a1 8 n/2^2) 3689348814741910323+Nat.land (a1 8 n) 3689348814741910323:=by unfold a2;rw[e5I];rfl
 have u3:a3 8 n=Nat.land (a2 8 n/2^4+a2 8 n) 1085102592571150095:=by unfold a3;rw[e4l];rfl
 have b1:Nat.land (n/2^1) 6148914691236517205<=6148914691236517205:=vB;have b2:Nat.land n 6148914691236517205<=6148914691236517205:=vB;have b3:Nat.land (a1 8 n/2^2) 3689348814741910323<=3689348814741910323:=vB;have b4:Nat.land (a1 8 n) 3689348814741910323<=3689348814741910323:=vB;have b5:Nat.land (a2 8 n/2^4+a2 8 n) 1085102592571150095<=1085102592571150095:=vB;have l1:n/2^1<18446744073709551616:=vq (sZ _ _) h;have l2:a1 8 n<18446744073709551616:=by rw[u1];omega
 have l3:a1 8 n/2^2<18446744073709551616:=vq (sZ _ _) l2;have l4:a2 8 n<=7378697629483820646:=by rw[u2];omega
 have l5:a2 8 n/2^4+a2 8 n<18446744073709551616:=zy;have l6:a3 8 n<=1085102592571150095:=by rw[u3];exact b5
 have e1:G8 .i64 (Int.ofNat ((a3 8 n+a3 8 n/2^8+(a3 8 n+a3 8 n/2^8)/2^16)+(a3 8 n+a3 8 n/2^8+(a3 8 n+a3 8 n/2^8)/2^16)/2^32))=Int.ofNat ((a3 8 n+a3 8 n/2^8+(a3 8 n+a3 8 n/2^8)/2^16)+(a3 8 n+a3 8 n/2^8+(a3 8 n+a3 8 n/2^8)/2^16)/2^32):=b2U _ zy;have k1:a3 8 n/2^8<=1085102592571150095/256:=zy;have e2:=λ(t:TypeId) (x y:Operand)=>e3T Tryz.prog tab t x y ((a3 8 n+a3 8 n/2^8+(a3 8 n+a3 8 n/2^8)/2^16)+(a3 8 n+a3 8 n/2^8+(a3 8 n+a3 8 n/2^8)/2^16)/2^32) 127 zy zv;have e3:Nat.land ((a3 8 n+a3 8 n/2^8+(a3 8 n+a3 8 n/2^8)/2^16)+(a3 8 n+a3 8 n/2^8+(a3 8 n+a3 8 n/2^8)/2^16)/2^32) 127=pop n:=(tR _ 7).trans rfl;rw[e2y];simp only[E9];simp only[V.e3y,b1D,b0j _ _ _ _ _ _ _ l1 (by decide:6148914691236517205<18446744073709551616),b0j _ _ _ _ _ _ _ h (by decide:6148914691236517205<18446744073709551616),(by decide:(1:Nat)<=64)];rw[b1I _ _ _ _ _ _ _ zy,<-u1];simp only[V.e3y,b1D,b0j _ _ _ _ _ _ _ l3 (by decide:3689348814741910323<18446744073709551616),b0j _ _ _ _ _ _ _ l2 (by decide:3689348814741910323<18446744073709551616),(by decide:(2:Nat)<=64)];rw[b1I _ _ _ _ _ _ _ zy,<-u2];simp only[V.e3y,b1D,(by decide:(4:Nat)<=64)];rw[b1I _ _ _ _ _ _ _ l5];simp only[V.e3y,b0j _ _ _ _ _ _ _ l5 (by decide:1085102592571150095<18446744073709551616)];rw[<-u3];simp only[V.e3y,b1D,(by decide:(8:Nat)<=64)];rw[b1I _ _ _ _ _ _ _ zy];simp only[V.e3y,b1D,(by decide:(16:Nat)<=64)];rw[b1I _ _ _ _ _ _ _ zy];simp only[V.e3y,b1D,(by decide:(32:Nat)<=64)];rw[b1I _ _ _ _ _ _ _ zy];simp only[V.e3y,S8,e1,e2,e3]
noncomputable def b5a (z:Int):Option Value:=match z with|.ofNat n=>bcase (Nat.blt n 18446744073709551616) (some (.int .i64 (.ofNat (pop n)))) none|.negSucc _=>none
theorem c8m {z v}(h:b5a z=some v):∃n,n<18446744073709551616/\z=.ofNat n/\v=.int .i64 (.ofNat (pop n)):=by
 cases z with
  |ofNat n=>have h':bcase (Nat.blt n 18446744073709551616) (some (Value.int .i64 (.ofNat (pop n)))) none=some v:=h;cases q:Nat.blt n 18446744073709551616 with|true=>rw[q]at h';cases h';exact⟨n,yb,rfl,rfl⟩|false=>rw[q]at h';cases h'
  |negSucc n=>cases h
theorem d3Y (n)(h:n<18446744073709551616):b5a (.ofNat n)=some (.int .i64 (.ofNat (pop n))):=by show bcase (Nat.blt n 18446744073709551616) _ _=_;rw[A5 h];rfl
theorem d6C:B6 Tryz.prog tab (A2 mL) 187 (X1 .u64 b5a):=a6f J6 D7 pL4 Tryz.func187 zw rfl λz v h=>by obtain⟨n,hn,rfl,rfl⟩:=c8m h;exact⟨rfl,2,by rw[O0 (q:=b6J) (N:=NN) zw 1];exact U1.pure (e5f _ _ n hn)⟩
noncomputable def c3p (z:Int):Option Value:=match z with
 |.ofNat n=>match a4k n with|some i=>some (.int .i64 (.ofNat i))|none=>none
 |.negSucc _=>none
theorem d5V (mL):A9 (λi=>b0K (j0 a4N 5 188 [.int .u64 (.ofNat (2^i))] (Go.V.a1e (A2 mL))) i) (upN 64)=true:=zw
theorem d8E:B6 Tryz.prog tab (A2 mL) 188 (X1 .u64 c3p):=a6w λz v h=>by
 cases z with
  |ofNat n=>have h':(match a4k n with|some i=>some (Value.int .i64 (.ofNat i))|none=>none)=some v:=h;cases q:a4k n with|some i=>rw[q]at h';cases h';obtain⟨h1,rfl⟩:=b5U q;obtain⟨s,hr⟩:=b0p ((C9 _ _).1 (d5V mL) i (vd.2 h1));exact⟨rfl,a3B J6 D7 a4o a0O a3u b0f Tryz.func188 zw rfl rfl rfl hr⟩|none=>rw[q]at h';cases h'
  |negSucc n=>cases h
noncomputable def pe5:Nat->Option (List Value->M Value):=(C8 (C8 (C8 (C8 (C8 (C8 (C8 (C8 (C8 pe4 207 XF) 32 b2n) 113 XBg) 187 (X1 .u64 b5a)) 188 (X1 .u64 c3p)) 11 (λbs=>M.lift (S.alX bs))) 12 (S.XI S.b6U)) 14 (S.XB S.b2s)) 19 (S.XI λX=>some (.bool (S.a1o X))))
noncomputable def r7:a0g:=(I3 (I3 (I3 (I3 (I3 (I3 (I3 (I3 (I3 ps4 207 XF) 32 b2n) 113 XBg) 187 (X1 .u64 b5a)) 188 (X1 .u64 c3p)) 11 (λbs=>M.lift (S.alX bs))) 12 (S.XI S.b6U)) 14 (S.XB S.b2s)) 19 (S.XI λX=>some (.bool (S.a1o X))))
theorem pL5:Shelf' Tryz.prog tab (A2 mL) NN pe5 r7:=((((((((pL4.add d8j).add e2V).add d7e).add d6C).add d8E).add S.e7x).add S.e7y).add S.e1q).add S.e0h
theorem N8 {α}(x y:α):bcase true x y=x:=rfl
theorem P6 {α}(x y:α):bcase false x y=y:=rfl
def AgU (U:Nat->Prop)(h h0:Trie VObj):Prop:=∀i,U i->h.get i=h0.get i
theorem AgU.upd {U h h0 j o}(H:AgU U h h0)(hj:¬U j):AgU U (V.O2 h j o) h0:=λi hi=>by have hne:i≠j:=λe=>hj (by rw[<-e];exact hi);rw[c9 hne];exact H i hi
theorem c7i {U h0 v vs}(H:SlU U h0 v vs):∃z:List Nat->List Nat,∀c h,(∀i,U i->i<c)->AgU U h h0->∀r w,go (b4V (.slice v.a v.n v.e)) ⟨c,h,r,w⟩=some (vs,⟨c,h,z r,w⟩):=by obtain⟨a,n,e⟩:=v;obtain⟨h0',h1⟩:=H;simp only at h0' h1;subst h0';rcases h1 with rfl|⟨b,o,g,cs,cur,ro,rfl,rfl,h2,h3,h4⟩;refine⟨λr=>r,λc h _ _ r w=>?_⟩;cases a<;>rfl;cases vs with|nil=>exact⟨λr=>r,λc h _ _ r w=>rfl⟩|cons v vs=>refine⟨λr=>b::r,λc h hc hh r w=>?_⟩;show go (loadN ⟨b,o,some g⟩ ((vs.length+1)*1)) ⟨c,h,r,w⟩=_;rw[V8,A5 (hc b h2),(hh b h2).trans h3,O4,wI,show vs.length+1=(v::vs).length from rfl,h4];rfl
theorem c3n {U h0 v L}(H:LabAt U h0 v L):∃z:List Nat->List Nat,∀c h,(∀i,U i->i<c)->AgU U h h0->∀r w,go (a9H v) ⟨c,h,r,w⟩=some (L,⟨c,h,z r,w⟩):=by obtain⟨⟨sb,so,g,cs,cur,ro,m,lv,rfl,h1,h2,h3,h4⟩,h5⟩:=H;obtain⟨z,hz⟩:=c7i h4;refine⟨λr=>z (sb::r),λc h hc hh r w=>?_⟩;unfold a9H;rw[a2j,B4,V8,A5 (hc sb h1),(hh sb h1).trans h2,O4,h3];simp only[U8,B2,B4,hz c h hc hh,c7q,r9,y9,A5 h5,F6];rfl
theorem c0Q {U h0 v k fs}(H:KindAt U h0 v k fs):∃z:List Nat->List Nat,∀c h,(∀i,U i->i<c)->AgU U h h0->∀r w,go (a7K v k) ⟨c,h,r,w⟩=some (fs,⟨c,h,z r,w⟩):=by obtain⟨sb,so,g,cs,cur,ro,m,lv,es,kb,ko,kg,ds,cur2,ro2,n,nm,m2,rfl,h1,h2,h3,h4,h5,h6,h7,h8,h9,h10,h11⟩:=H.ex;refine⟨λr=>m2::kb::m::sb::r,λc h hc hh r w=>?_⟩;unfold a7K;rw[a2j,B4,V8,A5 (hc sb h1),(hh sb h1).trans h2,O4,h3];simp only[U8,B2,B4,a7N _ _ _ _ _ _ (hc m h4) ((hh m h4).trans h5),h6,r9,a2j,V8,A5 (hc kb h7),(hh kb h7).trans h8,O4,h9,a7N _ _ _ _ _ _ (hc m2 h10) ((hh m2 h10).trans h11)]
theorem c5R {U h0 a n e o}(H:b0A U h0 a n e o):∃z:List Nat->List Nat,∀c h,(∀i,U i->i<c)->AgU U h h0->∀r w,go (b2G a n e) ⟨c,h,r,w⟩=some (o,⟨c,h,z r,w⟩):=by rcases H with⟨rfl,rfl⟩|⟨m,b,off,g,cs,cur,ro,k,x,s,y,rfl,rfl,rfl,h4,h5,h6,rfl⟩;exact⟨λr=>r,λc h _ _ r w=>rfl⟩;refine⟨λr=>b::r,λc h hc hh r w=>?_⟩;unfold b2G;simp only[I4,F6,r9,B4,V8,A5 (hc b h4),(hh b h4).trans h5,O4,h6,U8,B2];rfl
noncomputable def K3 (fs:List (Value×Value))(T:List UInt8):Nat×Nat:=bcase (Q3 T [36]) (match U6 (.string ⟨⟨T⟩⟩) fs with|some (some (.int .i64 (.ofNat n)))=>(n,0)|_=>(0,24)) (a2r T)
noncomputable def P3 (L:List (List UInt8))(T:List UInt8):Nat×Nat:=bcase (Q3 T [36]) (match a4m T L.reverse 0 with|some n=>(n,0)|none=>(0,24)) (a2r T)
structure Env (U:Nat→Prop) (h0:Trie VObj) (sv:Value) (F:Nat→List (Value×Value)) (L:List (List UInt8)):Prop where
 kind:∀ k,k<9→KindAt U h0 sv k (F k)
 good:∀ k,k<9→∀ T:List UInt8,(∃ n,U6 (.string ⟨⟨T⟩⟩) (F k)=some (some (.int .i64 (.ofNat n))))∨U6 (.string ⟨⟨T⟩⟩) (F k)=some none
 lab:LabAt U h0 sv L
theorem d2t {U h0 sv F L}(E:Env U h0 sv F L){k}(hk:k<9){T}(hT:T.length<90000):b2r (F k) T=some (.tuple ⟨[.int .i64 (.ofNat (K3 (F k) T).1),.int .i64 (.ofNat (K3 (F k) T).2)]⟩):=by unfold b2r K3;cases Q3 T [36]with|true=>rcases E.good k hk T with⟨n,e⟩|e;simp only[N8,e];simp only[N8,e]|false=>rw[P6,P6,y9,A5 hT];rfl
theorem d2S {L T}(hT:T.length<90000):b2J L T=some (.tuple ⟨[.int .i64 (.ofNat (P3 L T).1),.int .i64 (.ofNat (P3 L T).2)]⟩):=by unfold b2J P3 b4G;cases Q3 T [36]with|true=>rw[N8,N8];cases a4m T L.reverse 0<;>rfl|false=>rw[P6,P6,y9,A5 hT];rfl
theorem d8N {U h0 sv F L}(E:Env U h0 sv F L)(n){k}(hk:k<9){T}(hT:T.length<90000):∃z:List Nat->List Nat,∀c h r w,(∀i,U i->i<c)->AgU U h h0->go (j0 r7 (n+1) 207 [sv,.int .i64 (.ofNat k),.string ⟨⟨T⟩⟩]) ⟨c,h,r,w⟩=some (.ret (.tuple ⟨[.int .i64 (.ofNat (K3 (F k) T).1),.int .i64 (.ofNat (K3 (F k) T).2)]⟩),⟨c,h,z r,w⟩):=by obtain⟨z,hz⟩:=c0Q (E.kind k hk);refine⟨z,λc h r w hc hh=>?_⟩;rw[a2R r7 n 207 _ (g:=XF) zw,B4];show H7 (go (M.bind (a7K sv k) λfs=>M.lift (b2r fs T)) ⟨c,h,r,w⟩) _=_;rw[B4,hz c h hc hh,B2,d2t E hk hT];rfl
theorem e3l {U h0 sv F L}(E:Env U h0 sv F L)(n){T}(hT:T.length<90000):∃z:List Nat->List Nat,∀c h r w,(∀i,U i->i<c)->AgU U h h0->go (j0 r7 (n+1) 32 [sv,.string ⟨⟨T⟩⟩]) ⟨c,h,r,w⟩=some (.ret (.tuple ⟨[.int .i64 (.ofNat (P3 L T).1),.int .i64 (.ofNat (P3 L T).2)]⟩),⟨c,h,z r,w⟩):=by obtain⟨z,hz⟩:=c3n E.lab;refine⟨z,λc h r w hc hh=>?_⟩;rw[a2R r7 n 32 _ (g:=b2n) zw,B4];show H7 (go (M.bind (a9H sv) λL=>M.lift (b2J L T)) ⟨c,h,r,w⟩) _=_;rw[B4,hz c h hc hh,B2,d2S hT];rfl
theorem a8T {U h0 a m e o}(H:b0A U h0 a m e o)(n):∃z:List Nat->List Nat,∀c h r w k p T W,(∀i,U i->i<c)->AgU U h h0->go (j0 r7 (n+1) 113 [.agg ⟨[.int .i64 (.ofNat k),.int .i64 (.ofNat p),.string ⟨⟨T⟩⟩,.slice a m e]⟩,.string ⟨⟨W⟩⟩]) ⟨c,h,r,w⟩=some (.ret (.bool (W7 k o W)),⟨c,h,z r,w⟩):=by obtain⟨z,hz⟩:=c5R H;refine⟨z,λc h r w k p T W hc hh=>?_⟩;rw[a2R r7 n 113 _ (g:=XBg) zw,B4];show H7 (go (M.bind (b2G a m e) λo=>M.pure (Value.bool (W7 k o W))) ⟨c,h,r,w⟩) _=_;rw[B4,hz c h hc hh,B2];rfl
theorem Y7 (n k p T a m e):j0 r7 (n+1) 184 [.agg ⟨[.int .i64 (.ofNat k),.int .i64 (.ofNat p),.string ⟨⟨T⟩⟩,.slice a m e]⟩]=M.pure (.ret (.bool (M2 k T))):=K6 r7 n 184 _ (g:=XN c2N) zw rfl
theorem b0c (n T P):j0 r7 (n+1) 80 [.string ⟨⟨T⟩⟩,.string ⟨⟨P⟩⟩]=M.pure (.ret (.bool (Q3 T P))):=K6 r7 n 80 _ (g:=a8m a9P) zw rfl
theorem e2B (n T)(h:T.length<90000):j0 r7 (n+1) 81 [.string ⟨⟨T⟩⟩,.int .i64 (.ofNat 4294967295)]=M.pure (.ret (.tuple ⟨[.int .i64 (.ofNat (a2r T).1),.int .i64 (.ofNat (a2r T).2)]⟩)):=K6 r7 n 81 _ (g:=a9D 4294967295 a4A) zw (b1M _ _ T h)
theorem c6r (n T)(h:T.length<90000):j0 r7 (n+1) 186 [.string ⟨⟨T⟩⟩,.int .i64 (.ofNat 32)]=M.pure (.ret (.tuple ⟨[.int .u64 (.ofNat (V7 T 4294967295).1),.int .i64 (.ofNat (V7 T 4294967295).2)]⟩)):=K6 r7 n 186 _ (g:=a8n) zw (d2g T h)
theorem b5K (n T)(h:T.length<90000):j0 r7 (n+1) 186 [.string ⟨⟨T⟩⟩,.int .i64 (.ofNat 64)]=M.pure (.ret (.tuple ⟨[.int .u64 (.ofNat (V7 T 18446744073709551615).1),.int .i64 (.ofNat (V7 T 18446744073709551615).2)]⟩)):=K6 r7 n 186 _ (g:=a8n) zw (d3S T h)
theorem d7o (n T)(h:T.length<90000):j0 r7 (n+1) 107 [.string ⟨⟨T⟩⟩]=M.pure (.ret (.bool (a4q T))):=K6 r7 n 107 _ (g:=onS λT=>.bool (a4q T)) zw (b3R _ T h)
theorem b9Q (n T):j0 r7 (n+1) 182 [.string ⟨⟨T⟩⟩]=M.pure (.ret (a0H T)):=K6 r7 n 182 _ (g:=XT a0H) zw rfl
theorem d8K (n T):j0 r7 (n+1) 109 [.string ⟨⟨T⟩⟩]=M.pure (.ret (a6E S7 T)):=K6 r7 n 109 _ (g:=b3i) zw rfl
theorem X8 (n z)(h:B3 (.ofNat z)=true):j0 r7 (n+1) 39 [.int .i64 (.ofNat z)]=M.pure (.ret (.int .i64 (.ofNat (w6 (.ofNat z))))):=U7 (q:=λz=>bcase (B3 z) (some (.int .i64 (.ofNat (w6 z)))) none) zw n (by rw[h];rfl)
theorem d9s (n z a)(h:N4 R7 (.ofNat z)=some a):j0 r7 (n+1) 94 [.int .i64 (.ofNat z)]=M.pure (.ret (.int .i64 (.ofNat a))):=U7 (q:=a4L) zw n (by unfold a4L;rw[h])
theorem d5x (n m)(h:m<18446744073709551616):j0 r7 (n+1) 187 [.int .u64 (.ofNat m)]=M.pure (.ret (.int .i64 (.ofNat (pop m)))):=U7 (q:=b5a) zw n (d3Y m h)
theorem d7y (n m i)(h:a4k m=some i):j0 r7 (n+1) 188 [.int .u64 (.ofNat m)]=M.pure (.ret (.int .i64 (.ofNat i))):=U7 (q:=c3p) zw n (by show(match a4k m with|some i=>some (Value.int .i64 (.ofNat i))|none=>none)=_;rw[h])
theorem J3 (n a b c):j0 r7 (n+1) 72 [a,b,c]=c4n i7 NN (j0 r7 n) a b c:=b1q (q:=c4n) (N:=NN) zw n a b c
theorem c7h (n a):j0 r7 (n+1) 138 [a]=b7i i7 NN (j0 r7 n) a:=O0 (q:=b7i) (N:=NN) zw n a
theorem U3 (n a b c):j0 r7 (n+1) 181 [a,b,c]=b6V i7 NN (j0 r7 n) a b c:=b1q (q:=b6V) (N:=NN) zw n a b c
theorem d6R (n a b c):j0 r7 (n+1) 185 [a,b,c]=b7j i7 NN (j0 r7 n) a b c:=b1q (q:=b7j) (N:=NN) zw n a b c
theorem b8G (n a b c):j0 r7 (n+1) 183 [a,b,c]=b6Q i7 NN (j0 r7 n) a b c:=b1q (q:=b6Q) (N:=NN) zw n a b c
theorem c5V (n a b c):j0 r7 (n+1) 143 [a,b,c]=b7o i7 NN (j0 r7 n) a b c:=b1q (q:=b7o) (N:=NN) zw n a b c
theorem d7G (n a):j0 r7 (n+1) 139 [a]=b7c i7 NN (j0 r7 n) a:=O0 (q:=b7c) (N:=NN) zw n a
theorem d8G (n a):j0 r7 (n+1) 140 [a]=b7A i7 NN (j0 r7 n) a:=O0 (q:=b7A) (N:=NN) zw n a
theorem a9m (n a):j0 r7 (n+1) 141 [a]=b7v i7 NN (j0 r7 n) a:=O0 (q:=b7v) (N:=NN) zw n a
theorem d5g (n a):j0 r7 (n+1) 142 [a]=b6R i7 NN (j0 r7 n) a:=O0 (q:=b6R) (N:=NN) zw n a
theorem c7N (n a b):j0 r7 (n+1) 144 [a,b]=b7w i7 NN (j0 r7 n) a b:=Z9 (q:=b7w) (N:=NN) zw n a b
theorem d6W (n a b):j0 r7 (n+1) 145 [a,b]=b7n i7 NN (j0 r7 n) a b:=Z9 (q:=b7n) (N:=NN) zw n a b
theorem d6k (n a b c):j0 r7 (n+1) 146 [a,b,c]=b7q i7 NN (j0 r7 n) a b c:=b1q (q:=b7q) (N:=NN) zw n a b c
theorem d7J (n a):j0 r7 (n+1) 147 [a]=b6X i7 NN (j0 r7 n) a:=O0 (q:=b6X) (N:=NN) zw n a
theorem c7F (n a b):j0 r7 (n+1) 148 [a,b]=b6Y i7 NN (j0 r7 n) a b:=Z9 (q:=b6Y) (N:=NN) zw n a b
theorem d4N (n a):j0 r7 (n+1) 149 [a]=b7D i7 NN (j0 r7 n) a:=O0 (q:=b7D) (N:=NN) zw n a
theorem Y5 (n a):j0 r7 (n+1) 110 [a]=b7r i7 NN (j0 r7 n) a:=O0 (q:=b7r) (N:=NN) zw n a
end Go.Proofs.YtmomonnlmbljoaaGreatDoor
end
section
namespace Go.Proofs.YtmomonnlmbljoaaGreatDoor
open Go.V Go.RowKit Go.Shelf Go.Proofs
variable {mL:Int}
theorem O8 {α}{m m':M α}(h:m=m')(s):go m s=go m' s:=by rw[h]
def a3O {β:Type}(x:Option ((Xc×List Value)×V.S))(k:Xc->List Value->M β):Option (β×V.S):=match x with|none=>none|some y=>go (k y.1.1 y.1.2) y.2
def Y0 {β:Type}(x:Option (CR×V.S))(kn kp:Value->M β):Option (β×V.S):=match x with|none=>none|some y=>go (W4 y.1 kn kp) y.2
theorem c4W {β}(a l s)(k:Xc->List Value->M β):a3O (some ((a,l),s)) k=go (k a l) s:=rfl
theorem c5d {β}(v s)(kn kp:Value->M β):Y0 (some (.ret v,s)) kn kp=go (kn v) s:=rfl
theorem A1 {β x y}(k:Xc->List Value->M β)(h:x=y):a3O x k=a3O y k:=by rw[h]
theorem A0 {β x y}(kn kp:Value->M β)(h:x=y):Y0 x kn kp=Y0 y kn kp:=by rw[h]
theorem e5K {β}(m k s):go (i7.bv β m k) s=H7 (go m s) k:=rfl
theorem c2O {β}(m kn kp s):go (i7.bc β m kn kp) s=Y0 (go m s) kn kp:=by rw[J2,B4];cases go m s<;>rfl
theorem c2U {β}(m k s):go (i7.bj β m k) s=a3O (go m s) k:=by rw[I1,B4];cases go m s<;>rfl
theorem e4f (b n x s):go (i7.lp b n x) s=go (I9 b n x) s:=rfl
theorem c9A {β}(a:M β)(b c d s):go (J1 .normal a b c d) s=go a s:=rfl
theorem d6T {β}(i)(a:M β)(b c d s):go (J1 (.exit i) a b c d) s=go (b i) s:=rfl
theorem d9N {β}(a:M β)(b c d s):go (J1 .ret a b c d) s=go c s:=rfl
theorem d8V {β}(b)(x y:M β)(s):go (a2E (.bool b) x y) s=bcase b (go x s) (go y s):=zm
theorem d9M {α}(a)(k:Addr->M α)(s):go (R5 (.pointer (some a)) k) s=go (k a) s:=rfl
theorem e5V (call f vs s):go (Y3 call f vs) s=Y0 (go (call f vs) s) M.pure λ_=>M.fail:=by rw[a8D,B4];cases go (call f vs) s<;>rfl
theorem N7 (body n x s):go (I9 body (n+1) x) s=a3O (go (body x) s) λr l=>J1 r (I9 body n l) (λid=>M.pure (.exit id,l)) (M.pure (.ret,l)) (λv=>M.pure (.pan v,l)):=by rw[M6];cases go (body x) s<;>rfl
theorem e5P {β}(x kn kp k):a3O (Y0 x kn kp) k=Y0 x (λv=>i7.bj β (kn v) k) (λv=>i7.bj β (kp v) k):=by cases x with|none=>rfl|some y=>obtain⟨y,s⟩:=y;cases y<;>exact(c2U _ _ _).symm
theorem e5s {β}(x f k):a3O (a3O x f) k=a3O x λa l=>i7.bj β (f a l) k:=by cases x with|none=>rfl|some y=>exact(c2U _ _ _).symm
theorem e6n {α β}(x:Option (α×V.S))(f k):a3O (H7 x f) k=H7 x λa=>i7.bj β (f a) k:=by cases x with|none=>rfl|some y=>exact(c2U _ _ _).symm
theorem e5Q {β}(x kn kp k k'):Y0 (Y0 x kn kp) k k'=Y0 x (λv=>i7.bc β (kn v) k k') (λv=>i7.bc β (kp v) k k'):=by cases x with|none=>rfl|some y=>obtain⟨y,s⟩:=y;cases y<;>exact(c2O _ _ _ _).symm
theorem e3Z {β}(x f k k'):Y0 (a3O x f) k k'=a3O x λa l=>i7.bc β (f a l) k k':=by cases x with|none=>rfl|some y=>exact(c2O _ _ _ _).symm
theorem e5B {β γ}(x kn kp)(f:β->M γ):H7 (Y0 x kn kp) f=Y0 x (λv=>M.bind (kn v) f) (λv=>M.bind (kp v) f):=by cases x with|none=>rfl|some y=>obtain⟨y,s⟩:=y;cases y<;>rfl
theorem e4Z {β γ}(x g)(f:β->M γ):H7 (a3O x g) f=a3O x λa l=>M.bind (g a l) f:=by cases x with|none=>rfl|some y=>rfl
theorem d8.bindC {β:Type}{x:Option (CR×V.S)}{kn kp:Value->M β}{P:CR->V.S->Prop}{Q:β->V.S->Prop}(h:d8 x P)(k:∀y s',P y s'->d8 (Y0 (some (y,s')) kn kp) Q):d8 (Proofs.YtmomonnlmbljoaaGreatDoor.Y0 x kn kp) Q:=by obtain⟨a,s',e,p⟩:=h;rw[e];exact k a s' p
theorem d8.bindJ {β x}{f:Xc->List Value->M β}{P Q}(h:d8 x P)(k:∀y l s',P (y,l) s'->d8 (go (f y l) s') Q):d8 (Proofs.YtmomonnlmbljoaaGreatDoor.a3O x f) Q:=by obtain⟨⟨y,l⟩,s',e,p⟩:=h;rw[e];exact k y l s' p
def bvK {β:Type}{a:M β}{m:M Value}{k:Value->M β}(_:a=i7.bv β m k):Value->M β:=k
def bjK {β:Type}{a:M β}{m:M (Xc×List Value)}{k:Xc->List Value->M β}(_:a=i7.bj β m k):Xc->List Value->M β:=k
def cnK {β:Type}{a x y:M β}{v:Value}(_:a=a2E v x y):M β:=y
theorem bvE {β a c m k v}(h:a=i7.bv β m k)(e:c=bvK h v):c=k v:=e
theorem bjE {β a c m k x l}(h:a=i7.bj β m k)(e:c=bjK h x l):c=k x l:=e
theorem d0r {K}{Q:(Value->M CR)->Prop}{G:Prop}(main:Q K->G)(key:Q K):G:=main key
abbrev gP:=And.intro @B4<|And.intro @e5K<|And.intro @c2O<|And.intro @c2U<|And.intro @e4f<|And.intro @c9A<|And.intro @d6T<|And.intro @d9N<|And.intro @d8V<|And.intro @d9M<|And.intro @e5V<|And.intro @b4K @a0q
abbrev G5:=And.intro (λp0 p1 p2 p3 p4 s=>O8 (nf5 p0 p1 p2 p3 p4) s)<| @B1
abbrev GL5:=(λp0 p1 p2 p3 p4 s=>O8 (b7X p0 p1 p2 p3 p4) s)
abbrev G69:=(λp0 p1 p2 p3 p4 s=>O8 (e4X p0 p1 p2 p3 p4) s)
abbrev G71:=And.intro (λp0 p1 p2 p3 p4 s=>O8 (e4u p0 p1 p2 p3 p4) s)<| @B1
abbrev d0B:=(λp0 p1 p2 p3 p4 p5 p6 s=>O8 (c6E p0 p1 p2 p3 p4 p5 p6) s)
abbrev G79:=(λp0 p1 p2 p3 s=>O8 (d5b p0 p1 p2 p3) s)
abbrev b1o:=(λp0 p1 p2 p3 p4 s=>O8 (d9G p0 p1 p2 p3 p4) s)
abbrev e5h:=(λp0 p1 p2 p3 p4 s=>O8 (e1e p0 p1 p2 p3 p4) s)
abbrev a6I:=(λp0 p1 p2 p3 p4 s=>O8 (b8U p0 p1 p2 p3 p4) s)
abbrev a8P:=And.intro (λp0 p1 p2 p3 p4 s=>O8 (e2l p0 p1 p2 p3 p4) s)<| @B1
abbrev G29:=And.intro (λp0 p1 p2 p3 p4 s=>O8 (e4Y p0 p1 p2 p3 p4) s)<| @B1
abbrev d4l:=(λp0 p1 p2 p3 p4 p5 s=>O8 (c6j p0 p1 p2 p3 p4 p5) s)
abbrev G64:=(λp0 p1 p2 p3 s=>O8 (e4K p0 p1 p2 p3) s)
abbrev d7w:=(λp0 p1 p2 p3 p4 s=>O8 (c7a p0 p1 p2 p3 p4) s)
abbrev G74:=And.intro (λp0 p1 p2 p3 p4 p5 p6 s=>O8 (e4v p0 p1 p2 p3 p4 p5 p6) s)<| @B1
abbrev G76:=And.intro (λp0 p1 p2 p3 p4 s=>O8 (e5c p0 p1 p2 p3 p4) s)<| @B1
abbrev a8I:=(λp0 p1 p2 p3 p4 p5 s=>O8 (c1T p0 p1 p2 p3 p4 p5) s)
abbrev a1h:=And.intro (λp0 p1 p2 p3 p4 p5 s=>O8 (e2a p0 p1 p2 p3 p4 p5) s)<| @B1
abbrev e5d:=(λp0 p1 p2 p3 p4 s=>O8 (e0l p0 p1 p2 p3 p4) s)
abbrev e5A:=(λp0 p1 p2 p3 s=>O8 (e0b p0 p1 p2 p3) s)
abbrev e5E:=(λp0 p1 p2 p3 p4 s=>O8 (e1N p0 p1 p2 p3 p4) s)
abbrev b0d:=(λp0 p1 p2 p3 p4 s=>O8 (c2c p0 p1 p2 p3 p4) s)
abbrev b7U:=And.intro (λp0 p1 p2 p3 s=>O8 (d9S p0 p1 p2 p3) s)<| @B1
abbrev b4I:=And.intro (λp0 p1 p2 p3 s=>O8 (e1k p0 p1 p2 p3) s)<| @B1
abbrev b0b:=And.intro (λp0 p1 p2 p3 p4 p5 s=>O8 (e0I p0 p1 p2 p3 p4 p5) s)<| @B1
abbrev G22:=And.intro (λp0 p1 p2 p3 p4 s=>O8 (e3Y p0 p1 p2 p3 p4) s)<| @B1
abbrev d7r:=(λp0 p1 p2 p3 p4 p5 s=>O8 (c7j p0 p1 p2 p3 p4 p5) s)
abbrev G65:=(λp0 p1 p2 p3 p4 p5 p6 s=>O8 (e6k p0 p1 p2 p3 p4 p5 p6) s)
abbrev b2R:=(λp0 p1 p2 p3 p4 p5 p6 s=>O8 (c1s p0 p1 p2 p3 p4 p5 p6) s)
abbrev c4V:=(λp0 p1 p2 p3 p4 s=>O8 (d9O p0 p1 p2 p3 p4) s)
abbrev c4p:=(λp0 p1 p2 p3 p4 s=>O8 (c2o p0 p1 p2 p3 p4) s)
abbrev e4Q:=(λp0 p1 p2 p3 p4 s=>O8 (e3f p0 p1 p2 p3 p4) s)
abbrev c3W:=(λp0 p1 p2 p3 p4 s=>O8 (c1L p0 p1 p2 p3 p4) s)
abbrev d7L:=And.intro (λp0 p1 p2 p3 s=>O8 (e1K p0 p1 p2 p3) s)<| @B1
abbrev d8L:=And.intro (λp0 p1 p2 p3 s=>O8 (e3g p0 p1 p2 p3) s)<| @B1
abbrev d0R:=(λp0 p1 p2 p3 p4 s=>O8 (c1X p0 p1 p2 p3 p4) s)
abbrev b8R:=And.intro (λp0 p1 p2 p3 s=>O8 (e1A p0 p1 p2 p3) s)<| @B1
abbrev U9:=(λp0 p1 p2 p3 p4 p5 s=>O8 (e4q p0 p1 p2 p3 p4 p5) s)
abbrev G73:=And.intro (λp0 p1 p2 p3 p4 p5 s=>O8 (e4P p0 p1 p2 p3 p4 p5) s)<| @B1
abbrev G75:=And.intro (λp0 p1 p2 p3 p4 p5 p6 p7 s=>O8 (c9y p0 p1 p2 p3 p4 p5 p6 p7) s)<| @B1
abbrev c3t:=(λp0 p1 p2 p3 p4 s=>O8 (c7J p0 p1 p2 p3 p4) s)
abbrev b4Q:=(λp0 p1 p2 p3 s=>O8 (e2w p0 p1 p2 p3) s)
abbrev b5s:=(λp0 p1 p2 p3 p4 p5 s=>O8 (e1M p0 p1 p2 p3 p4 p5) s)
abbrev c9I:=(λp0 p1 p2 p3 p4 s=>O8 (e2U p0 p1 p2 p3 p4) s)
abbrev b0V:=And.intro (λp0 p1 p2 p3 p4 s=>O8 (e2t p0 p1 p2 p3 p4) s)<| @B1
abbrev c4u:=And.intro (λp0 p1 p2 p3 p4 p5 s=>O8 (e1R p0 p1 p2 p3 p4 p5) s)<| @B1
abbrev G20:=(λp0 p1 p2 p3 p4 s=>O8 (e5Z p0 p1 p2 p3 p4) s)
abbrev G21:=(λp0 p1 p2 s=>O8 (e4O p0 p1 p2) s)
abbrev d6y:=(λp0 p1 p2 p3 p4 s=>O8 (c7r p0 p1 p2 p3 p4) s)
abbrev G27:=And.intro (λp0 p1 p2 p3 s=>O8 (e5m p0 p1 p2 p3) s)<| @B1
abbrev G30:=And.intro (λp0 p1 p2 p3 s=>O8 (e5g p0 p1 p2 p3) s)<| @B1
abbrev d0v:=(λp0 p1 p2 p3 p4 s=>O8 (c7o p0 p1 p2 p3 p4) s)
abbrev G62:=And.intro (λp0 p1 p2 p3 p4 s=>O8 (e6g p0 p1 p2 p3 p4) s)<| @B1
abbrev c4e:=And.intro (λp0 p1 p2 p3 p4 p5 s=>O8 (c5c p0 p1 p2 p3 p4 p5) s)<|(λp0 p1 p2 p3 p4 p5 s=>O8 (c7n p0 p1 p2 p3 p4 p5) s)
abbrev G77:=And.intro (λp0 p1 p2 p3 s=>O8 (e5n p0 p1 p2 p3) s)<| @B1
abbrev a1S:=(λp0 p1 p2 p3 s=>O8 (d9W p0 p1 p2 p3) s)
abbrev c2s:=(λp0 p1 p2 p3 s=>O8 (e1C p0 p1 p2 p3) s)
abbrev c3f:=And.intro (λp0 p1 p2 p3 p4 p5 s=>O8 (e0A p0 p1 p2 p3 p4 p5) s)<| @B1
abbrev gY:=And.intro @B2<|And.intro @b0m<|And.intro @N2<|And.intro @b4v<|And.intro @a7E<|And.intro @a3C<|And.intro @O3<|And.intro @V8<|And.intro @a2w<|And.intro @a2T<|And.intro @B9<|And.intro @A3<|And.intro @o9<|And.intro @m7<|And.intro @C3<|And.intro @C6<|And.intro @C4<|And.intro @a2D<|And.intro @J9<|And.intro @K7<|And.intro @S6<|And.intro @E7<|And.intro @a0h<|And.intro @c4o<|And.intro @c3b<|And.intro @c3E<|And.intro @b2t<|And.intro @b2M<|And.intro @b2V<|And.intro @a7Z<|And.intro @F8<|And.intro @E2<|And.intro @b1j<|And.intro @a5L<|And.intro @a0B<|And.intro @a7H<|And.intro @r9<|And.intro @F6<|And.intro @b1k<|And.intro @a5B<|And.intro @a8Z<|And.intro @b8a<|And.intro @a6m<|And.intro @G0<|And.intro @a4V<|And.intro @x9<|And.intro @a4c<|And.intro @B7<|And.intro @Z6<|And.intro @A6<|And.intro @G1<|And.intro @b2L<|And.intro @b2m<|And.intro @a9z<|And.intro @a5a<|And.intro @F7<|And.intro @F9<|And.intro @a5m<|And.intro @D1<|And.intro @X9<|And.intro @a3z<|And.intro @b2u<|And.intro @I5<|And.intro @b9M<|And.intro @c0b<|And.intro @E5<|And.intro @E8<|And.intro @E6<|And.intro @a9w<|And.intro @S8<|And.intro @a0d<|And.intro @a3d<|And.intro @a0n<|And.intro @a3h<|And.intro @a5y<|And.intro @a5s<|And.intro @a1I<|And.intro @a4r<|And.intro @a2A<|And.intro @a1Z<|And.intro @a3f<|And.intro @a0w<|And.intro @a2m<|And.intro @a6O<|And.intro @a7C<|And.intro @a9A<|And.intro @b2C<|And.intro @a5Q<|And.intro @a4U<|And.intro @I7<|And.intro @a5d<|And.intro @a7G<|And.intro @a6s<|And.intro @a3n<|And.intro @a5l<|And.intro @a3v<|And.intro @a6o<|And.intro @vz<|And.intro @a1t<|And.intro @a1f<|And.intro @a2W<|And.intro @a3U<|And.intro @a8g<|And.intro @Y4<|And.intro @a4n<|And.intro @O4<|And.intro @U8<|And.intro @a2V<|And.intro @A5<|And.intro @d9<|And.intro @c9<|And.intro @a1z<|And.intro @a2z<|And.intro @J7<|And.intro @a5j<|And.intro @W5<|And.intro @I6<|And.intro @a4X<|And.intro @wt<|And.intro @wV<|And.intro @a2h<|And.intro @a9B<|And.intro @a0e<|And.intro @a0u<|And.intro @a9W<|And.intro @c4W<|And.intro @c5d<|And.intro @b4o<|And.intro @e5P<|And.intro @e5s<|And.intro @e6n<|And.intro @e5Q<|And.intro @e3Z<|And.intro @e5B<| @e4Z
end Go.Proofs.YtmomonnlmbljoaaGreatDoor
end
section
namespace Go.Proofs.YtmomonnlmbljoaaGreatDoor
open Go.V Go.RowKit Go.Shelf Go.Proofs
variable {mL:Int}
attribute [local congr] m0 l9 n8 n9 q9 m8 s9 A1 A0
theorem At.to {U h0 sv fo ar ap lv q c c' h h' R P}(H:At U h0 sv fo ar ap lv q c h R P)(hc:c<=c')(hs:∀i,i<c->h'.get i=h.get i):At U h0 sv fo ar ap lv q c' h' R P:=⟨λi hi=>⟨xI (H.u i hi).1 hc,(H.u i hi).2.1,(H.u i hi).2.2.1,(hs i (H.u i hi).1).trans (H.u i hi).2.2.2⟩,xI H.r hc,xI H.p hc,H.ne,(hs ar H.r).trans H.hr,(hs ap H.p).trans H.hp⟩
theorem At.setP {U h0 sv fo ar ap lv q c c' h h' R P P'}(H:At U h0 sv fo ar ap lv q c h R P)(hc:c<=c')(hs:∀i,i<c->i≠ap->h'.get i=h.get i)(hp:h'.get ap=some (.cells (w7 sv fo P') 0 false)):At U h0 sv fo ar ap lv q c' h' R P':=⟨λi hi=>⟨xI (H.u i hi).1 hc,(H.u i hi).2.1,(H.u i hi).2.2.1,(hs i (H.u i hi).1 (H.u i hi).2.2.1).trans (H.u i hi).2.2.2⟩,xI H.r hc,xI H.p hc,H.ne,(hs ar H.r H.ne).trans H.hr,hp⟩
def a5Z (F:Nat->List (Value×Value))(L:List (List UInt8))(kv:Value)(fd:List UInt8->Nat×Nat):Prop:=(kv=.int .i64 (.negSucc 0)/\fd=P3 L)\/∃k,k<9/\kv=.int .i64 (.ofNat k)/\fd=K3 (F k)
theorem dm1 (k):decide (Int.ofNat k=Int.negSucc 0)=false:=by rw[wu];intro h;cases h
section
variable {U:Nat->Prop}{h0:Trie VObj}{sv fo:Value}{F:Nat->List (Value×Value)}{L:List (List UInt8)}{ar ap:Nat}{lv:Sl}{q c:Nat}{h:Trie VObj}{R:RV}{P:PV}
theorem b8F (E:Env U h0 sv F L)(m){kv fd}(hk:a5Z F L kv fd)(H:At U h0 sv fo ar ap lv q c h R P)(n nl)(hT:n.t.length<90000)(r w):d8 (go (j0 r7 (m+3) 185 [.pointer (some ⟨ar,0,some 0⟩),ndV n nl,kv]) ⟨c,h,r,w⟩) λx s=>c<=s.c/\(∀i,i<c->i≠ap->s.h.get i=h.get i)/\(((fd n.t).2=0/\x=.ret (.tuple ⟨[.int .i64 (.ofNat (fd n.t).1),.bool true]⟩)/\At U h0 sv fo ar ap lv q s.c s.h R P)\/((fd n.t).2≠0/\x=.ret (.tuple ⟨[.int .i64 (.ofNat 0),.bool false]⟩)/\At U h0 sv fo ar ap lv q s.c s.h R {P with p:=n.p,e:=(fd n.t).2})):=by
 have hr:=H.hr;have hp:=H.hp;have a1:=H.r;have a2:=H.p;have a3:=H.ne;have a4:ap≠ar:=λe=>H.ne e.symm;have a5:ar≠c:=zy;have a6:ap≠c:=zy;have hU:∀i,U i->i<c+1:=λi hi=>uG (H.u i hi).1;have hA:∀o,AgU U (V.O2 h c o) h0:=λo=>AgU.upd (λi hi=>(H.u i hi).2.2.2) (λhc=>wD _ (H.u c hc).1);rw[d6R];rcases hk with⟨rfl,rfl⟩|⟨k,hk9,rfl,rfl⟩;obtain⟨z,hz⟩:=e3l E (m+1) hT;have hz':=λo r w=>hz (c+1) (V.O2 h c o) r w hU (hA o);cases q1:decide ((P3 L n.t).2=0)with|true=>simp(disch:=try exact dz)only[c4u,ndV,hr,z8,hp,w7,hz',M9,q1,↓gP,gY,gT];refine d8.done ⟨wy c,λi hi _=>?_,Or.inl ⟨wj q1,rfl,H.to (wy c) λi hi=>?_⟩⟩;simp(disch:=omega)only[c9];simp(disch:=omega)only[c9]|false=>simp(disch:=try exact dz)only[c4u,U9,J3,ndV,hr,z8,hp,w7,hz',M9,q1,↓gP,gY,gT];refine d8.done ⟨wy c,λi hi hp=>?_,Or.inr ⟨vp q1,rfl,H.setP (wy c) (λi hi hp=>?_) ?_⟩⟩;simp(disch:=first|assumption|omega)only[c9];simp(disch:=first|assumption|omega)only[c9];simp(disch:=first|assumption|omega)only[d9,w7]
 obtain⟨z,hz⟩:=d8N E (m+1) hk9 hT;have hz':=λo r w=>hz (c+1) (V.O2 h c o) r w hU (hA o);cases q1:decide ((K3 (F k) n.t).2=0)with|true=>simp(disch:=try exact dz)only[c4u,ndV,dm1,hr,z8,hp,w7,hz',M9,q1,↓gP,gY,gT];refine d8.done ⟨wy c,λi hi _=>?_,Or.inl ⟨wj q1,rfl,H.to (wy c) λi hi=>?_⟩⟩;simp(disch:=omega)only[c9];simp(disch:=omega)only[c9]|false=>simp(disch:=try exact dz)only[c4u,U9,J3,ndV,dm1,hr,z8,hp,w7,hz',M9,q1,↓gP,gY,gT];refine d8.done ⟨wy c,λi hi hp=>?_,Or.inr ⟨vp q1,rfl,H.setP (wy c) (λi hi hp=>?_) ?_⟩⟩;simp(disch:=first|assumption|omega)only[c9];simp(disch:=first|assumption|omega)only[c9];simp(disch:=first|assumption|omega)only[d9,w7]
end
end Go.Proofs.YtmomonnlmbljoaaGreatDoor
end
section
namespace Go.Proofs.YtmomonnlmbljoaaGreatDoor
open Go.V Go.RowKit Go.Shelf Go.Proofs
variable {mL:Int}
attribute [local congr] m0 l9 n8 n9 q9 m8 s9 A1 A0
theorem At.setR {U h0 sv fo ar ap lv q c c' h h' R R' P}(H:At U h0 sv fo ar ap lv q c h R P)(hc:c<=c')(hs:∀i,i<c->i≠ar->h'.get i=h.get i)(hr:h'.get ar=some (.cells (z8 ap lv q R') 0 false)):At U h0 sv fo ar ap lv q c' h' R' P:=⟨λi hi=>⟨xI (H.u i hi).1 hc,(H.u i hi).2.1,(H.u i hi).2.2.1,(hs i (H.u i hi).1 (H.u i hi).2.1).trans (H.u i hi).2.2.2⟩,xI H.r hc,xI H.p hc,H.ne,hr,(hs ap H.p (λe=>H.ne e.symm)).trans H.hp⟩
inductive Ix where
 | ok (k:Nat)
 | er (p e:Nat)
noncomputable def D9 (fd:List UInt8->Nat×Nat)(l:List Nd)(q i:Nat):Ix:=match l[i]? with|none=>.er q 4|some n=>bcase (M2 n.k n.t) (bcase (decide ((fd n.t).2=0)) (.ok (fd n.t).1) (.er n.p (fd n.t).2)) (.er n.p 4)
section
variable {U:Nat->Prop}{h0:Trie VObj}{sv fo:Value}{F:Nat->List (Value×Value)}{L:List (List UInt8)}{ar ap:Nat}{lv:Sl}{q c:Nat}{h:Trie VObj}{R:RV}{P:PV}{l:List Nd}
theorem T7 (m)(H:At U h0 sv fo ar ap lv q c h R P)(hl:NdL U h0 lv l){n}(hi:l[R.i]?=some n):∃(z y:List Nat->List Nat) (o1 o2:VObj) (nl:Sl),NdL U h0 nl n.l/\n.t.length<90000/\∀r w,go (j0 r7 (m+1) 138 [.pointer (some ⟨ar,0,some 0⟩)]) ⟨c,h,r,w⟩=some (.ret (.tuple ⟨[.agg ⟨[.int .i64 (.ofNat n.k),.int .i64 (.ofNat n.p),.string ⟨⟨n.t⟩⟩,.slice (Sl.a nl) nl.n nl.e]⟩,.bool true]⟩),⟨c+1,V.O2 (V.O2 h c o1) c o2,z r,y w⟩):=by have hr:=H.hr;have a1:=H.r;have a5:ar≠c:=zy;obtain⟨b,p,g,cs,cur,ro,nl,hb,hg,hn,hT,e1,e2,e3,e4,e5,e6⟩:=hl.get hi;obtain⟨u1,u2,u3,u4⟩:=H.u b hb;have hg':=u4.trans hg;have a6:b≠c:=zy;have hlen:=hl.len.1;have hlt:R.i<l.length:=(xQ.1 hi).1;rw[hlen]at e1;have d1:decide (l.length<=R.i)=false:=zZ;have e0:=I5 lv.a l.length lv.e;apply Exists.intro;apply Exists.intro;apply Exists.intro;apply Exists.intro;refine⟨nl,hn,hT,λr w=>?_⟩;rw[c7h];simp(disch:=try exact dz)only[d7L,hr,z8,hlen,e0,dle,d1,e1,e2,hg',↓gP,gY];rfl
theorem T6 (m)(H:At U h0 sv fo ar ap lv q c h R P)(hl:NdL U h0 lv l)(hi:l[R.i]?=none):∃(z y:List Nat->List Nat) (o1 o2:VObj),∀r w,go (j0 r7 (m+1) 138 [.pointer (some ⟨ar,0,some 0⟩)]) ⟨c,h,r,w⟩=some (.ret (.tuple ⟨[.agg ⟨[.int .i64 (.ofNat 0),.int .i64 (.ofNat 0),.string ⟨⟨[]⟩⟩,.slice none 0 0]⟩,.bool false]⟩),⟨c+1,V.O2 (V.O2 h c o1) c o2,z r,y w⟩):=by
 have hr:=H.hr;have a1:=H.r;have a5:ar≠c:=zy;have hlen:=hl.len.1;have hlt:l.length<=R.i:=zi;have d1:decide (l.length<=R.i)=true:=by rw[wa];exact hlt
 have e0:=I5 lv.a l.length lv.e;apply Exists.intro;apply Exists.intro;apply Exists.intro;apply Exists.intro;intro r w;rw[c7h];simp(disch:=try exact dz)only[d7L,hr,z8,hlen,e0,dle,d1,↓gP,gY];rfl
theorem d7x (E:Env U h0 sv F L)(m){kv fd}(hk:a5Z F L kv fd)(H:At U h0 sv fo ar ap lv q c h R P)(hl:NdL U h0 lv l)(r w):d8 (go (j0 r7 (m+5) 183 [.pointer (some ⟨ar,0,some 0⟩),kv,.pointer (some ⟨ar,5,some 0⟩)]) ⟨c,h,r,w⟩) λx s=>(∃k,D9 fd l q R.i=.ok k/\x=.ret (.bool true)/\Fin U h0 sv fo ar ap lv q c h P (.ok {R with i:=R.i+1,A:=k}) s)\/(∃p e,D9 fd l q R.i=.er p e/\x=.ret (.bool false)/\Fin U h0 sv fo ar ap lv q c h P (.er p e) s):=by
 have hr:=H.hr;have hp:=H.hp;have a1:=H.r;have a2:=H.p;have a3:=H.ne;have a4:ap≠ar:=λe=>H.ne e.symm;have a5:ar≠c:=zy;have a6:ap≠c:=zy;have a7:ar≠c+1:=zy;have a8:ap≠c+1:=zy;have hlen:=hl.len.1;have e0:=I5 lv.a l.length lv.e;rw[b8G];cases hi:l[R.i]? with
  |none=>
   obtain⟨z,y,o1,o2,hm⟩:=T6 (m+3) H hl hi;have hlt:l.length<=R.i:=zi;have d1:decide (R.i<l.length)=false:=zZ;have eS:D9 fd l q R.i=.er q 4:=by unfold D9;rw[hi]
   simp(disch:=try exact dz)only[b0b,hm,hr,hp,z8,w7,U3,a1h,J3,U9,hlen,e0,P5,d1,↓gP,gY,gT];refine d8.done ?_;refine Or.inr ⟨_,_,eS,rfl,zc,λi hi h1 h2=>?_,R,H.setP zc (λi hi hp=>?_) ?_,λR1 e=>zn⟩;simp(disch:=first|assumption|omega)only[c9];simp(disch:=first|assumption|omega)only[c9];simp(disch:=first|assumption|omega)only[d9,w7,Rs.P]|some n=>obtain⟨z,y,o1,o2,nl,hn,hT,hm⟩:=T7 (m+3) H hl hi;have hlt:R.i<l.length:=(xQ.1 hi).1;have d1:decide (R.i<l.length)=true:=zY;have hinc:=B8 R.i xw;cases q1:M2 n.k n.t with|false=>have eS:D9 fd l q R.i=.er n.p 4:=yQ;obtain⟨b,p,g,cs,cur,ro,nl',hb,hg,_,_,e1,e2,e3,e4,e5,e6⟩:=hl.get hi;obtain⟨u1,u2,u3,u4⟩:=H.u b hb;have hg':=u4.trans hg;rw[hlen]at e1;have b1:b≠c:=zy;have b2:b≠c+1:=zy;simp(disch:=try exact dz)only[b0b,hm,Y7,q1,hr,hp,z8,w7,U3,a1h,J3,U9,hlen,e0,P5,d1,e1,e4,hg',↓gP,gY,gT];refine d8.done ?_;refine Or.inr ⟨_,_,eS,rfl,zc,λi hi h1 h2=>?_,R,H.setP zc (λi hi hp=>?_) ?_,λR1 e=>zn⟩;simp(disch:=first|assumption|omega)only[c9];simp(disch:=first|assumption|omega)only[c9];simp(disch:=first|assumption|omega)only[d9,w7,Rs.P]|true=>simp(disch:=try exact dz)only[b0b,hm,Y7,q1,↓gP,gY,gT];refine d8.bindC (b8F E (m+1) hk (H.to ?_ λi hi=>?_) n nl hT _ _) λx s hq=>?_;omega;simp(disch:=first|assumption|omega)only[c9];obtain⟨c',h',r',w'⟩:=s;obtain⟨hc,hs,⟨q2,rfl,H'⟩|⟨q2,rfl,H'⟩⟩:=hq;have eS:D9 fd l q R.i=.ok (fd n.t).1:=ym;have hr':=H'.hr;simp only at hc hs hr';have c1:=H'.r;simp only at c1;simp(disch:=try exact dz)only[hr',z8,hinc,↓gP,gY];refine d8.done ?_;refine Or.inl ⟨_,eS,rfl,zc,λi hi h1 h2=>?_,_,H'.setR (xR _) (λi hi hp=>?_) ?_,λR1 e=>zj⟩;have:=hs i zy h2;simp(disch:=first|assumption|omega)only[c9]at this⊢;exact this;simp(disch:=first|assumption|omega)only[c9];simp(disch:=first|assumption|omega)only[d9,z8];have eS:D9 fd l q R.i=.er n.p (fd n.t).2:=yn;have hr':=H'.hr;simp only at hc hs hr';have c1:=H'.r;simp only at c1;simp(disch:=try exact dz)only[hr',z8,hinc,↓gP,gY];refine d8.done ?_;refine Or.inr ⟨_,_,eS,rfl,zc,λi hi h1 h2=>?_,{R with i:=R.i+1,A:=0},H'.setR (xR _) (λi hi hp=>?_) ?_,λR1 e=>zn⟩;have:=hs i zy h2;simp(disch:=first|assumption|omega)only[c9]at this⊢;exact this;simp(disch:=first|assumption|omega)only[c9];simp(disch:=first|assumption|omega)only[d9,z8]
theorem d5u (E:Env U h0 sv F L)(m){kv fd}(hk:a5Z F L kv fd)(H:At U h0 sv fo ar ap lv q c h R P)(hl:NdL U h0 lv l)(r w):d8 (go (j0 r7 (m+5) 183 [.pointer (some ⟨ar,0,some 0⟩),kv,.pointer (some ⟨ar,6,some 0⟩)]) ⟨c,h,r,w⟩) λx s=>(∃k,D9 fd l q R.i=.ok k/\x=.ret (.bool true)/\Fin U h0 sv fo ar ap lv q c h P (.ok {R with i:=R.i+1,B:=k}) s)\/(∃p e,D9 fd l q R.i=.er p e/\x=.ret (.bool false)/\Fin U h0 sv fo ar ap lv q c h P (.er p e) s):=by
 have hr:=H.hr;have hp:=H.hp;have a1:=H.r;have a2:=H.p;have a3:=H.ne;have a4:ap≠ar:=λe=>H.ne e.symm;have a5:ar≠c:=zy;have a6:ap≠c:=zy;have a7:ar≠c+1:=zy;have a8:ap≠c+1:=zy;have hlen:=hl.len.1;have e0:=I5 lv.a l.length lv.e;rw[b8G];cases hi:l[R.i]? with
  |none=>
   obtain⟨z,y,o1,o2,hm⟩:=T6 (m+3) H hl hi;have hlt:l.length<=R.i:=zi;have d1:decide (R.i<l.length)=false:=zZ;have eS:D9 fd l q R.i=.er q 4:=by unfold D9;rw[hi]
   simp(disch:=try exact dz)only[b0b,hm,hr,hp,z8,w7,U3,a1h,J3,U9,hlen,e0,P5,d1,↓gP,gY,gT];refine d8.done ?_;refine Or.inr ⟨_,_,eS,rfl,zc,λi hi h1 h2=>?_,R,H.setP zc (λi hi hp=>?_) ?_,λR1 e=>zn⟩;simp(disch:=first|assumption|omega)only[c9];simp(disch:=first|assumption|omega)only[c9];simp(disch:=first|assumption|omega)only[d9,w7,Rs.P]|some n=>obtain⟨z,y,o1,o2,nl,hn,hT,hm⟩:=T7 (m+3) H hl hi;have hlt:R.i<l.length:=(xQ.1 hi).1;have d1:decide (R.i<l.length)=true:=zY;have hinc:=B8 R.i xw;cases q1:M2 n.k n.t with|false=>have eS:D9 fd l q R.i=.er n.p 4:=yQ;obtain⟨b,p,g,cs,cur,ro,nl',hb,hg,_,_,e1,e2,e3,e4,e5,e6⟩:=hl.get hi;obtain⟨u1,u2,u3,u4⟩:=H.u b hb;have hg':=u4.trans hg;rw[hlen]at e1;have b1:b≠c:=zy;have b2:b≠c+1:=zy;simp(disch:=try exact dz)only[b0b,hm,Y7,q1,hr,hp,z8,w7,U3,a1h,J3,U9,hlen,e0,P5,d1,e1,e4,hg',↓gP,gY,gT];refine d8.done ?_;refine Or.inr ⟨_,_,eS,rfl,zc,λi hi h1 h2=>?_,R,H.setP zc (λi hi hp=>?_) ?_,λR1 e=>zn⟩;simp(disch:=first|assumption|omega)only[c9];simp(disch:=first|assumption|omega)only[c9];simp(disch:=first|assumption|omega)only[d9,w7,Rs.P]|true=>simp(disch:=try exact dz)only[b0b,hm,Y7,q1,↓gP,gY,gT];refine d8.bindC (b8F E (m+1) hk (H.to ?_ λi hi=>?_) n nl hT _ _) λx s hq=>?_;omega;simp(disch:=first|assumption|omega)only[c9];obtain⟨c',h',r',w'⟩:=s;obtain⟨hc,hs,⟨q2,rfl,H'⟩|⟨q2,rfl,H'⟩⟩:=hq;have eS:D9 fd l q R.i=.ok (fd n.t).1:=ym;have hr':=H'.hr;simp only at hc hs hr';have c1:=H'.r;simp only at c1;simp(disch:=try exact dz)only[hr',z8,hinc,↓gP,gY];refine d8.done ?_;refine Or.inl ⟨_,eS,rfl,zc,λi hi h1 h2=>?_,_,H'.setR (xR _) (λi hi hp=>?_) ?_,λR1 e=>zj⟩;have:=hs i zy h2;simp(disch:=first|assumption|omega)only[c9]at this⊢;exact this;simp(disch:=first|assumption|omega)only[c9];simp(disch:=first|assumption|omega)only[d9,z8];have eS:D9 fd l q R.i=.er n.p (fd n.t).2:=yn;have hr':=H'.hr;simp only at hc hs hr';have c1:=H'.r;simp only at c1;simp(disch:=try exact dz)only[hr',z8,hinc,↓gP,gY];refine d8.done ?_;refine Or.inr ⟨_,_,eS,rfl,zc,λi hi h1 h2=>?_,{R with i:=R.i+1,B:=0},H'.setR (xR _) (λi hi hp=>?_) ?_,λR1 e=>zn⟩;have:=hs i zy h2;simp(disch:=first|assumption|omega)only[c9]at this⊢;exact this;simp(disch:=first|assumption|omega)only[c9];simp(disch:=first|assumption|omega)only[d9,z8]
end
end Go.Proofs.YtmomonnlmbljoaaGreatDoor
end
