import Derived.Test.YtmomonnlmbljoaaGreatDoorBak
import Derived.Test.YtmomonnlmbljoaaGreatDoorBbg
import Derived.Test.YtmomonnlmbljoaaGreatDoorBbr
set_option maxRecDepth 1000000
set_option maxHeartbeats 4000000
set_option linter.unusedVariables false
set_option linter.unusedSimpArgs false
section
namespace Go.Proofs.YtmomonnlmbljoaaGreatDoor
open Go.V Go.RowKit Go.Shelf Go.Proofs
variable {mL:Int}
theorem d4I (op):S.Y6 (.ofNat op)=M8 op:=by show(match R4 (.ofNat op) N8 with|some r=>r.2.1|none=>[])=_;rfl
theorem c2G {z}(h:I1 z=true):∃op,z=.ofNat op/\E9 z<=20/\(E9 z=6->op=28)/\(E9 z=17->(Z8 a0K z).isSome=true):=by
 have hall:J2 (λr:a3V=>Nat.ble r.2.2 20&&((!(Nat.beq r.2.2 6)||Nat.beq r.1 28)&&(!(Nat.beq r.2.2 17)||(Z8 a0K (.ofNat r.1)).isSome))) N8=true:=zw;unfold I1 at h;cases e:R4 z N8 with
  |none=>rw[e]at h;cases h|some r=>
   obtain⟨h1,h2⟩:=a3u _ _ _ e;have h3:=(M4 _ _).1 hall r h1;have e1:E9 z=r.2.2:=by unfold E9;rw[e]
   simp only[wK,sK,tZ]at h3;obtain⟨a1,a2,a3⟩:=h3;refine⟨r.1,h2,by rw[e1];exact vT a1,λh6=>?_,λh17=>?_⟩;rw[e1]at h6;rcases a2 with k|k;rw[h6]at k;cases k;exact wR k;rw[e1]at h17;rcases a3 with k|k;rw[h17]at k;cases k;rw[h2];exact k
theorem b6P {a}(h:S.idxB a=true):∃n,a=.ofNat n/\n<4294967296:=by unfold S.idxB at h;rw[wK]at h;have h1:=vS h.1;have h2:=vS h.2;refine⟨a.toNat,?_,zy⟩;exact(Int.toNat_of_nonneg h1).symm
theorem b1h (n):S.a0v n=(a8c n).flatMap It.b:=by unfold S.a0v a8c;cases Nat.beq n 0 with|true=>rfl|false=>show S.U7 n=_;simp[S.U7,It.b,bcase]
structure PlS (K:Nat) (X:S.Ins):Prop where
 A:∃ n,X.A=.ofNat n∧n<4294967296∧(S.uA K=false→n=0)
 B:∃ n,X.B=.ofNat n∧n<4294967296∧(S.uB K=false→n=0)
 N:S.uN K=false→X.N=0
 N3:K≠19→X.N<4294967296
 b:K≠1→X.k=0∧X.v=0∧X.i=0
 t:K≠6→X.types=[]
 l:K≠3→X.labels=[]
 r:S.a0z K X=true
theorem c0y {K X}(h:S.pK K X=true):PlS K X:=by
 unfold S.pK S.a0f at h;cases h1:S.a2z (S.uA K) (S.uB K) (S.uN K) X with
  |true=>rw[h1]at h;cases h|false=>
   rw[h1,y9]at h;cases h2:S.a2E K X with
    |true=>rw[h2]at h;cases h|false=>
     rw[h2,y9]at h;unfold S.a2z at h1;unfold S.a2E at h2;simp only[sD,Bool.and_eq_false_iff,Bool.not_eq_false',vZ]at h1 h2;obtain⟨⟨⟨⟨a1,a2⟩,a3⟩,a4⟩,a5⟩:=h1;obtain⟨⟨⟨c1,c2⟩,c3⟩,c4⟩:=h2;obtain⟨n,e1,e2⟩:=b6P a4;obtain⟨m,e3,e4⟩:=b6P a5;refine⟨⟨n,e1,e2,λhu=>?_⟩,⟨m,e3,e4,λhu=>?_⟩,λhu=>?_,λhK=>?_,λhK=>?_,λhK=>?_,λhK=>?_,h⟩;rcases a1 with k|k;rw[hu]at k;cases k;rw[e1]at k;exact sZ k;rcases a2 with k|k;rw[hu]at k;cases k;rw[e3]at k;exact sZ k;rcases a3 with k|k;rw[hu]at k;cases k;exact wR k;rcases c1 with k|k;exact absurd (wR k) hK;exact Nat.blt_eq.mp k;rcases c2 with k|k;exact absurd (wR k) hK;unfold S.a3n at k;simpa[and_assoc]using k;rcases c3 with k|k;exact absurd (wR k) hK;have:¬0<X.types.length:=λh=>by rw[Nat.blt_eq.mpr h]at k;cases k
     exact uz.1 zy;rcases c4 with k|k;exact absurd (wR k) hK;have:¬0<X.labels.length:=λh=>by rw[Nat.blt_eq.mpr h]at k;cases k
     exact uz.1 zy
def a1G (Y:AI):S.Ins:=⟨.ofNat Y.op,.ofNat Y.A,.ofNat Y.B,Y.N,.ofNat Y.k,.ofNat Y.v,.ofNat Y.bi,Y.ts.map Int.ofNat,Y.ls.map Int.ofNat⟩
theorem d5q:∀l,S.idxAll l=true->∃ns:List Nat,l=ns.map Int.ofNat/\∀n∈ns,n<4294967296:=by intro l;induction l with|nil=>intro _;exact⟨[],rfl,λn h=>zg⟩|cons x l ih=>intro h;unfold S.idxAll at h;rw[U1,wK]at h;obtain⟨n,e1,e2⟩:=b6P h.1;obtain⟨ns,e3,e4⟩:=ih h.2;exact⟨n::ns,by rw[e1,e3];rfl,λm hm=>by rcases uw.1 hm with k|k;rw[k];exact e2;exact e4 m k⟩
theorem e3U (ls A):D7 (S.b2L (ls.map Int.ofNat|>.map Int.toNat)) (S.U7 A)=((ls++[A]).map λk=>It.w (Lib.decDigits k)).flatMap It.b:=by induction ls with|nil=>show S.U7 A=_;simp[S.U7,It.b]|cons x ls ih=>have e:S.b2L ((x::ls).map Int.ofNat|>.map Int.toNat)=D7 (S.U7 x) (S.b2L (ls.map Int.ofNat|>.map Int.toNat)):=rfl;rw[e,D9,D9,vw,<-D9 (S.b2L _),ih];rfl
theorem f0c {X op}(ho:X.op=.ofNat op)(hi:E9 (.ofNat op)=0)(H:PlS 0 X)(hN:X.N<18446744073709551616):∃Y its,Pl Y its/\Y.op=op/\S.a2r 0 X=its.flatMap It.b/\X=a1G Y:=by obtain⟨o,A,B,N,k,v,bi,ts,ls⟩:=X;obtain⟨⟨a,hA,hA1,hA2⟩,⟨b,hB,hB1,hB2⟩,hN2,hN3,hb,ht,hl,hr⟩:=H;simp only at ho hA hB hN2 hN3 hb ht hl hr hN;subst ho;subst hA;subst hB;obtain⟨rfl,rfl,rfl⟩:=hb zu;obtain rfl:=ht zu;obtain rfl:=hl zu;obtain rfl:=hA2 rfl;obtain rfl:=hB2 rfl;obtain rfl:=hN2 rfl;exact⟨⟨op,0,0,0,0,0,0,[],[]⟩,[],.none hi,rfl,rfl,rfl⟩
theorem e9p {X op}(ho:X.op=.ofNat op)(hi:E9 (.ofNat op)=2)(H:PlS 2 X)(hN:X.N<18446744073709551616):∃Y its,Pl Y its/\Y.op=op/\S.a2r 2 X=its.flatMap It.b/\X=a1G Y:=zG
theorem e9o {X op}(ho:X.op=.ofNat op)(hi:E9 (.ofNat op)=4)(H:PlS 4 X)(hN:X.N<18446744073709551616):∃Y its,Pl Y its/\Y.op=op/\S.a2r 4 X=its.flatMap It.b/\X=a1G Y:=zG
theorem e8R {X op}(ho:X.op=.ofNat op)(hi:E9 (.ofNat op)=7)(H:PlS 7 X)(hN:X.N<18446744073709551616):∃Y its,Pl Y its/\Y.op=op/\S.a2r 7 X=its.flatMap It.b/\X=a1G Y:=zG
theorem e9L {X op}(ho:X.op=.ofNat op)(hi:E9 (.ofNat op)=8)(H:PlS 8 X)(hN:X.N<18446744073709551616):∃Y its,Pl Y its/\Y.op=op/\S.a2r 8 X=its.flatMap It.b/\X=a1G Y:=zG
theorem e3h {X op}(ho:X.op=.ofNat op)(hi:E9 (.ofNat op)=12)(H:PlS 12 X)(hN:X.N<18446744073709551616):∃Y its,Pl Y its/\Y.op=op/\S.a2r 12 X=its.flatMap It.b/\X=a1G Y:=zG
theorem e6A {X op}(ho:X.op=.ofNat op)(hi:E9 (.ofNat op)=16)(H:PlS 16 X)(hN:X.N<18446744073709551616):∃Y its,Pl Y its/\Y.op=op/\S.a2r 16 X=its.flatMap It.b/\X=a1G Y:=zG
theorem f0j {X op}(ho:X.op=.ofNat op)(hi:E9 (.ofNat op)=3)(H:PlS 3 X)(hN:X.N<18446744073709551616):∃Y its,Pl Y its/\Y.op=op/\S.a2r 3 X=its.flatMap It.b/\X=a1G Y:=by obtain⟨o,A,B,N,k,v,bi,ts,ls⟩:=X;obtain⟨⟨a,hA,hA1,hA2⟩,⟨b,hB,hB1,hB2⟩,hN2,hN3,hb,ht,hl,hr⟩:=H;simp only at ho hA hB hN2 hN3 hb ht hl hr hN;subst ho;subst hA;subst hB;obtain⟨rfl,rfl,rfl⟩:=hb zu;obtain rfl:=ht zu;obtain rfl:=hB2 rfl;obtain rfl:=hN2 rfl;obtain⟨ns,rfl,hns⟩:=d5q ls hr;exact⟨⟨op,a,0,0,0,0,0,[],ns⟩,_,.tab hi hA1 hns,rfl,e3U ns a,rfl⟩
theorem e7M {X op}(ho:X.op=.ofNat op)(hi:E9 (.ofNat op)=5)(H:PlS 5 X)(hN:X.N<18446744073709551616):∃Y its,Pl Y its/\Y.op=op/\S.a2r 5 X=its.flatMap It.b/\X=a1G Y:=by obtain⟨o,A,B,N,k,v,bi,ts,ls⟩:=X;obtain⟨⟨a,hA,hA1,hA2⟩,⟨b,hB,hB1,hB2⟩,hN2,hN3,hb,ht,hl,hr⟩:=H;simp only at ho hA hB hN2 hN3 hb ht hl hr hN;subst ho;subst hA;subst hB;obtain⟨rfl,rfl,rfl⟩:=hb zu;obtain rfl:=ht zu;obtain rfl:=hl zu;obtain rfl:=hN2 rfl;refine⟨⟨op,a,b,0,0,0,0,[],[]⟩,_,.ind hi hA1 hB1,rfl,?_,rfl⟩;show D7 (D7 (S.a0v b) [32,40,116,121,112,101]) (D7 (S.U7 a) [41])=_;rw[b1h];simp[D9,S.U7,It.b,tyW]
theorem e9V {X op}(ho:X.op=.ofNat op)(hi:E9 (.ofNat op)=6)(H:PlS 6 X)(hN:X.N<18446744073709551616)(h28:op=28):∃Y its,Pl Y its/\Y.op=op/\S.a2r 6 X=its.flatMap It.b/\X=a1G Y:=by obtain⟨o,A,B,N,k,v,bi,ts,ls⟩:=X;obtain⟨⟨a,hA,hA1,hA2⟩,⟨b,hB,hB1,hB2⟩,hN2,hN3,hb,ht,hl,hr⟩:=H;simp only at ho hA hB hN2 hN3 hb ht hl hr hN;subst ho;subst hA;subst hB;obtain⟨rfl,rfl,rfl⟩:=hb zu;obtain rfl:=hl zu;obtain rfl:=hA2 rfl;obtain rfl:=hB2 rfl;obtain rfl:=hN2 rfl;subst h28;have hr':S.b0G ts=true:=hr;cases ts with|nil=>cases hr'|cons t ts=>cases ts with|cons t' ts=>cases hr'|nil=>have hv:a0X t=true:=hr';unfold a0X at hv;rw[wK]at hv;have v1:=vS hv.1;have v2:=vS hv.2;obtain⟨n,rfl⟩:∃n:Nat,t=.ofNat n:=⟨t.toNat,(Int.toNat_of_nonneg zy).symm⟩;have v3:1<=n:=rY.1 v1;have v4:n<=4:=rY.1 v2;refine⟨⟨28,0,0,0,0,0,0,[n],[]⟩,_,.sel v3 v4,rfl,?_,rfl⟩;have e:∀m:Int,Q9 m=Q9 m:=λm=>rfl;show D7 [32,40,114,101,115,117,108,116,32] (D7 (Q9 (.ofNat n)) [41])=_;rw[e];simp[D9,It.b,reW]
theorem e8i {X op}(ho:X.op=.ofNat op)(hi:E9 (.ofNat op)=9)(H:PlS 9 X)(hN:X.N<18446744073709551616):∃Y its,Pl Y its/\Y.op=op/\S.a2r 9 X=its.flatMap It.b/\X=a1G Y:=by obtain⟨o,A,B,N,k,v,bi,ts,ls⟩:=X;obtain⟨⟨a,hA,hA1,hA2⟩,⟨b,hB,hB1,hB2⟩,hN2,hN3,hb,ht,hl,hr⟩:=H;simp only at ho hA hB hN2 hN3 hb ht hl hr hN;subst ho;subst hA;subst hB;obtain⟨rfl,rfl,rfl⟩:=hb zu;obtain rfl:=ht zu;obtain rfl:=hl zu;obtain rfl:=hB2 rfl;obtain rfl:=hN2 rfl;exact⟨⟨op,a,0,0,0,0,0,[],[]⟩,_,.tbl hi hA1,rfl,b1h a,rfl⟩
theorem e6i {X op}(ho:X.op=.ofNat op)(hi:E9 (.ofNat op)=10)(H:PlS 10 X)(hN:X.N<18446744073709551616):∃Y its,Pl Y its/\Y.op=op/\S.a2r 10 X=its.flatMap It.b/\X=a1G Y:=yw
theorem e4p {X op}(ho:X.op=.ofNat op)(hi:E9 (.ofNat op)=14)(H:PlS 14 X)(hN:X.N<18446744073709551616):∃Y its,Pl Y its/\Y.op=op/\S.a2r 14 X=its.flatMap It.b/\X=a1G Y:=yw
theorem e5E {X op}(ho:X.op=.ofNat op)(hi:E9 (.ofNat op)=11)(H:PlS 11 X)(hN:X.N<18446744073709551616):∃Y its,Pl Y its/\Y.op=op/\S.a2r 11 X=its.flatMap It.b/\X=a1G Y:=yu
theorem e4u {X op}(ho:X.op=.ofNat op)(hi:E9 (.ofNat op)=15)(H:PlS 15 X)(hN:X.N<18446744073709551616):∃Y its,Pl Y its/\Y.op=op/\S.a2r 15 X=its.flatMap It.b/\X=a1G Y:=yu
theorem e3m {X op}(ho:X.op=.ofNat op)(hi:E9 (.ofNat op)=13)(H:PlS 13 X)(hN:X.N<18446744073709551616):∃Y its,Pl Y its/\Y.op=op/\S.a2r 13 X=its.flatMap It.b/\X=a1G Y:=by obtain⟨o,A,B,N,k,v,bi,ts,ls⟩:=X;obtain⟨⟨a,hA,hA1,hA2⟩,⟨b,hB,hB1,hB2⟩,hN2,hN3,hb,ht,hl,hr⟩:=H;simp only at ho hA hB hN2 hN3 hb ht hl hr hN;subst ho;subst hA;subst hB;obtain⟨rfl,rfl,rfl⟩:=hb zu;obtain rfl:=ht zu;obtain rfl:=hl zu;obtain rfl:=hA2 rfl;obtain rfl:=hN2 rfl;exact⟨⟨op,0,b,0,0,0,0,[],[]⟩,_,.mem hi hB1,rfl,b1h b,rfl⟩
theorem e3Z {X op}(ho:X.op=.ofNat op)(hi:E9 (.ofNat op)=17)(H:PlS 17 X)(hN:X.N<18446744073709551616)(hal:(Z8 a0K X.op).isSome=true):∃Y its,Pl Y its/\Y.op=op/\S.a2r 17 X=its.flatMap It.b/\X=a1G Y:=by
 obtain⟨o,A,B,N,k,v,bi,ts,ls⟩:=X;obtain⟨⟨a,hA,hA1,hA2⟩,⟨b,hB,hB1,hB2⟩,hN2,hN3,hb,ht,hl,hr⟩:=H;simp only at ho hA hB hN2 hN3 hb ht hl hr hN;subst ho;subst hA;subst hB;obtain⟨rfl,rfl,rfl⟩:=hb zu;obtain rfl:=ht zu;obtain rfl:=hl zu;have hA6:a<64:=by have h:=vS (show decide (Int.ofNat a<=63)=true from hr);have:Int.ofNat a<=Int.ofNat 63:=h;have:=rY.1 this;omega
 refine⟨⟨op,a,b,N,0,0,0,[],[]⟩,_,.acc hi hA6 hB1 (hN3 zu),rfl,?_,rfl⟩;have e:∀z:Int,Z8 a0K z=Z8 a0K z:=λz=>rfl;show D7 (D7 (S.a0v b) (S.a3t N)) (S.b0t a ((Z8 a0K (.ofNat op)).getD 0))=_;rw[e,b1h];have e1:S.a3t N=(bcase (Nat.beq N 0) [] [It.w (b0i N)]).flatMap It.b:=by unfold S.a3t;cases Nat.beq N 0<;>simp[bcase,It.b,b0i]
 have e2:S.b0t a ((Z8 a0K (.ofNat op)).getD 0)=(bcase (Nat.beq a (a1m op)) [] [It.w (a8Q a)]).flatMap It.b:=by unfold S.b0t a1m;cases Nat.beq a ((Z8 a0K (.ofNat op)).getD 0)<;>simp[bcase,It.b,a8Q]
 rw[e1,e2,D9,D9,uM,uM,vw]
theorem e5j {X op}(ho:X.op=.ofNat op)(hi:E9 (.ofNat op)=18)(H:PlS 18 X)(hN:X.N<18446744073709551616):∃Y its,Pl Y its/\Y.op=op/\S.a2r 18 X=its.flatMap It.b/\X=a1G Y:=by obtain⟨o,A,B,N,k,v,bi,ts,ls⟩:=X;obtain⟨⟨a,hA,hA1,hA2⟩,⟨b,hB,hB1,hB2⟩,hN2,hN3,hb,ht,hl,hr⟩:=H;simp only at ho hA hB hN2 hN3 hb ht hl hr hN;subst ho;subst hA;subst hB;obtain⟨rfl,rfl,rfl⟩:=hb zu;obtain rfl:=ht zu;obtain rfl:=hl zu;obtain rfl:=hA2 rfl;obtain rfl:=hB2 rfl;refine⟨⟨op,0,0,N,0,0,0,[],[]⟩,_,.con (w:=32) hi zu ?_,rfl,?_,rfl⟩;exact hN3 zu;show 32::Lib.itoa (S.sgn 32 N)=_;have e:S.sgn 32 N=b3Q 32 N:=rfl;rw[e];simp[It.b]
theorem e4L {X op}(ho:X.op=.ofNat op)(hi:E9 (.ofNat op)=19)(H:PlS 19 X)(hN:X.N<18446744073709551616):∃Y its,Pl Y its/\Y.op=op/\S.a2r 19 X=its.flatMap It.b/\X=a1G Y:=by obtain⟨o,A,B,N,k,v,bi,ts,ls⟩:=X;obtain⟨⟨a,hA,hA1,hA2⟩,⟨b,hB,hB1,hB2⟩,hN2,hN3,hb,ht,hl,hr⟩:=H;simp only at ho hA hB hN2 hN3 hb ht hl hr hN;subst ho;subst hA;subst hB;obtain⟨rfl,rfl,rfl⟩:=hb zu;obtain rfl:=ht zu;obtain rfl:=hl zu;obtain rfl:=hA2 rfl;obtain rfl:=hB2 rfl;refine⟨⟨op,0,0,N,0,0,0,[],[]⟩,_,.con (w:=64) hi zu ?_,rfl,?_,rfl⟩;exact hN;show 32::Lib.itoa (S.sgn 64 N)=_;have e:S.sgn 64 N=b3Q 64 N:=rfl;rw[e];simp[It.b]
theorem e3N {X op}(ho:X.op=.ofNat op)(hi:E9 (.ofNat op)=20)(H:PlS 20 X)(hN:X.N<18446744073709551616):∃Y its,Pl Y its/\Y.op=op/\S.a2r 20 X=its.flatMap It.b/\X=a1G Y:=by
 obtain⟨o,A,B,N,k,v,bi,ts,ls⟩:=X;obtain⟨⟨a,hA,hA1,hA2⟩,⟨b,hB,hB1,hB2⟩,hN2,hN3,hb,ht,hl,hr⟩:=H;simp only at ho hA hB hN2 hN3 hb ht hl hr hN;subst ho;subst hA;subst hB;obtain⟨rfl,rfl,rfl⟩:=hb zu;obtain rfl:=ht zu;obtain rfl:=hl zu;obtain rfl:=hB2 rfl;obtain rfl:=hN2 rfl;have hA6:a=3\/a=4:=by have h:(decide (Int.ofNat a=3)||decide (Int.ofNat a=4))=true:=hr;rw[sK]at h;rcases h with h|h;exact Or.inl (sZ (vS h));exact Or.inr (sZ (vS h))
 refine⟨⟨op,a,0,0,0,0,0,[],[]⟩,_,.null hi hA6,rfl,?_,rfl⟩;rcases hA6 with rfl|rfl;rfl;rfl
theorem e1i {X}(hp:S.a3m X=true)(hN:X.N<18446744073709551616)(h1:E9 X.op≠1):∃Y its,Pl Y its/\I1 (.ofNat Y.op)=true/\S.a1r X=M8 Y.op++its.flatMap It.b/\X=a1G Y:=by
 unfold S.a3m at hp;cases hk:I1 X.op with
  |false=>rw[hk]at hp;cases hp|true=>
   rw[hk,A9]at hp;obtain⟨op,ho,hle,h6,h17⟩:=c2G hk;have H:=c0y hp;have hl:S.a1r X=M8 op++S.a2r (E9 X.op) X:=by show D7 (S.Y6 X.op) (S.a2r (E9 X.op) X)=_;rw[D9,ho,d4I]
   rw[hl];have hi:E9 (.ofNat op)=E9 X.op:=by rw[ho]
   suffices h:∃Y its,Pl Y its/\Y.op=op/\S.a2r (E9 X.op) X=its.flatMap It.b/\X=a1G Y by obtain⟨Y,its,g1,g2,g3,g4⟩:=h;exact⟨Y,its,g1,by rw[g2,<-ho];exact hk,by rw[g2,g3],g4⟩
   generalize hK:E9 X.op=K at*;have hcase:K=0\/K=2\/K=3\/K=4\/K=5\/K=6\/K=7\/K=8\/K=9\/K=10\/K=11\/K=12\/K=13\/K=14\/K=15\/K=16\/K=17\/K=18\/K=19\/K=20:=zy;rcases hcase with rfl|rfl|rfl|rfl|rfl|rfl|rfl|rfl|rfl|rfl|rfl|rfl|rfl|rfl|rfl|rfl|rfl|rfl|rfl|rfl;exact f0c ho hi H hN;exact e9p ho hi H hN;exact f0j ho hi H hN;exact e9o ho hi H hN;exact e7M ho hi H hN;exact e9V ho hi H hN (h6 rfl);exact e8R ho hi H hN;exact e9L ho hi H hN;exact e8i ho hi H hN;exact e6i ho hi H hN;exact e5E ho hi H hN;exact e3h ho hi H hN;exact e3m ho hi H hN;exact e4p ho hi H hN;exact e4u ho hi H hN;exact e6A ho hi H hN;exact e3Z ho hi H hN (h17 rfl);exact e5j ho hi H hN;exact e4L ho hi H hN;exact e3N ho hi H hN
end Go.Proofs.YtmomonnlmbljoaaGreatDoor
end
section
namespace Go.Proofs.YtmomonnlmbljoaaGreatDoor
open Go.V Go.RowKit Go.Shelf Go.Proofs
variable {mL:Int}
theorem b5E {k v i}(h:S.blkB k v i=true):∃k' v' i' its,k=.ofNat k'/\v=.ofNat v'/\i=.ofNat i'/\Bt k' v' i' its/\(its=[]/\S.a6L k v i=[]/\k=0\/its.flatMap It.b=32::S.a6L k v i/\k≠0):=by
 unfold S.blkB at h;by_cases h0:k=0;subst h0;have h':(decide (v=0)&&decide (i=0))=true:=h;simp only[wK,vZ]at h';obtain⟨rfl,rfl⟩:=h';exact⟨0,0,0,[],rfl,rfl,rfl,.none,Or.inl ⟨rfl,rfl,rfl⟩⟩;rw[wP h0,y9]at h;by_cases h1:k=1;subst h1;have h':(a0X v&&decide (i=0))=true:=h;unfold a0X at h';simp only[wK,vZ]at h';obtain⟨⟨v1,v2⟩,rfl⟩:=h';obtain⟨v,rfl⟩:∃n:Nat,v=.ofNat n:=⟨v.toNat,zm⟩;have u1:1<=v:=rY.1 v1;have u2:v<=4:=rY.1 v2;have hv:a0X (.ofNat v)=true:=by unfold a0X;rw[wL v1,wL v2];rfl
 refine⟨1,v,0,_,rfl,rfl,rfl,.val u1 u2,Or.inr ⟨?_,zu⟩⟩;have e:S.a6L 1 (.ofNat v) 0=40::114::101::115::117::108::116::32::(Q9 (.ofNat v)++[41]):=by show bcase (a0X (.ofNat v)) _ _=_;rw[hv];rfl
 rw[e];show It.b (.l reW _)++[]=_;rw[wH];rfl;rw[wP h1,y9]at h;simp only[wK,vZ]at h;obtain⟨⟨rfl,rfl⟩,hi⟩:=h;obtain⟨u,rfl,hu⟩:=b6P hi;refine⟨2,0,u,_,rfl,rfl,rfl,.idx hu,Or.inr ⟨?_,zu⟩⟩;have e:S.a6L 2 0 (.ofNat u)=40::116::121::112::101::32::(Lib.decDigits u++[41]):=by rw[<-S.d2f u];rfl
 rw[e];show It.b (.l tyW _)++[]=_;rw[wH];rfl
theorem e8c:∀{z},I1 z=true->E9 z=1->∃op,z=.ofNat op/\blkB op=true:=by intro z h h1;have hall:J2 (λr:a3V=>!(Nat.beq r.2.2 1)||blkB r.1) N8=true:=zw;unfold I1 at h;unfold E9 at h1;cases e:R4 z N8 with|none=>rw[e]at h;cases h|some r=>rw[e]at h1;obtain⟨m1,m2⟩:=a3u _ _ _ e;have:=(M4 _ _).1 hall r m1;have h1':r.2.2=1:=h1;rw[h1']at this;exact⟨r.1,m2,this⟩
theorem c4h {X}(hp:S.a3m X=true)(hN:X.N<18446744073709551616):∃x:Row,Ro x/\S.a1r X=rwT x/\X=a1G x.1:=by
 by_cases h1:E9 X.op=1;have hp0:=hp;unfold S.a3m at hp;cases hk:I1 X.op with|false=>rw[hk]at hp;cases hp|true=>rw[hk,A9,h1]at hp;obtain⟨op,ho,hb⟩:=e8c hk h1;have H:=c0y hp;obtain⟨z,A,B,N,k,v,bi,ts,ls⟩:=X;obtain⟨⟨a,hA,hA1,hA2⟩,⟨b,hB,hB1,hB2⟩,hN2,hN3,hb',ht,hl,hr⟩:=H;simp only at ho hA hB hN2 hN3 hb' ht hl hr hN h1 hk;subst ho;subst hA;subst hB;obtain rfl:=ht zu;obtain rfl:=hl zu;obtain rfl:=hA2 rfl;obtain rfl:=hB2 rfl;obtain rfl:=hN2 rfl;have hr':S.blkB k v bi=true:=hr;obtain⟨k',v',i',its,rfl,rfl,rfl,hbt,hs⟩:=b5E hr';refine⟨(⟨op,0,0,0,k',v',i',[],[]⟩,[].map It.w++its),⟨.bl hb hbt (Or.inl rfl),hk⟩,?_,rfl⟩;show D7 (S.Y6 (.ofNat op)) (S.a2r (E9 (.ofNat op)) _)=_;rw[D9,d4I,h1];unfold rwT;show M8 op++bcase (decide (Int.ofNat k'=0)) [] (32::S.a6L _ _ _)=M8 op++its.flatMap It.b;rcases hs with⟨rfl,e,h0⟩|⟨e,h0⟩;rw[wL h0];rfl;rw[wP h0,e];rfl
 obtain⟨Y,its,a1,a2,a3,a4⟩:=e1i hp hN h1;exact⟨(Y,its),⟨.pl a1,a2⟩,a3,a4⟩
namespace S
noncomputable def ind (op:Int)(d:Nat):Nat×Nat:=bcase (decide (op=.ofNat 2)) (d,d+1) (bcase (decide (op=.ofNat 3)) (d,d+1) (bcase (decide (op=.ofNat 4)) (d,d+1) (bcase (decide (op=.ofNat 5)) (d-1,d) (bcase (decide (op=.ofNat 11)) (d-1,d-1) (d,d)))))
noncomputable def pad (n:Nat)(l:List UInt8):List UInt8:=D7 (a1b [32,32] n) l
noncomputable def prT:List Ins->Nat->List (List UInt8)|[],_=>[]|x::t,d=>pad (ind x.op d).1 (a1r x)::prT t (ind x.op d).2
end S
theorem d2H:∀(Xs) (d),(∀X∈Xs,S.a3m X=true/\X.N<18446744073709551616)->∃ps,(∀p∈ps,Ro p.2)/\(∀c,(S.prT Xs d).flatMap (λl=>l++[c])=inT c ps)/\Xs=ps.map λp=>a1G p.2.1:=by intro Xs;induction Xs with|nil=>intro d _;exact⟨[],λp h=>by(cases h),λ_=>rfl,rfl⟩|cons X Xs ih=>intro d hX;obtain⟨ps,h1,h2,h3⟩:=ih (S.ind X.op d).2 λY hY=>hX Y (by simp[hY]);obtain⟨x,r1,r2,r3⟩:=c4h (hX X zq).1 (hX X zq).2;refine⟨((S.ind X.op d).1,x)::ps,?_,λc=>?_,?_⟩;intro p hp;rcases uw.1 hp with rfl|hp;exact r1;exact h1 p hp;show List.flatMap _ (S.pad _ _::S.prT _ _)=_;rw[vU,h2 c];unfold S.pad inT;rw[vU,r2,D9];simp;rw[uy,<-r3,<-h3]
end Go.Proofs.YtmomonnlmbljoaaGreatDoor
end
section
namespace Go.Proofs.YtmomonnlmbljoaaGreatDoor.S
open Go.V Go.RowKit Go.Shelf Go.Proofs
variable {mL:Int}
attribute [local congr] y7 x9 A8 A7 D5 z8 E5
abbrev IR:Type:=Ins×Value×Value
def a4R (x:IR):List Value:=[.int .i64 x.1.op,.int .i64 x.1.A,.int .i64 x.1.B,.int .u64 (.ofNat x.1.N),.int .i64 x.1.k,.int .i64 x.1.v,.int .i64 x.1.i,x.2.1,x.2.2]
structure InsL (c:Nat) (h:Trie VObj) (v:Value) (Xs:List IR):Prop where
 sl:∃ a e,v=.slice a Xs.length e∧(Xs=[]∨∃ b o g cs cur ro,a=some ⟨b,o,some g⟩∧e=9∧b<c∧h.get b=some (.cells cs cur ro)∧∀ i x,Xs[i]?=some x→y8 g (H9 cs (o+i * 9)) 9=some (a4R x))
 each:∀ x∈Xs,K8 c h x.2.1 (M0 x.1.types)∧K8 c h x.2.2 (M0 x.1.labels)
theorem InsL.len {c h v Xs}(H:InsL c h v Xs):b6c v=M.pure (.int .i64 (.ofNat Xs.length)):=by obtain⟨a,e,rfl,_⟩:=H.sl;exact S9 _ _ _
theorem InsL.mono {c c' h h' v Xs}(H:InsL c h v Xs)(hc:c<=c')(hh:∀b,b<c->h'.get b=h.get b):InsL c' h' v Xs:=by obtain⟨⟨a,e,rfl,hor⟩,each⟩:=H;refine⟨⟨a,e,rfl,?_⟩,λx hx=>⟨(each x hx).1.mono hc hh,(each x hx).2.mono hc hh⟩⟩;rcases hor with h0|⟨b,o,g,cs,cur,ro,h1,h2,h3,h4,h5⟩;exact Or.inl h0;exact Or.inr ⟨b,o,g,cs,cur,ro,h1,h2,zy,by rw[hh b h3];exact h4,h5⟩
theorem b9G {γ c b o g n}{h:Trie VObj}{cs cur ro vs}(hb:b<c)(h1:h.get b=some (.cells cs cur ro))(h2:y8 g (H9 cs o) n=some vs)(k:List Value->Option γ):ldS (Nat.blt b c) (h.get b) o g n k=k vs:=by rw[I7 hb,h1,a0h,h2];rfl
theorem InsL.read {c c' h h' v Xs}(H:InsL c h v Xs)(hc:c<=c')(hh:∀b,b<c->h'.get b=h.get b){i x}(hx:Xs[i]?=some x):∃b p p0 p7 p8,b<c/\a7i 9 v (.int .i64 (.ofNat i))=M.pure p/\xFA 0 p=M.pure p0/\xFA 7 p=M.pure p7/\xFA 8 p=M.pure p8/\(∀r w,go (b3f 9 p) ⟨c',h',r,w⟩=some (D6 x.1 x.2.1 x.2.2,⟨c',h',b::r,w⟩))/\(∀r w,go (a9j p0) ⟨c',h',r,w⟩=some (.int .i64 x.1.op,⟨c',h',b::r,w⟩))/\(∀r w,go (a9j p7) ⟨c',h',r,w⟩=some (x.2.1,⟨c',h',b::r,w⟩))/\(∀r w,go (a9j p8) ⟨c',h',r,w⟩=some (x.2.2,⟨c',h',b::r,w⟩)):=by
 obtain⟨⟨a,e,rfl,hor⟩,each⟩:=H;have hi:i<Xs.length:=(wM.1 hx).1;rcases hor with rfl|⟨b,o,g,cs,cur,ro,rfl,rfl,h1,h2,h3⟩;cases hx;have ht:=h3 i x hx;have hg:=hh b h1;have hb:b<c':=zy;have one:∀(j:Nat) (y:Value),(a4R x)[j]?=some y->y8 g (H9 cs (o+i*9+j)) 1=some [y]:=by intro j y hy;rw[a5a];exact a2I ht j y hy
 refine⟨b,.pointer (some ⟨b,o+i*9,some g⟩),.pointer (some ⟨b,o+i*9+0,some g⟩),.pointer (some ⟨b,o+i*9+7,some g⟩),.pointer (some ⟨b,o+i*9+8,some g⟩),h1,a1C 9 i Xs.length .i64 b o (some g) hi zu,a5M _ _ _ _,a5M _ _ _ _,a5M _ _ _ _,λr w=>?_,λr w=>?_,λr w=>?_,λr w=>?_⟩;rw[a7D,b9G hb (hg.trans h2) ht];rfl;rw[a3f,b9G hb (hg.trans h2) (one 0 _ rfl)];rfl;rw[a3f,b9G hb (hg.trans h2) (one 7 _ rfl)];rfl;rw[a3f,b9G hb (hg.trans h2) (one 8 _ rfl)];rfl
def b6Z (x:IR):Bool:=!(Nat.blt 20 x.1.labels.length)&& !(Nat.blt 20 x.1.types.length)
noncomputable def b1a (Xs:List IR):Bool:=J2 b6Z Xs
theorem c9i (x t):b1a (x::t)=(b6Z x&&b1a t):=U1 _ _ _
theorem d3a (N call c h v Xs)(H:InsL c h v Xs)(hl:Xs.length<4294967296):∀(t) (i k) (g0 g1 g2 g3 g4 g5 g6 g7 g8 g9 g10 g11 g12 g13 g14 g15 g16 g17 g18 g19 g21 g22) (r w),Xs.drop i=t->t.length<k->l9 (go (U4 (d4h o9 N call v) k [g0,g1,g2,g3,g4,g5,g6,g7,g8,g9,g10,g11,g12,g13,g14,g15,g16,g17,g18,g19,.bool false,g21,g22,.int .i64 (.ofNat i)]) ⟨c,h,r,w⟩) λx s=>s.c=c/\s.h=h/\((b1a t=true/\x.1=.exit 0)\/(b1a t=false/\x.1=.ret/\C9 x.2 20=.bool false)):=by
 intro t;have hlen:=H.len;induction t with
  |nil=>
   intro i k g0 g1 g2 g3 g4 g5 g6 g7 g8 g9 g10 g11 g12 g13 g14 g15 g16 g17 g18 g19 g21 g22 r w hd hk;obtain⟨k,rfl⟩:∃m,k=m+1:=⟨k-1,zU⟩;have hi:Nat.blt i Xs.length=false:=by have:Xs.length<=i:=yl;cases q:Nat.blt i Xs.length with|false=>rfl|true=>have:i<Xs.length:=yH;omega
   simp(maxSteps:=9999999) (disch:=try exact dx)only[Y8,b3k,hlen,a2A,hi,O0,R6,J3,Z9,y9,V6,X5,J5,a1y,V.e7v,F7,I8];exact l9.done ⟨rfl,rfl,Or.inl ⟨rfl,rfl⟩⟩|cons x t ih=>
   intro i k g0 g1 g2 g3 g4 g5 g6 g7 g8 g9 g10 g11 g12 g13 g14 g15 g16 g17 g18 g19 g21 g22 r w hd hk;obtain⟨k,rfl⟩:∃m,k=m+1:=⟨k-1,zU⟩;have hil:i<Xs.length:=zJ;have hi:Nat.blt i Xs.length=true:=I7 hil;have hq:Xs[i]?=some x:=zF;have hd':Xs.drop (i+1)=t:=zI;have hinc:=J6 i zy;obtain⟨b,p,p0,p7,p8,_,e1,e2,e3,e4,e5,e6,e7,e8⟩:=H.read (wQ c) (λ_ _=>rfl) hq;obtain⟨Ht,Hl⟩:=H.each x (vP hq);have ht:=Ht.len;have hll:=Hl.len;rw[wF]at ht hll;have e:b1a (x::t)=(b6Z x&&b1a t):=c9i x t;have eb:b6Z x=(!(Nat.blt 20 x.1.labels.length)&& !(Nat.blt 20 x.1.types.length)):=rfl;cases q1:Nat.blt 20 x.1.labels.length with
    |true=>rw[q1]at eb;simp(maxSteps:=9999999) (disch:=try exact dx)only[gD,Y8,b3k,hlen,a2A,e1,e4,e8,hll,q1,hinc,H7,P6,a2k,F7,K3,I8];exact l9.done ⟨rfl,rfl,Or.inr ⟨by rw[e,eb];rfl,rfl,rfl⟩⟩|false=>
     cases q2:Nat.blt 20 x.1.types.length with
      |true=>rw[q1,q2]at eb;simp(maxSteps:=9999999) (disch:=try exact dx)only[gD,Y8,b3k,hlen,a2A,e1,e3,e4,e7,e8,ht,hll,q1,q2,hinc,H7,O3,a2k,F7,K3,I8];exact l9.done ⟨rfl,rfl,Or.inr ⟨by rw[e,eb];rfl,rfl,rfl⟩⟩|false=>
       rw[q1,q2]at eb;simp(maxSteps:=9999999) (disch:=try exact dx)only[gD,Y8,b3k,hlen,a2A,e1,e3,e4,e7,e8,ht,hll,q1,q2,hinc,H7,O3,F7,K3,I8];have e':b1a (x::t)=b1a t:=by rw[e,eb];rfl
       rw[e'];exact ih (i+1) k _ _ _ _ _ _ _ _ _ _ _ _ _ _ _ _ _ _ _ _ _ _ _ _ hd' zU
noncomputable def c5n (Xs:List IR):Bool:=!(Nat.blt 60 Xs.length)&&b1a Xs
theorem t10 (N)(hN:100<N)(call c h v Xs)(H:InsL c h v Xs)(r w):l9 (go (c2O o9 N call v) ⟨c,h,r,w⟩) λx s=>x=.ret (.bool (c5n Xs))/\s.c=c/\s.h=h:=by
 have hlen:=H.len;have e:c5n Xs=(!(Nat.blt 60 Xs.length)&&b1a Xs):=rfl;cases q:Nat.blt 60 Xs.length with
  |true=>simp(maxSteps:=9999999) (disch:=try exact dx)only[d8o,hlen,a2A,q,O0,R6,a5q,Z9,A9,J5,V.e7v,K3];exact l9.done ⟨by rw[e,q];rfl,rfl,rfl⟩|false=>
   have hl:Xs.length<=60:=by rcases ui 60 Xs.length with p|p;rw[I7 p]at q;cases q;exact p
   simp(maxSteps:=9999999) (disch:=try exact dx)only[d8o,hlen,a2A,q,O0,R6,a5q,J8,y9,J5,V.e7v,K3];refine l9.bindS (d3a N call c h v Xs H zy Xs 0 N _ _ _ _ _ _ _ _ _ _ _ _ _ _ _ _ _ _ _ _ _ _ r w rfl zy) λx s hq=>?_;obtain⟨x1,x2⟩:=x;obtain⟨c',h',r',w'⟩:=s;obtain⟨rfl,rfl,⟨e1,rfl⟩|⟨e1,rfl,e2⟩⟩:=hq;simp(maxSteps:=9999999) (disch:=try exact dx)only[Z9,a9U,a2p,a1y];exact l9.done ⟨by rw[e,q,e1];rfl,rfl,rfl⟩;simp only at e2;simp(maxSteps:=9999999) (disch:=try exact dx)only[Z9,a2k,e2];exact l9.done ⟨by rw[e,q,e1];rfl,rfl,rfl⟩
end Go.Proofs.YtmomonnlmbljoaaGreatDoor.S
end
section
namespace Go.Proofs.YtmomonnlmbljoaaGreatDoor.S
open Go.V Go.RowKit Go.Shelf Go.Proofs
variable {mL:Int}
theorem a2d {b}{x y:List UInt8}{n}(h1:b=true->x8 x<=n)(h2:b=false->x8 y<=n):x8 (bcase b x y)<=n:=by cases b with|true=>exact h1 rfl|false=>exact h2 rfl
theorem c9B (n):x8 ([]:List UInt8)<=n:=vC _
theorem d6d {X}(h:a3m X=true):I1 X.op=true/\PlainF (E9 X.op) X:=by unfold a3m at h;cases hk:I1 X.op with|true=>rw[hk]at h;exact⟨rfl,c9X h⟩|false=>rw[hk]at h;cases h
theorem d5P {K:Nat}{X}(h:Nat.beq K 17=true)(hr:a0z K X=true):X.A<=63:=by obtain rfl:=wR h;have h':decide (X.A<=63)=true:=hr;simpa using h'
theorem e2a {K:Nat}{X}(h:Nat.beq K 1=true)(hr:a0z K X=true):blkB X.k X.v X.i=true:=by obtain rfl:=wR h;exact hr
theorem d8U {K:Nat}{X}(h:Nat.beq K 3=true)(hr:a0z K X=true):idxAll X.labels=true:=by obtain rfl:=wR h;exact hr
theorem d9z {K:Nat}(h:Nat.beq K 18=true):K.beq 19=false:=by obtain rfl:=wR h;rfl
theorem c4s (m)(hm:m<4294967296):x8 (U7 m)<=11:=by rw[F9];have:=c4G 9 m zy;simp[U7];omega
theorem c8P (l)(h:∀m∈l,m<4294967296):x8 (b2L l)<=11*l.length:=by induction l with|nil=>exact wQ _|cons m l ih=>rw[b2V,X3,wI];have h1:=c4s m (h m um);have h2:=ih (λx hx=>h x (vI _ hx));omega
theorem e8M (X)(hp:a3m X=true)(hN:X.N<18446744073709551616)(hl:X.labels.length<=20):x8 (a1r X)<=260:=by
 obtain⟨_,F⟩:=d6d hp;obtain⟨a,hA,ha⟩:=M7 F.A;obtain⟨b,hB,hb⟩:=M7 F.B;have e1:X.A.toNat=a:=by rw[hA];rfl
 have e2:X.B.toNat=b:=by rw[hB];rfl
 have n1:=Y2 X.op;have sa:=a7G a zy;have la:=b8u a zy;have lb:=b8u b zy;have bo:=c8f a b zy zy;have of':=d2X X.N hN;have vn:=a8T (X.types.headD 0);have hs:x8 (a2r (E9 X.op) X)<=240:=by unfold a2r;rw[e1,e2];refine a2d (λq=>a2d (λ_=>c9B _) λ_=>?_) λq1=>?_;obtain⟨i1,i2⟩:=c8K (e2a q F.rest);have:=c2g X.k X.v X.i i1 i2;rw[X8];omega;refine a2d (λ_=>zy) λ_=>?_;refine a2d (λq=>?_) λq3=>?_;have sa10:=c4s a ha;have:=c8P (X.labels.map Int.toNat) (b6j (d8U q F.rest)).2;rw[wF]at this;rw[X3];omega;refine a2d (λ_=>?_) λ_=>?_;simp only[X3,X8,a2a];omega;refine a2d (λ_=>?_) λ_=>?_;simp only[X3,X8,a2a];omega;refine a2d (λ_=>zy) λ_=>?_;refine a2d (λ_=>zy) λ_=>?_;refine a2d (λ_=>by rw[X3];omega) λ_=>?_;refine a2d (λ_=>zy) λ_=>?_;refine a2d (λq=>?_) λ_=>?_;have h63:=d5P q F.rest;rw[hA]at h63;have:=d2v a ((Z8 a0K X.op).getD 0) (by simp only[vz]at h63;omega);rw[X3,X3];omega;refine a2d (λq=>?_) λ_=>?_;have h32:=F.N (d9z q);have:=a8r (sgn 32 X.N) (b5n _ h32) (by have:=b5e _ h32;omega);rw[X8];omega;refine a2d (λq=>?_) λ_=>?_;have:=a8r (sgn 64 X.N) ym ym;rw[X8];omega;exact a2d (λ_=>a2d (λ_=>zu) λ_=>zu) λ_=>c9B _
 unfold a1r;rw[X3];omega
theorem f0p {Xs}(h:c5n Xs=true):Xs.length<=60/\∀x∈Xs,x.1.labels.length<=20/\x.1.types.length<=20:=by unfold c5n at h;rw[wK]at h;refine⟨?_,λx hx=>?_⟩;rcases ui 60 Xs.length with p|p;rw[I7 p]at h;cases h.1;exact p;have hb:b6Z x=true:=(M4 _ _).1 h.2 x hx;unfold b6Z at hb;rw[wK]at hb;refine⟨?_,?_⟩;rcases ui 20 x.1.labels.length with p|p;rw[I7 p]at hb;cases hb.1;omega;rcases ui 20 x.1.types.length with p|p;rw[I7 p]at hb;cases hb.2;omega
end Go.Proofs.YtmomonnlmbljoaaGreatDoor.S
end
section
namespace Go.Proofs.YtmomonnlmbljoaaGreatDoor
open Go.V Go.RowKit Go.Shelf Go.Proofs
variable {mL:Int}
attribute [local congr] y7 x9 A8 A7 D5 z8 E5 G8 G7
theorem l9.fr {α}{m:M α}(hf:Fr m){c h P}(H:l9 (go m ⟨c,h,[],[]⟩) P):l9 (go m ⟨c,h,[],[]⟩) λa s=>P a s/\(∀i∈s.r,i<s.c)/\∀i∈s.w,i<s.c:=by obtain⟨a,s,e,p⟩:=H;obtain⟨dr,dw,e1,e2,e3,e4,e5,_⟩:=hf _ _ _ e;exact⟨a,s,e,p,λi hi=>e4 i (by rw[e1]at hi;simpa using hi),λi hi=>e5 i (by rw[e2]at hi;simpa using hi)⟩
theorem d5h (l:List S.IR):(l.flatMap S.a4R).length=l.length*9:=by induction l with|nil=>rfl|cons x l ih=>rw[vU,wG,ih,wI];show 9+_=_;omega
def Sv (c:Nat)(h:Trie VObj)(x:S.IR):Prop:=K8 c h x.2.1 (S.M0 x.1.types)/\K8 c h x.2.2 (S.M0 x.1.labels)
theorem Sv.mono {c c' h h' x}(H:Sv c h x)(hc:c<=c')(hh:∀b,b<c->h'.get b=h.get b):Sv c' h' x:=⟨H.1.mono hc hh,H.2.mono hc hh⟩
theorem e1w {c h}(l:List S.IR)(hx:∀x∈l,Sv c h x):J2 O4 (l.flatMap S.a4R)=true:=by rw[M4];intro y hy;obtain⟨x,hm,hy⟩:=List.mem_flatMap.1 hy;obtain⟨h1,h2⟩:=hx x hm;unfold S.a4R at hy;simp only[uw,ny,or_false]at hy;rcases hy with rfl|rfl|rfl|rfl|rfl|rfl|rfl|rfl|rfl;all_goals first|rfl|exact h1.one|exact h2.one
theorem c4i {c h u Xs}(H:X4 9 c h u (Xs.flatMap S.a4R))(hx:∀x∈Xs,Sv c h x):S.InsL c h (.slice u.a u.n u.e) Xs:=by obtain⟨h1,h2⟩:=H;rw[d5h]at h1;have hn:u.n=Xs.length:=zy;refine⟨⟨u.a,u.e,by rw[hn],?_⟩,hx⟩;rcases h2 with rfl|⟨ab,g,cs,e1,e2,e3,e4,e5,e6⟩;exact Or.inl (uz.1 hn.symm);refine Or.inr ⟨ab,0,g,cs,g,false,e1,e2,e3,e4,λi x hi=>?_⟩;obtain⟨f1,f2⟩:=b2p S.a4R 9 (λ_=>rfl) Xs i x hi;rw[vV,b5x cs _ (i*9) 9 _ e6 f2,f1]
theorem e5K (n a):o8 D8 (n+1) 10 [a]=c2O o9 NN (o8 D8 n) a:=Z5 (q:=c2O) (N:=NN) zw n a
theorem t10 {c h v Xs}(H:S.InsL c h v Xs)(n r w):l9 (go (o8 D8 (n+1) 10 [v]) ⟨c,h,r,w⟩) λx s=>x=.ret (.bool (S.c5n Xs))/\s.c=c/\s.h=h:=by rw[e5K];exact S.t10 NN zu _ c h v Xs H r w
theorem b3w (n r w c h):go (o8 D8 (n+1) 11 []) ⟨c,h,r,w⟩=some (.ret (.bool true),⟨c,h,r,w⟩):=by rw[V8 D8 n 11 [] (g:=S.alX) zw rfl];rfl
theorem e5v (n a b):o8 D8 (n+1) 62 [a,b]=c7P o9 NN (o8 D8 n) a b:=a2h (q:=c7P) (N:=NN) zw n a b
theorem e3E (n a b):o8 D8 (n+1) 22 [a,b]=c6W o9 NN (o8 D8 n) a b:=a2h (q:=c6W) (N:=NN) zw n a b
theorem e9T {c c1 b1 b2 h hh X tv lv tw lw}(H1:Sv c h (X,tv,lv))(H2:Sv c h (X,tw,lw))(hc:c<=c1)(g3:∀i,i<c->hh.get i=h.get i)(k1:Nat.blt b1 c1=true)(k2:Nat.blt b2 c1=true)(g1:hh.get b1=some (.cells [(.int .i64 X.op,0),(.int .i64 X.A,0),(.int .i64 X.B,0),(.int .u64 (.ofNat X.N),0),(.int .i64 X.k,0),(.int .i64 X.v,0),(.int .i64 X.i,0),(tv,0),(lv,0)] 0 false))(g2:hh.get b2=some (.cells [(.int .i64 X.op,0),(.int .i64 X.A,0),(.int .i64 X.B,0),(.int .u64 (.ofNat X.N),0),(.int .i64 X.k,0),(.int .i64 X.v,0),(.int .i64 X.i,0),(tw,0),(lw,0)] 0 false))(hl:X.types.length<900000)(M):∀(k e i) (xs) (r w),X.types.length=i+k->C9 xs 19=.int .i64 (.ofNat i)->l9 (go (U4 (d4k o9 NN (o8 D8 M) (.pointer (some ⟨b1,0,some 0⟩)) (.pointer (some ⟨b2,0,some 0⟩))) (k+1+e) xs) ⟨c1,hh,r,w⟩) λy s=>∃xs',y=(.exit 0,xs')/\s.c=c1/\s.h=hh/\s.w=w:=by
 have hlen:=H1.1.len;have hlI:(S.M0 X.types).length=X.types.length:=by unfold S.M0;rw[wF]
 simp only[hlI]at hlen;intro k;induction k with|zero=>intro e i xs r w hk h1;rw[vY 0 1 e,Y5];have e0:decide (i<X.types.length)=false:=wP zy;simp(disch:=try exact dz)only[c6g,h1,dL,e0,g1,k1,hlen,↓gP,gY];exact l9.done ⟨_,rfl,rfl,rfl,rfl⟩|succ k ih=>intro e i xs r w hk h1;rw[vY (k+1) 1 e,Y5];have hlt:i<X.types.length:=zy;have hget:(S.M0 X.types)[i]?=some (.int .i64 (X.types[i])):=wX;obtain⟨p1,o1,q1,q2,q3⟩:=H1.1.read hc g3 hget;obtain⟨p2,o2,q4,q5,q6⟩:=H2.1.read hc g3 hget;have e0:decide (i<X.types.length)=true:=wL hlt;have hinc:=J6 i zy;simp only at q2 q5;simp(disch:=try exact dz)only[c6g,G62,h1,dL,e0,g1,g2,k1,k2,hlen,q2,q3,q5,q6,hinc,↓gP,gY,gT];exact ih e (i+1) _ _ _ zy rfl
theorem e7K {c c1 b1 b2 h hh X tv lv tw lw}(H1:Sv c h (X,tv,lv))(H2:Sv c h (X,tw,lw))(hc:c<=c1)(g3:∀i,i<c->hh.get i=h.get i)(k1:Nat.blt b1 c1=true)(k2:Nat.blt b2 c1=true)(g1:hh.get b1=some (.cells [(.int .i64 X.op,0),(.int .i64 X.A,0),(.int .i64 X.B,0),(.int .u64 (.ofNat X.N),0),(.int .i64 X.k,0),(.int .i64 X.v,0),(.int .i64 X.i,0),(tv,0),(lv,0)] 0 false))(g2:hh.get b2=some (.cells [(.int .i64 X.op,0),(.int .i64 X.A,0),(.int .i64 X.B,0),(.int .u64 (.ofNat X.N),0),(.int .i64 X.k,0),(.int .i64 X.v,0),(.int .i64 X.i,0),(tw,0),(lw,0)] 0 false))(hl:X.labels.length<900000)(M):∀(k e i) (xs) (r w),X.labels.length=i+k->C9 xs 19=.int .i64 (.ofNat i)->l9 (go (U4 (d3Q o9 NN (o8 D8 M) (.pointer (some ⟨b1,0,some 0⟩)) (.pointer (some ⟨b2,0,some 0⟩))) (k+1+e) xs) ⟨c1,hh,r,w⟩) λy s=>∃xs',y=(.exit 2,xs')/\s.c=c1/\s.h=hh/\s.w=w:=by
 have hlen:=H1.2.len;have hlI:(S.M0 X.labels).length=X.labels.length:=by unfold S.M0;rw[wF]
 simp only[hlI]at hlen;intro k;induction k with|zero=>intro e i xs r w hk h1;rw[vY 0 1 e,Y5];have e0:decide (i<X.labels.length)=false:=wP zy;simp(disch:=try exact dz)only[c6g,h1,dL,e0,g1,k1,hlen,↓gP,gY];exact l9.done ⟨_,rfl,rfl,rfl,rfl⟩|succ k ih=>intro e i xs r w hk h1;rw[vY (k+1) 1 e,Y5];have hlt:i<X.labels.length:=zy;have hget:(S.M0 X.labels)[i]?=some (.int .i64 (X.labels[i])):=wX;obtain⟨p1,o1,q1,q2,q3⟩:=H1.2.read hc g3 hget;obtain⟨p2,o2,q4,q5,q6⟩:=H2.2.read hc g3 hget;have e0:decide (i<X.labels.length)=true:=wL hlt;have hinc:=J6 i zy;simp only at q2 q5;simp(disch:=try exact dz)only[c6g,G62,h1,dL,e0,g1,g2,k1,k2,hlen,q2,q3,q5,q6,hinc,↓gP,gY,gT];exact ih e (i+1) _ _ _ zy rfl
theorem t62 {c h X tv lv tw lw}(H1:Sv c h (X,tv,lv))(H2:Sv c h (X,tw,lw))(ht:X.types.length<900000)(hl:X.labels.length<900000)(M r w):l9 (go (o8 D8 (M+1) 62 [S.D6 X tv lv,S.D6 X tw lw]) ⟨c,h,r,w⟩) λx s=>x=.ret (.bool true)/\c<=s.c/\(∀i,i<c->s.h.get i=h.get i)/\∀i∈s.w,i∈w\/c<=i:=by
 rw[e5v];have h1c:J2 O4 (S.a4R (X,tv,lv))=true:=by have:=e1w [(X,tv,lv)] (λx hx=>by rw[vW]at hx;subst hx;exact H1);rwa[vU,List.flatMap_nil,wH]at this
 have h2c:J2 O4 (S.a4R (X,tw,lw))=true:=by have:=e1w [(X,tw,lw)] (λx hx=>by rw[vW]at hx;subst hx;exact H2);rwa[vU,List.flatMap_nil,wH]at this
 have hone1:(J2 O4 (S.a4R (X,tv,lv))&& !(a2C (S.a4R (X,tv,lv))))=true:=by rw[h1c];rfl
 have hone2:(J2 O4 (S.a4R (X,tw,lw))&& !(a2C (S.a4R (X,tw,lw))))=true:=by rw[h2c];rfl
 have hb1:∀r w,go (b3t (S.D6 X tv lv)) ⟨c,h,r,w⟩=some (.pointer (some ⟨c,0,some 0⟩),⟨c+1,V.upd h c (.cells (U0 (λv=>(v,0)) (S.a4R (X,tv,lv))) 0 false),r,c::w⟩):=λr w=>a4p c h r w (S.a4R (X,tv,lv)) hone1;obtain⟨hh,hb2,g1,g2,g3⟩:∃hh,(∀r w,go (b3t (S.D6 X tw lw)) ⟨c+1,V.upd h c (.cells (U0 (λv=>(v,0)) (S.a4R (X,tv,lv))) 0 false),r,w⟩=some (.pointer (some ⟨c+1,0,some 0⟩),⟨c+2,hh,r,(c+1)::w⟩))/\hh.get c=some (.cells [(.int .i64 X.op,0),(.int .i64 X.A,0),(.int .i64 X.B,0),(.int .u64 (.ofNat X.N),0),(.int .i64 X.k,0),(.int .i64 X.v,0),(.int .i64 X.i,0),(tv,0),(lv,0)] 0 false)/\hh.get (c+1)=some (.cells [(.int .i64 X.op,0),(.int .i64 X.A,0),(.int .i64 X.B,0),(.int .u64 (.ofNat X.N),0),(.int .i64 X.k,0),(.int .i64 X.v,0),(.int .i64 X.i,0),(tw,0),(lw,0)] 0 false)/\∀i,i<c->hh.get i=h.get i:=⟨_,λr w=>a4p _ _ r w (S.a4R (X,tw,lw)) hone2,(d9 zy).trans (o7 _ _ _),o7 _ _ _,λi hi=>(d9 zy).trans (d9 zy)⟩;have k1:Nat.blt c (c+2)=true:=I7 zy;have k2:Nat.blt (c+1) (c+2)=true:=I7 zy;have e1:=H1.1.len;have e2:=H1.2.len;have e3:=H2.1.len;have e4:=H2.2.len;simp only at e1 e2 e3 e4;simp(disch:=try exact dz)only[G62,hb1,hb2,g1,g2,k1,k2,S.b3M,e1,e2,e3,e4,↓gP,gY,gT];have hNN:900001<=NN:=zu;obtain⟨n1,hn1⟩:∃e,NN=X.types.length+1+e:=⟨NN-(X.types.length+1),zy⟩;obtain⟨n2,hn2⟩:∃e,NN=X.labels.length+1+e:=⟨NN-(X.labels.length+1),zy⟩;have lp1:=λxs r w h1=>e9T H1 H2 (show c<=c+2 by omega) g3 k1 k2 g1 g2 ht M X.types.length n1 0 xs r w zy h1;have lp2:=λxs r w h1=>e7K H1 H2 (show c<=c+2 by omega) g3 k1 k2 g1 g2 hl M X.labels.length n2 0 xs r w zy h1;rw[<-hn1]at lp1;rw[<-hn2]at lp2;refine l9.bindJ (lp1 _ _ _ rfl) λy xs' s hq=>?_;obtain⟨xs1,q1,q2,q3,q4⟩:=hq;cases q1;obtain⟨c',h',r',w'⟩:=s;have q2:c'=c+2:=q2;have q3:h'=hh:=q3;have q4:w'=(c+1)::c::w:=q4;subst q2 q3 q4;simp(disch:=try exact dz)only[a3r,↓gP,gY];refine l9.bindJ (lp2 _ _ _ rfl) λy xs' s hq=>?_;obtain⟨xs1,q1,q2,q3,q4⟩:=hq;cases q1;obtain⟨c',h',r'',w'⟩:=s;have q2:c'=c+2:=q2;have q4:w'=(c+1)::c::w:=q4;subst q2 q4;simp(disch:=try exact dz)only[R5,↓gP,gY];refine l9.done ⟨rfl,zV,λi hi=>?_,λi hi=>?_⟩;rw[q3];exact g3 i hi;rcases uw.1 hi with k|hi;exact Or.inr zy;rcases uw.1 hi with k|hi;exact Or.inr zy;exact Or.inl hi
theorem n22 {c0 h0 v u Zs Ws}(H1:S.InsL c0 h0 v Zs)(H2:S.InsL c0 h0 u Ws)(he:Zs.map (·.1)=Ws.map (·.1))(hz:Zs.length<900000)(hx:∀x∈Zs,x.1.types.length<900000/\x.1.labels.length<900000)(M):∀(k e i c) (h) (xs) (r w),Zs.length=i+k->c0<=c->(∀b,b<c0->h.get b=h0.get b)->C9 xs 17=.int .i64 (.ofNat i)->l9 (go (U4 (d4S o9 NN (o8 D8 (M+1)) v u) (k+1+e) xs) ⟨c,h,r,w⟩) λy s=>∃xs',y=(.exit 0,xs'):=by
 have hlen:=H1.len;intro k;induction k with
  |zero=>intro e i c h xs r w hk hc hh h1;rw[vY 0 1 e,Y5];have e0:decide (i<Zs.length)=false:=wP zy;simp(disch:=try exact dz)only[d9M,h1,dL,e0,hlen,↓gP,gY];exact l9.done ⟨_,rfl⟩|succ k ih=>
   intro e i c h xs r w hk hc hh h1;rw[vY (k+1) 1 e,Y5];have hlt:i<Zs.length:=zy;have hlw:Zs.length=Ws.length:=by have:=wB List.length he;rwa[wF,wF]at this
   obtain⟨z,hzi⟩:∃z,Zs[i]?=some z:=⟨_,wO hlt⟩;obtain⟨y,hyi⟩:∃y,Ws[i]?=some y:=⟨_,wO zy⟩;obtain⟨X,tv,lv⟩:=z;obtain⟨X',tw,lw⟩:=y;have hX:X'=X:=by have h2:=wB (λl=>l[i]?) he;simp only[vM,hzi,hyi]at h2;exact(tX h2).symm
   subst hX;obtain⟨b1,p1,_,_,_,v1,v2,_,_,_,v3,_⟩:=H1.read hc hh hzi;obtain⟨b2,p2,_,_,_,w1,w2,_,_,_,w3,_⟩:=H2.read hc hh hyi;have s1:Sv c h (X',tv,lv):=Sv.mono (H1.each _ (vP hzi)) hc hh;have s2:Sv c h (X',tw,lw):=Sv.mono (H2.each _ (vP hyi)) hc hh;obtain⟨l1,l2⟩:=hx _ (vP hzi);have e0:decide (i<Zs.length)=true:=wL hlt;have hinc:=J6 i zy;simp only at v3 w3;simp(disch:=try exact dz)only[d9M,G22,h1,dL,e0,hlen,v2,v3,w2,w3,hinc,↓gP,gY];refine l9.footS (l9.bindC (t62 s1 s2 l1 l2 M [] []) (λx s hq=>?_) (Q:=λa s=>a=.bool true/\c<=s.c/\∀b,b<c->s.h.get b=h.get b)) λa s hq=>?_;obtain⟨rfl,q1,q2,_⟩:=hq;exact l9.done ⟨rfl,q1,q2⟩;obtain⟨c2,h2,r2,w2⟩:=s;obtain⟨rfl,q1,q2⟩:=hq;have q1:c<=c2:=q1;simp(disch:=try exact dz)only[↓gP,gY,gT];refine ih e (i+1) c2 h2 _ _ _ zy zy (λb hb=>(q2 b zy).trans (hh b hb)) ?_;rfl
theorem t22 {c h v u Zs Ws}(H1:S.InsL c h v Zs)(H2:S.InsL c h u Ws)(he:Zs.map (·.1)=Ws.map (·.1))(hz:Zs.length<900000)(hx:∀x∈Zs,x.1.types.length<900000/\x.1.labels.length<900000)(M r w):l9 (go (o8 D8 (M+1+1) 22 [v,u]) ⟨c,h,r,w⟩) λx s=>x=.ret (.bool true):=by
 rw[e3E];have l1:=H1.len;have l2:=H2.len;have hlw:Ws.length=Zs.length:=by have:=wB List.length he;rw[wF,wF]at this;exact this.symm
 rw[hlw]at l2;have hNN:900001<=NN:=zu;obtain⟨n1,hn1⟩:∃e,NN=Zs.length+1+e:=⟨NN-(Zs.length+1),zy⟩;have lp:=λxs r w h1=>n22 H1 H2 he hz hx M Zs.length n1 0 c h xs r w zy (wQ _) (λ_ _=>rfl) h1;rw[<-hn1]at lp;simp(disch:=try exact dz)only[G22,l1,l2,↓gP,gY,gT];refine l9.bindJ (lp _ _ _ rfl) λy xs' s hq=>?_;obtain⟨xs1,q1⟩:=hq;cases q1;obtain⟨c',h',r',w'⟩:=s;simp(disch:=try exact dz)only[a3r,↓gP,gY];exact l9.done rfl
structure FI (c1 b:Nat) (h1:Trie VObj) (Zs:List S.IR) (i c:Nat) (h:Trie VObj) (u:Sl) (Ws:List S.IR) (ps:List (AI×List It)):Prop where
 cc:c1≤c
 hh:∀ i,i<c1→i≠b→h.get i=h1.get i
 g:X4 9 c h u (Ws.flatMap S.a4R)
 o:∀ i,u.own i→i=b∨c1≤i
 m:∀ x∈Ws,x∈Zs
 e:Ws.map (·.1)=ps.reverse.map fun p=>a1G p.1
 f:∀ p∈ps,Fd p
 t:x8 (d4Q ps)≤270 * i
 l:ps.length≤i
theorem FI.skip {c1 b h1 Zs i c h u Ws ps}(H:FI c1 b h1 Zs i c h u Ws ps):FI c1 b h1 Zs (i+1) c h u Ws ps:=⟨H.cc,H.hh,H.g,H.o,H.m,H.e,H.f,by have:=H.t;omega,by have:=H.l;omega⟩
theorem d8T {X}(hp:S.a3m X=true)(hN:X.N<18446744073709551616):S.c5z X=some (.string ⟨⟨S.a1r X⟩⟩):=by unfold S.c5z;rw[hp,I7 hN];rfl
end Go.Proofs.YtmomonnlmbljoaaGreatDoor
end
