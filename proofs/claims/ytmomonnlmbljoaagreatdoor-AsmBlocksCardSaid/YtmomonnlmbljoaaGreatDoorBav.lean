import Derived.Test.YtmomonnlmbljoaaGreatDoorProg
import Derived.Test.YtmomonnlmbljoaaGreatDoorBak
import Derived.Test.YtmomonnlmbljoaaGreatDoorBau
set_option maxRecDepth 1000000
set_option maxHeartbeats 4000000
set_option linter.unusedVariables false
set_option linter.unusedSimpArgs false
section
namespace Go.Proofs.YtmomonnlmbljoaaGreatDoor
open Go.V Go.RowKit Go.Shelf Go.Proofs
variable {mL:Int}
noncomputable def dgN (z:Nat):Option Nat:=bcase (Nat.ble 48 z&&Nat.ble z 57) (some (z-48)) (bcase (Nat.ble 97 z&&Nat.ble z 102) (some (z-87)) (bcase (Nat.ble 65 z&&Nat.ble z 70) (some (z-55)) none))
noncomputable def dgI (z:Nat):Int:=match dgN z with|some d=>.ofNat d|none=>.negSucc 0
theorem e1J {z d}(h:dgN z=some d):d<16:=by unfold dgN at h;cases h1:Nat.ble 48 z&&Nat.ble z 57 with|true=>rw[h1]at h;simp only[wK,Nat.ble_eq]at h1;cases h;omega|false=>rw[h1]at h;cases h2:Nat.ble 97 z&&Nat.ble z 102 with|true=>rw[h2]at h;simp only[wK,Nat.ble_eq]at h2;cases h;omega|false=>rw[h2]at h;cases h3:Nat.ble 65 z&&Nat.ble z 70 with|true=>rw[h3]at h;simp only[wK,Nat.ble_eq]at h3;cases h;omega|false=>rw[h3]at h;cases h
noncomputable def dig (B:Nat):List UInt8->Nat->Bool->Bool->Option (Nat×Bool×Bool)|[],n,ov,bt=>some (n,ov,bt)|b::l,n,ov,bt=>bcase (decide (b.toNat=95)&&bt) (dig B l n ov false) (match dgN b.toNat with|some d=>bcase (decide (d<B)) (dig B l ((n*B+d)%18446744073709551616) (ov||decide (18446744073709551616<=n*B+d)) true) none|none=>none)
theorem w64 (n)(h:n<18446744073709551616):Q0 .u64 (Int.ofNat n)=Int.ofNat n:=b0l .u64 n h
theorem b5v (n)(h:n<9223372036854775808):Q0 .i64 (Int.ofNat n)=Int.ofNat n:=b0l .i64 n h
theorem b7S (i n)(h:i<n):decide (Int.ofNat i<Int.ofNat n)=true:=by simp only[vZ,vz];omega
theorem b4Z (i n)(h:¬i<n):decide (Int.ofNat i<Int.ofNat n)=false:=by simp only[vX,vz];omega
theorem c0C (i)(h:i<1000000):Q0 .i64 (Int.ofNat i+Int.ofNat 1)=Int.ofNat (i+1):=by have:(Int.ofNat i+Int.ofNat 1)=Int.ofNat (i+1):=rfl;rw[this];exact b5v _ zy
theorem b7z {α:Type}{T:List α}{i b l}(h:T.drop i=b::l):T[i]?=some b/\T.drop (i+1)=l/\i<T.length:=by
 have h1:(T.drop i)[0]?=some b:=by rw[h];rfl
 rw[uT,vB]at h1;refine⟨h1,?_,(wM.1 h1).1⟩;rw[show i+1=i+1 by rfl,<-oq,h];rfl
noncomputable def b1C (bs:List Value):Option Value:=match bs with|[.int .u64 (.ofNat x),.int .u64 (.ofNat y)]=>bcase (Nat.blt x 18446744073709551616&&Nat.blt y 18446744073709551616) (some (.tuple ⟨[.int .u64 (.ofNat (x*y/18446744073709551616)),.int .u64 (.ofNat (x*y%18446744073709551616))]⟩)) none|_=>none
structure MagC (call:J7):Prop where
 dg:∀ b:UInt8,call 162 [.int .u8 (.ofNat b.toNat)]=M.pure (.ret (.int .i64 (dgI b.toNat)))
 mul:∀ x y:Nat,x<18446744073709551616→y<18446744073709551616→call 130 [.int .u64 (.ofNat x),.int .u64 (.ofNat y)]=M.pure (.ret (.tuple ⟨[.int .u64 (.ofNat (x * y / 18446744073709551616)),.int .u64 (.ofNat (x * y % 18446744073709551616))]⟩))
 add:∀ x y:Nat,call 163 [.int .u64 (.ofNat x),.int .u64 (.ofNat y),.int .u64 (.ofNat 0)]=M.pure (.ret (.tuple ⟨[.int .u64 (.ofNat ((x+y) % 18446744073709551616)),.int .u64 (.ofNat ((x+y) / 18446744073709551616))]⟩))
theorem d1k (X d):X/18446744073709551616+(X%18446744073709551616+d)/18446744073709551616=(X+d)/18446744073709551616/\(X%18446744073709551616+d)%18446744073709551616=(X+d)%18446744073709551616:=zy
theorem d5s (Y)(h:Y<18446744073709551616*100):(!(decide (Int.ofNat (Y/18446744073709551616)=Int.ofNat 0)))=decide (18446744073709551616<=Y):=by by_cases q:18446744073709551616<=Y;have h1:¬(Int.ofNat (Y/18446744073709551616)=Int.ofNat 0):=yY;rw[wL q,wP h1];rfl;have h1:Int.ofNat (Y/18446744073709551616)=Int.ofNat 0:=yY;rw[wP q,wL h1];rfl
theorem d2Q (N0:Nat)(call:J7)(C:MagC call)(T:List UInt8)(hT:T.length<1000000)(B:Nat)(hB:B=10\/B=16)(u0 u1 u2 u3 u4 u5 u6 u7 u8 u9:Value):∀(l:List UInt8) (i N n:Nat) (ov bt:Bool) (g0 g1 g2 g3 g4 g5 g6 g7 g8 g9 g10 g11 g12 g13 g14 g15 g16 g17 g18 g19 g20 g21 g22 g23 g24 g25 g26 g27 g28 g29 g30 g31 g32 g33 g34 g35 g36 g37 g38 g39 g40 g41 g42 g43 g44 g45 g46 g47 g48 g49 g51 g54:Value),T.drop i=l->l.length<N->n<18446744073709551616->∃x:Xc×List Value,U4 (c5c o9 N0 call (.int .i64 (.ofNat T.length)) [u0,u1,u2,u3,u4,u5,u6,u7,u8,u9,.int .u64 (.ofNat B),.string ⟨⟨T⟩⟩]) N [g0,g1,g2,g3,g4,g5,g6,g7,g8,g9,g10,g11,g12,g13,g14,g15,g16,g17,g18,g19,g20,g21,g22,g23,g24,g25,g26,g27,g28,g29,g30,g31,g32,g33,g34,g35,g36,g37,g38,g39,g40,g41,g42,g43,g44,g45,g46,g47,g48,g49,.bool ov,g51,.int .u64 (.ofNat n),.bool bt,g54,.int .i64 (.ofNat i)]=M.pure x/\match dig B l n ov bt with|some q=>x.1=.exit 0/\C9 x.2 52=.int .u64 (.ofNat q.1)/\C9 x.2 50=.bool q.2.1/\C9 x.2 53=.bool q.2.2|none=>x.1=.ret/\C9 x.2 23=.int .u64 (.ofNat 0)/\C9 x.2 24=.bool false/\C9 x.2 25=.bool false:=by
 intro l;induction l with
  |nil=>intro i N n ov bt g0 g1 g2 g3 g4 g5 g6 g7 g8 g9 g10 g11 g12 g13 g14 g15 g16 g17 g18 g19 g20 g21 g22 g23 g24 g25 g26 g27 g28 g29 g30 g31 g32 g33 g34 g35 g36 g37 g38 g39 g40 g41 g42 g43 g44 g45 g46 g47 g48 g49 g51 g54 hd hN hn;obtain⟨N,rfl⟩:∃m,N=m+1:=⟨N-1,zy⟩;have hi:¬i<T.length:=yP;have h1:=b4Z i T.length hi;rw[Z4];simp(disch:=first|exact dy|fail)only[a8I,h1,O0,R6,U6,H7,y9,K4,K5,K6,a4I,V6,X5,J5,F6,a1y,V.e7v,F7,I8];exact⟨_,rfl,rfl,rfl,rfl,rfl⟩|cons b l ih=>
   intro i N n ov bt g0 g1 g2 g3 g4 g5 g6 g7 g8 g9 g10 g11 g12 g13 g14 g15 g16 g17 g18 g19 g20 g21 g22 g23 g24 g25 g26 g27 g28 g29 g30 g31 g32 g33 g34 g35 g36 g37 g38 g39 g40 g41 g42 g43 g44 g45 g46 g47 g48 g49 g51 g54 hd hN hn;obtain⟨N,rfl⟩:∃m,N=m+1:=⟨N-1,zy⟩;obtain⟨hb,hd',hi⟩:=b7z hd;have h1:=b7S i T.length hi;have hbT:(⟨⟨T⟩⟩:ByteArray).data.toList[i]?=some b:=hb;have h2:=a1I ⟨⟨T⟩⟩ i b hbT;have hs:=c0C i zy;have hlen:l.length<N:=by simp at hN;omega
   have e95:decide (Int.ofNat b.toNat=Int.ofNat 95)=decide (b.toNat=95):=by by_cases q:b.toNat=95;rw[q];rfl;rw[wP q];simp only[vX,vz];omega
   cases hc:decide (b.toNat=95)&&bt with
    |true=>
     rw[wK]at hc;obtain⟨hc1,rfl⟩:=hc;have hdig:dig B (b::l) n ov true=dig B l n ov false:=by show bcase (decide (b.toNat=95)&&true) _ _=_;rw[hc1];rfl
     rw[hdig];rw[Z4];simp(disch:=first|exact dy|fail)only[a8I,h1,h2,hs,e95,hc1,O0,R6,U6,K7,H7,A9,K4,K5,K6,a4I,V6,X5,P6,J5,F6,V.e7v,Q5,F7,I8];exact ih (i+1) N n ov false _ _ _ _ _ _ _ _ _ _ _ _ _ _ _ _ _ _ _ _ _ _ _ _ _ _ _ _ _ _ _ _ _ _ _ _ _ _ _ _ _ _ _ _ _ _ _ _ _ _ _ _ hd' hlen hn|false=>
     have hdig:dig B (b::l) n ov bt=(match dgN b.toNat with|some d=>bcase (decide (d<B)) (dig B l ((n*B+d)%18446744073709551616) (ov||decide (18446744073709551616<=n*B+d)) true) none|none=>none):=by show bcase (decide (b.toNat=95)&&bt) _ _=_;rw[hc];rfl
     have hpick:a4t (.bool (decide (b.toNat=95))) (bcase (decide (b.toNat=95)) (.bool bt) undef) (.bool false)=M.pure (.bool false):=by rw[a2o,hc]
     have hdg:=C.dg b;cases hq:dgN b.toNat with
      |none=>
       have e1:dgI b.toNat=.negSucc 0:=by unfold dgI;rw[hq]
       rw[e1]at hdg;have e2:decide (Int.negSucc 0<Int.ofNat 0)=true:=rfl;have hd2:dig B (b::l) n ov bt=none:=by rw[hdig,hq]
       rw[hd2,Z4];simp(disch:=first|exact dy|fail)only[a8I,h1,h2,e95,hpick,hdg,e2,O0,R6,U6,I4,K7,H7,A9,y9,K4,K5,K6,a4I,V6,X5,P6,J5,F6,a2k,V.e7v,Q5,F7,a1H,I8,a0S];exact⟨_,rfl,rfl,rfl,rfl,rfl⟩|some d=>
       have hd16:=e1J hq;have e1:dgI b.toNat=.ofNat d:=by unfold dgI;rw[hq]
       rw[e1]at hdg;have e2:decide (Int.ofNat d<Int.ofNat 0)=false:=by simp only[vX,vz];omega
       have e3:Q0 .u64 (Int.ofNat d)=Int.ofNat d:=w64 d zy;cases hdB:decide (d<B)with
        |false=>
         have e4:decide (Int.ofNat B<=Int.ofNat d)=true:=by simp only[vX]at hdB;simp only[vZ,vz];omega
         have hd2:dig B (b::l) n ov bt=none:=by rw[hdig,hq];show bcase (decide (d<B)) _ _=_;rw[hdB];rfl
         rw[hd2,Z4];simp(disch:=first|exact dy|fail)only[a8I,h1,h2,e95,hpick,hdg,e2,e3,e4,O0,R6,U6,I4,K7,H7,A9,y9,K4,K5,K6,a4I,V6,X5,O3,J5,F6,a2k,V.e7v,Q5,F7,a1H,I8,a0S];exact⟨_,rfl,rfl,rfl,rfl,rfl⟩|true=>
         have e4:decide (Int.ofNat B<=Int.ofNat d)=false:=by simp only[vZ]at hdB;simp only[vX,vz];omega
         have hB2:B<18446744073709551616:=zy;have hm:=C.mul n B hn hB2;obtain⟨c1,c2⟩:=d1k (n*B) d;have ha:=C.add (n*B%18446744073709551616) d;rw[c2]at ha;have hX:n*B<=n*16:=Nat.mul_le_mul_left n zy;have hY:n*B+d<18446744073709551616*100:=zy;have hw:Q0 .u64 (Int.ofNat (n*B/18446744073709551616)+Int.ofNat ((n*B%18446744073709551616+d)/18446744073709551616))=Int.ofNat ((n*B+d)/18446744073709551616):=by have:Int.ofNat (n*B/18446744073709551616)+Int.ofNat ((n*B%18446744073709551616+d)/18446744073709551616)=Int.ofNat (n*B/18446744073709551616+(n*B%18446744073709551616+d)/18446744073709551616):=rfl;rw[this,c1];exact w64 _ zy
         have hov:=d5s _ hY;have hd2:dig B (b::l) n ov bt=dig B l ((n*B+d)%18446744073709551616) (ov||decide (18446744073709551616<=n*B+d)) true:=by rw[hdig,hq];show bcase (decide (d<B)) _ _=_;rw[hdB];rfl
         have hpo:a4t (.bool ov) (.bool true) (bcase ov undef (.bool (decide (18446744073709551616<=n*B+d))))=M.pure (.bool (ov||decide (18446744073709551616<=n*B+d))):=a9Z _ _;rw[hd2,Z4];simp(disch:=first|exact dy|fail)only[a8I,h1,h2,hs,e95,hpick,hdg,e2,e3,e4,hm,ha,hw,hov,hpo,O0,R6,U6,I4,K7,H7,A9,y9,K4,K5,K6,a4I,V6,X5,O3,J5,F6,V.e7v,E8,Q5,a4y,F7,a1H,I8,O8,P7,P9,a0S];exact ih (i+1) N ((n*B+d)%18446744073709551616) (ov||decide (18446744073709551616<=n*B+d)) true _ _ _ _ _ _ _ _ _ _ _ _ _ _ _ _ _ _ _ _ _ _ _ _ _ _ _ _ _ _ _ _ _ _ _ _ _ _ _ _ _ _ _ _ _ _ _ _ _ _ _ _ hd' hlen (nP _ zu)
noncomputable def c2p (T:List UInt8):Bool:=decide (Int.ofNat 2<Int.ofNat T.length)&&beqBytes (a0x T 2) [48,120]
noncomputable def a1w (T:List UInt8):Nat×Bool×Bool:=match bcase (c2p T) (dig 16 (H9 T 2) 0 false false) (dig 10 T 0 false false)with|some q=>q|none=>(0,false,false)
noncomputable def a8i (T:List UInt8):Value:=.tuple ⟨[.int .u64 (.ofNat (a1w T).1),.bool (a1w T).2.1,.bool (a1w T).2.2]⟩
theorem c2i (T k n)(h:n<=T.length):a6x (.string ⟨⟨T⟩⟩) none (some (.int k (.ofNat n)))=M.pure (.string ⟨⟨a0x T n⟩⟩):=by
 show a7U ⟨⟨T⟩⟩ _ _=_;unfold a7U;have h':Nat.ble n (x8 T)=true:=by rw[F9];exact a1l h
 have h0:Nat.ble 0 n=true:=a1l (vC _);simp only[a2Z,b0I,E8,h',h0,b1P,P8,Z6,a0i,qb]
theorem a0r (T k n)(h:n<=T.length):a6x (.string ⟨⟨T⟩⟩) (some (.int k (.ofNat n))) none=M.pure (.string ⟨⟨H9 T n⟩⟩):=by
 rw[a7O _ _ _ (by rw[F9];exact h)];have:a0x (H9 T n) (x8 T-n)=H9 T n:=by rw[a2m,a0D,F9];exact sP (by rw[uq];omega)
 show M.pure (Value.string ⟨⟨a0x (H9 T n) (x8 T-n)⟩⟩)=_;rw[this]
theorem f0h (N call)(C:MagC call)(T)(hT:T.length<N)(hT2:T.length<1000000):b9j o9 N call (.string ⟨⟨T⟩⟩)=M.pure (.ret (a8i T)):=by
 have hlenS:∀T:List UInt8,a8d (.string ⟨⟨T⟩⟩)=M.pure (.int .i64 (.ofNat T.length)):=λT=>a3Q _;unfold a8i a1w c2p;have h0:T.drop 0=T:=rfl;cases h1:decide (Int.ofNat 2<Int.ofNat T.length)with
  |false=>simp(disch:=first|exact dy|fail)only[c5N,hlenS,h1,uU,O0,R6,a5q,a0g,M9,K7,y9,V6,X5,O3,J5,F6,V.e7v,K3];obtain⟨x,hx,hm⟩:=d2Q N call C T hT2 10 (Or.inl rfl) _ _ _ _ _ _ _ _ _ _ T 0 N 0 false false _ _ _ _ _ _ _ _ _ _ _ _ _ _ _ _ _ _ _ _ _ _ _ _ _ _ _ _ _ _ _ _ _ _ _ _ _ _ _ _ _ _ _ _ _ _ _ _ _ _ _ _ rfl hT zu;rw[hx,V.e7v];cases hd:dig 10 T 0 false false with|none=>rw[hd]at hm;obtain⟨q1,q2,q3,q4⟩:=hm;simp only[q1,q2,q3,q4,a2k]|some q=>rw[hd]at hm;obtain⟨q1,q2,q3,q4⟩:=hm;simp only[q1,q2,q3,q4,a1y,R5,A9]
  |true=>
   have hl:2<=T.length:=by simp only[vZ,vz]at h1;omega
   cases h2:beqBytes (a0x T 2) [48,120]with
    |false=>simp(disch:=first|exact dy|fail)only[c5N,hlenS,h1,h2,a8q,c2i,a0r,O0,R6,a5q,a0g,M9,K7,A9,y9,K4,K5,K6,V6,X5,P6,J5,F6,V.e7v,K3,a7A,J4];obtain⟨x,hx,hm⟩:=d2Q N call C T hT2 10 (Or.inl rfl) _ _ _ _ _ _ _ _ _ _ T 0 N 0 false false _ _ _ _ _ _ _ _ _ _ _ _ _ _ _ _ _ _ _ _ _ _ _ _ _ _ _ _ _ _ _ _ _ _ _ _ _ _ _ _ _ _ _ _ _ _ _ _ _ _ _ _ rfl hT zu;rw[hx,V.e7v];cases hd:dig 10 T 0 false false with|none=>rw[hd]at hm;obtain⟨q1,q2,q3,q4⟩:=hm;simp only[q1,q2,q3,q4,a2k]|some q=>rw[hd]at hm;obtain⟨q1,q2,q3,q4⟩:=hm;simp only[q1,q2,q3,q4,a1y,R5,A9]
    |true=>
     have hl2:(H9 T 2).length=T.length-2:=by rw[a0D,uq]
     simp(disch:=first|exact dy|fail)only[c5N,hlenS,h1,h2,c2i,a0r,O0,R6,a5q,a0g,M9,K7,A9,K4,K5,K6,V6,X5,P6,J5,F6,V.e7v,K3,a7A,b1P,J4];obtain⟨x,hx,hm⟩:=d2Q N call C (H9 T 2) zy 16 (Or.inr rfl) _ _ _ _ _ _ _ _ _ _ (H9 T 2) 0 N 0 false false _ _ _ _ _ _ _ _ _ _ _ _ _ _ _ _ _ _ _ _ _ _ _ _ _ _ _ _ _ _ _ _ _ _ _ _ _ _ _ _ _ _ _ _ _ _ _ _ _ _ _ _ rfl zy zu;rw[hx,V.e7v];cases hd:dig 16 (H9 T 2) 0 false false with|none=>rw[hd]at hm;obtain⟨q1,q2,q3,q4⟩:=hm;simp only[q1,q2,q3,q4,a2k]|some q=>rw[hd]at hm;obtain⟨q1,q2,q3,q4⟩:=hm;simp only[q1,q2,q3,q4,a1y,R5,A9]
theorem c8V (B):∀(l) (n) (ov bt) (q),n<18446744073709551616->dig B l n ov bt=some q->q.1<18446744073709551616:=by intro l;induction l with|nil=>intro n ov bt q hn h;cases h;exact hn|cons b l ih=>intro n ov bt q hn h;have h':bcase (decide (b.toNat=95)&&bt) (dig B l n ov false) (match dgN b.toNat with|some d=>bcase (decide (d<B)) (dig B l ((n*B+d)%18446744073709551616) (ov||decide (18446744073709551616<=n*B+d)) true) none|none=>none)=some q:=h;cases hc:decide (b.toNat=95)&&bt with|true=>rw[hc]at h';exact ih _ _ _ _ hn h'|false=>rw[hc]at h';cases hd:dgN b.toNat with|none=>rw[hd]at h';cases h'|some d=>rw[hd]at h';cases hB:decide (d<B)with|true=>simp only[hB,A9,y9]at h';exact ih _ _ _ _ (nP _ zu) h'|false=>simp only[hB,y9]at h';cases h'
theorem b4k (T):(a1w T).1<18446744073709551616:=by
 unfold a1w;split;rename_i q h;cases hx:c2p T with|true=>rw[hx]at h;exact c8V _ _ _ _ _ _ zu h|false=>rw[hx]at h;exact c8V _ _ _ _ _ _ zu h
 decide
noncomputable def a4z (T:List UInt8):Nat×Nat:=bcase (a1w T).2.2 (bcase ((a1w T).2.1||decide (4294967295<(a1w T).1)) (0,6) ((a1w T).1,0)) (0,4)
noncomputable def a6K (T:List UInt8):Value:=.tuple ⟨[.int .i64 (.ofNat (a4z T).1),.int .i64 (.ofNat (a4z T).2)]⟩
theorem dlt (a b):decide (Int.ofNat a<Int.ofNat b)=decide (a<b):=yM
theorem deq (a b):decide (Int.ofNat a=Int.ofNat b)=decide (a=b):=yL
theorem n81 (N call T)(hm:call 118 [.string ⟨⟨T⟩⟩]=M.pure (.ret (a8i T))):c6S o9 N call (.string ⟨⟨T⟩⟩) (.int .i64 (.ofNat 4294967295))=M.pure (.ret (a6K T)):=by
 have hlt:=b4k T;unfold a6K a4z;unfold a8i at hm;generalize a1w T=q at*;obtain⟨n,o,k⟩:=q;have e1:decide (Int.ofNat 4294967295<Int.ofNat 0)=false:=rfl;have e2:Q0 .u64 (Int.ofNat 4294967295)=Int.ofNat 4294967295:=rfl;cases k with
  |false=>simp(disch:=first|exact dy|fail)only[c7C,hm,O0,R6,U6,I4,y9,K4,K5,K6,a4I,V6,X5,J5,F6,V.e7v,E8,F7,O9,O8,P7,P9,a0S]|true=>
   cases o with
    |true=>simp(disch:=first|exact dy|fail)only[c7C,hm,uY,O0,R6,U6,I4,H7,A9,K4,K5,K6,a4I,V6,X5,P6,J5,F6,V.e7v,E8,F7,O9,O8,P7,P9,a0S]|false=>
     cases h:decide (4294967295<n)with
      |true=>simp(disch:=first|exact dy|fail)only[c7C,hm,e1,e2,dlt,h,vJ,O0,R6,U6,I4,H7,A9,y9,K4,K5,K6,a4I,V6,X5,O3,J5,F6,V.e7v,E8,F7,K3,O9,O8,P7,P9,a0S]|false=>
       have hn:n<=4294967295:=by simp only[vX]at h;omega
       have e3:Q0 .i64 (Int.ofNat n)=Int.ofNat n:=b5v n zy;simp(disch:=first|exact dy|fail)only[c7C,hm,e1,e2,e3,dlt,h,vJ,O0,R6,U6,I4,H7,A9,y9,K4,K5,K6,a4I,V6,X5,O3,J5,F6,V.e7v,E8,F7,K3,O9,O8,P7,P9,a0S]
noncomputable def c5l (T:List UInt8):Bool:=match T with|[]=>false|b::_=>decide (b.toNat=45)||decide (b.toNat=43)
noncomputable def a9A (T:List UInt8):Bool:=match T with|[]=>false|b::_=>decide (b.toNat=45)
noncomputable def a2n (T:List UInt8):List UInt8:=bcase (c5l T) (H9 T 1) T
noncomputable def a7Z (n:Nat):Nat:=(18446744073709551616-n)%18446744073709551616
noncomputable def a1t (T:List UInt8)(gr:Nat):Nat×Nat:=bcase (a1w (a2n T)).2.2 (bcase ((a1w (a2n T)).2.1||bcase (a9A T) (decide (gr/2+1<(a1w (a2n T)).1)) (decide (gr<(a1w (a2n T)).1))) (0,6) (bcase (a9A T) (Nat.land (a7Z (a1w (a2n T)).1) gr,0) ((a1w (a2n T)).1,0))) (0,4)
noncomputable def b0w (T:List UInt8)(gr:Nat):Value:=.tuple ⟨[.int .u64 (.ofNat (a1t T gr).1),.int .i64 (.ofNat (a1t T gr).2)]⟩
theorem b8f (p n)(h:n<18446744073709551616):xUn p .neg (.int .u64 (.ofNat n))=M.pure (.int .u64 (.ofNat (a7Z n))):=by
 have e:xUn p .neg (.int .u64 (.ofNat n))=M.pure (.int .u64 (IntKind.u64.wrap (0-(Int.ofNat n)))):=by unfold xUn;rfl
 rw[e,IntKind.wrap_u64];have:(0-(Int.ofNat n))%18446744073709551616=Int.ofNat (a7Z n):=by unfold a7Z;simp only[vz];omega
 rw[this]
theorem b1N (p T t x y n m)(h1:n<18446744073709551616)(h2:m<18446744073709551616):a0M p T .and t x y (.int .u64 (.ofNat n)) (.int .u64 (.ofNat m))=M.pure (.int .u64 (.ofNat (Nat.land n m))):=b1K p T t x y .u64 n m rfl h1 h2
theorem c9K (n):a7Z n<18446744073709551616:=nP _ zu
theorem d6l (N call T)(hT:T.length<1000000)(hm:call 118 [.string ⟨⟨a2n T⟩⟩]=M.pure (.ret (a8i (a2n T)))):b4c o9 N call (.string ⟨⟨T⟩⟩) (.int .i64 (.ofNat 32))=M.pure (.ret (b0w T 4294967295)):=by
 have hlt:=b4k (a2n T);have hlenS:∀T:List UInt8,a8d (.string ⟨⟨T⟩⟩)=M.pure (.int .i64 (.ofNat T.length)):=λT=>a3Q _;have f1:decide (Int.ofNat 32<Int.ofNat 1)=false:=rfl;have f2:decide (Int.ofNat 64<Int.ofNat 32)=false:=rfl;have f3:Q0 .i64 (Int.ofNat 64-Int.ofNat 32)=Int.ofNat 32:=rfl;have f4:(Int.ofNat 18446744073709551615).fdiv 4294967296=Int.ofNat 4294967295:=rfl;have f5:(Int.ofNat 4294967295).fdiv 2=Int.ofNat 2147483647:=rfl;have f6:Q0 .u64 (Int.ofNat 2147483647+Int.ofNat 1)=Int.ofNat 2147483648:=rfl;have f7:4294967295/2+1=2147483648:=rfl;unfold b0w a1t;unfold a8i at hm;cases T with
  |nil=>have u1:a2n []=[]:=rfl;have u2:a9A []=false:=rfl;have u3:beqBytes ([]:List UInt8) []=true:=rfl;have u4:decide (Int.ofNat 0<Int.ofNat ([]:List UInt8).length)=false:=rfl;rw[u1]at hm hlt⊢;rw[u2];generalize a1w []=q at*;obtain⟨n,o,k⟩:=q;cases k with|false=>simp(disch:=first|exact dy|fail)only[a0F,hm,u3,f1,f2,f3,f4,f5,f6,O0,R6,U6,I4,M9,K7,H7,A9,y9,K4,K5,K6,V6,X5,P5,P6,O3,Int.reducePow,J5,F6,V.e7v,E8,F7,K3,I8,Q4,Q3,O9,M6,O8,P7,P9,a0U,a0E]|true=>cases o with|true=>simp(disch:=first|exact dy|fail)only[a0F,hm,u3,f1,f2,f3,f4,f5,f6,uY,O0,R6,U6,I4,M9,K7,H7,A9,y9,K4,K5,K6,V6,X5,P5,P6,O3,Int.reducePow,J5,F6,V.e7v,E8,F7,K3,I8,Q4,Q3,O9,M6,O8,P7,P9,a0U,a0E]|false=>cases h:decide (4294967295<n)with|true=>simp(disch:=first|exact dy|fail)only[a0F,hm,u3,dlt,h,f1,f2,f3,f4,f5,f6,vJ,O0,R6,U6,I4,M9,K7,H7,A9,y9,K4,K5,K6,V6,X5,P5,P6,O3,Int.reducePow,J5,F6,V.e7v,E8,F7,K3,I8,Q4,Q3,O9,M6,O8,P7,P9,a0U,a0E]|false=>simp(disch:=first|exact dy|fail)only[a0F,hm,u3,dlt,h,f1,f2,f3,f4,f5,f6,vJ,O0,R6,U6,I4,M9,K7,H7,A9,y9,K4,K5,K6,V6,X5,P5,P6,O3,Int.reducePow,J5,F6,V.e7v,E8,F7,K3,I8,Q4,Q3,O9,M6,O8,P7,P9,a0U,a0E]
  |cons b l=>
   have i0:=a1I ⟨⟨b::l⟩⟩ 0 b rfl;have hlen1:1<=(b::l).length:=zq;have u3:beqBytes (b::l) []=false:=rfl;have u4:decide (Int.ofNat 0<Int.ofNat (b::l).length)=true:=by rw[dlt];exact wL zq
   have u5:H9 (b::l) 1=l:=by rw[a7y,a0i]
   cases h45:decide (b.toNat=45)with
    |true=>
     have u1:a2n (b::l)=l:=by show bcase (decide (b.toNat=45)||_) _ _=_;rw[h45,u5];rfl
     have u2:a9A (b::l)=true:=h45;rw[u1]at hm hlt⊢;rw[u2];generalize a1w l=q at*;obtain⟨n,o,k⟩:=q;simp only at hlt hm;have hng:=c9K n;cases k with
      |false=>simp(disch:=first|exact dy|fail)only[a0F,hm,i0,u3,u5,deq,h45,a0r,f1,f2,f3,f4,f5,f6,O0,R6,U6,I4,a0g,M9,K7,H7,A9,y9,K4,K5,K6,V6,X5,a0P,P5,P6,O3,Int.reducePow,J5,F6,V.e7v,E8,Q5,F7,K3,I8,Q4,Q3,O9,M6,O8,P7,P9,a0U,a0E,J4]|true=>
       cases o with
        |true=>simp(disch:=first|exact dy|fail)only[a0F,hm,i0,u3,u5,deq,h45,a0r,f1,f2,f3,f4,f5,f6,uY,O0,R6,U6,I4,a0g,M9,K7,H7,A9,y9,K4,K5,K6,V6,X5,a0P,P5,P6,O3,Int.reducePow,J5,F6,V.e7v,E8,Q5,F7,K3,I8,Q4,Q3,O9,M6,O8,P7,P9,a0U,a0E,J4]|false=>
         cases h:decide (2147483648<n)with
          |true=>cases hg:decide (4294967295<n)with|true=>simp(disch:=first|exact dy|fail)only[a0F,hm,i0,u3,u5,deq,h45,a0r,dlt,h,f1,f2,f3,f4,f5,f6,vJ,O0,R6,U6,I4,a0g,M9,K7,H7,A9,y9,K4,K5,K6,V6,X5,a0P,P5,P6,O3,Int.reducePow,J5,F6,V.e7v,E8,Q5,F7,K3,I8,Q4,Q3,O9,M6,O8,P7,P9,a0U,a0E,J4]|false=>simp(disch:=first|exact dy|fail)only[a0F,hm,i0,u3,u5,deq,h45,a0r,dlt,h,f1,f2,f3,f4,f5,f6,vJ,O0,R6,U6,I4,a0g,M9,K7,H7,A9,y9,K4,K5,K6,V6,X5,a0P,P5,P6,O3,Int.reducePow,J5,F6,V.e7v,E8,Q5,F7,K3,I8,Q4,Q3,O9,M6,O8,P7,P9,a0U,a0E,J4]
          |false=>
           have hg:decide (4294967295<n)=false:=by simp only[vX]at h⊢;omega
           simp(disch:=first|exact dy|fail)only[a0F,hm,i0,u3,u5,deq,h45,a0r,dlt,h,hg,b8f,b1N,f1,f2,f3,f4,f5,f6,vJ,O0,R6,U6,I4,a0g,M9,K7,H7,A9,y9,K4,K5,K6,V6,X5,a0P,P5,P6,O3,Int.reducePow,J5,F6,V.e7v,E8,Q5,F7,K3,I8,Q4,Q3,O9,M6,O8,P7,P9,a0U,a0E,J4]
    |false=>
     have u2:a9A (b::l)=false:=h45;cases h43:decide (b.toNat=43)with
      |true=>have u1:a2n (b::l)=l:=ww;rw[u1]at hm hlt⊢;rw[u2];generalize a1w l=q at*;obtain⟨n,o,k⟩:=q;cases k with|false=>simp(disch:=first|exact dy|fail)only[a0F,hm,i0,u3,u5,deq,h45,h43,a0r,f1,f2,f3,f4,f5,f6,O0,R6,U6,I4,M9,K7,H7,A9,y9,K4,K5,K6,V6,X5,a0P,P5,a2g,P6,O3,Int.reducePow,J5,F6,V.e7v,E8,Q5,F7,K3,I8,Q4,Q3,O9,M6,O8,P7,P9,a0E,a3J,J4]|true=>cases o with|true=>simp(disch:=first|exact dy|fail)only[a0F,hm,i0,u3,u5,deq,h45,h43,a0r,f1,f2,f3,f4,f5,f6,uY,O0,R6,U6,I4,M9,K7,H7,A9,y9,K4,K5,K6,V6,X5,a0P,P5,a2g,P6,O3,Int.reducePow,J5,F6,V.e7v,E8,Q5,F7,K3,I8,Q4,Q3,O9,M6,O8,P7,P9,a0U,a0E,a3J,J4]|false=>cases h:decide (4294967295<n)with|true=>simp(disch:=first|exact dy|fail)only[a0F,hm,i0,u3,u5,deq,h45,h43,a0r,dlt,h,f1,f2,f3,f4,f5,f6,vJ,O0,R6,U6,I4,M9,K7,H7,A9,y9,K4,K5,K6,V6,X5,a0P,P5,a2g,P6,O3,Int.reducePow,J5,F6,V.e7v,E8,Q5,F7,K3,I8,Q4,Q3,O9,M6,O8,P7,P9,a0U,a0E,a3J,J4]|false=>simp(disch:=first|exact dy|fail)only[a0F,hm,i0,u3,u5,deq,h45,h43,a0r,dlt,h,f1,f2,f3,f4,f5,f6,vJ,O0,R6,U6,I4,M9,K7,H7,A9,y9,K4,K5,K6,V6,X5,a0P,P5,a2g,P6,O3,Int.reducePow,J5,F6,V.e7v,E8,Q5,F7,K3,I8,Q4,Q3,O9,M6,O8,P7,P9,a0U,a0E,a3J,J4]
      |false=>have u1:a2n (b::l)=b::l:=wo;rw[u1]at hm hlt⊢;rw[u2];generalize a1w (b::l)=q at*;obtain⟨n,o,k⟩:=q;cases k with|false=>simp(disch:=first|exact dy|fail)only[a0F,hm,i0,u3,deq,h45,h43,f1,f2,f3,f4,f5,f6,O0,R6,U6,I4,M9,K7,H7,A9,y9,K4,K5,K6,V6,X5,a0P,P5,a2g,P6,O3,Int.reducePow,J5,F6,V.e7v,E8,Q5,F7,K3,I8,Q4,Q3,O9,M6,O8,P7,P9,a0E,a3J]|true=>cases o with|true=>simp(disch:=first|exact dy|fail)only[a0F,hm,i0,u3,deq,h45,h43,f1,f2,f3,f4,f5,f6,uY,O0,R6,U6,I4,M9,K7,H7,A9,y9,K4,K5,K6,V6,X5,a0P,P5,a2g,P6,O3,Int.reducePow,J5,F6,V.e7v,E8,Q5,F7,K3,I8,Q4,Q3,O9,M6,O8,P7,P9,a0U,a0E,a3J]|false=>cases h:decide (4294967295<n)with|true=>simp(disch:=first|exact dy|fail)only[a0F,hm,i0,u3,deq,h45,h43,dlt,h,f1,f2,f3,f4,f5,f6,vJ,O0,R6,U6,I4,M9,K7,H7,A9,y9,K4,K5,K6,V6,X5,a0P,P5,a2g,P6,O3,Int.reducePow,J5,F6,V.e7v,E8,Q5,F7,K3,I8,Q4,Q3,O9,M6,O8,P7,P9,a0U,a0E,a3J]|false=>simp(disch:=first|exact dy|fail)only[a0F,hm,i0,u3,deq,h45,h43,dlt,h,f1,f2,f3,f4,f5,f6,vJ,O0,R6,U6,I4,M9,K7,H7,A9,y9,K4,K5,K6,V6,X5,a0P,P5,a2g,P6,O3,Int.reducePow,J5,F6,V.e7v,E8,Q5,F7,K3,I8,Q4,Q3,O9,M6,O8,P7,P9,a0U,a0E,a3J]
theorem d6D (N call T)(hT:T.length<1000000)(hm:call 118 [.string ⟨⟨a2n T⟩⟩]=M.pure (.ret (a8i (a2n T)))):b4c o9 N call (.string ⟨⟨T⟩⟩) (.int .i64 (.ofNat 64))=M.pure (.ret (b0w T 18446744073709551615)):=by
 have hlt:=b4k (a2n T);have hlenS:∀T:List UInt8,a8d (.string ⟨⟨T⟩⟩)=M.pure (.int .i64 (.ofNat T.length)):=λT=>a3Q _;have f1:decide (Int.ofNat 64<Int.ofNat 1)=false:=rfl;have f2:decide (Int.ofNat 64<Int.ofNat 64)=false:=rfl;have f3:Q0 .i64 (Int.ofNat 64-Int.ofNat 64)=Int.ofNat 0:=rfl;have f4:(Int.ofNat 18446744073709551615).fdiv 1=Int.ofNat 18446744073709551615:=rfl;have f5:(Int.ofNat 18446744073709551615).fdiv 2=Int.ofNat 9223372036854775807:=rfl;have f6:Q0 .u64 (Int.ofNat 9223372036854775807+Int.ofNat 1)=Int.ofNat 9223372036854775808:=rfl;have f7:18446744073709551615/2+1=9223372036854775808:=rfl;unfold b0w a1t;unfold a8i at hm;cases T with
  |nil=>have u1:a2n []=[]:=rfl;have u2:a9A []=false:=rfl;have u3:beqBytes ([]:List UInt8) []=true:=rfl;have u4:decide (Int.ofNat 0<Int.ofNat ([]:List UInt8).length)=false:=rfl;rw[u1]at hm hlt⊢;rw[u2];generalize a1w []=q at*;obtain⟨n,o,k⟩:=q;cases k with|false=>simp(disch:=first|exact dy|fail)only[a0F,hm,u3,f1,f2,f3,f4,f5,f6,O0,R6,U6,I4,M9,K7,H7,A9,y9,K4,K5,K6,V6,X5,P5,P6,O3,Int.reducePow,J5,F6,V.e7v,E8,F7,K3,I8,Q4,Q3,O9,M6,O8,P7,P9,a0U,a0E]|true=>cases o with|true=>simp(disch:=first|exact dy|fail)only[a0F,hm,u3,f1,f2,f3,f4,f5,f6,uY,O0,R6,U6,I4,M9,K7,H7,A9,y9,K4,K5,K6,V6,X5,P5,P6,O3,Int.reducePow,J5,F6,V.e7v,E8,F7,K3,I8,Q4,Q3,O9,M6,O8,P7,P9,a0U,a0E]|false=>cases h:decide (18446744073709551615<n)with|true=>simp(disch:=first|exact dy|fail)only[a0F,hm,u3,dlt,h,f1,f2,f3,f4,f5,f6,vJ,O0,R6,U6,I4,M9,K7,H7,A9,y9,K4,K5,K6,V6,X5,P5,P6,O3,Int.reducePow,J5,F6,V.e7v,E8,F7,K3,I8,Q4,Q3,O9,M6,O8,P7,P9,a0U,a0E]|false=>simp(disch:=first|exact dy|fail)only[a0F,hm,u3,dlt,h,f1,f2,f3,f4,f5,f6,vJ,O0,R6,U6,I4,M9,K7,H7,A9,y9,K4,K5,K6,V6,X5,P5,P6,O3,Int.reducePow,J5,F6,V.e7v,E8,F7,K3,I8,Q4,Q3,O9,M6,O8,P7,P9,a0U,a0E]
  |cons b l=>
   have i0:=a1I ⟨⟨b::l⟩⟩ 0 b rfl;have hlen1:1<=(b::l).length:=zq;have u3:beqBytes (b::l) []=false:=rfl;have u4:decide (Int.ofNat 0<Int.ofNat (b::l).length)=true:=by rw[dlt];exact wL zq
   have u5:H9 (b::l) 1=l:=by rw[a7y,a0i]
   cases h45:decide (b.toNat=45)with
    |true=>
     have u1:a2n (b::l)=l:=by show bcase (decide (b.toNat=45)||_) _ _=_;rw[h45,u5];rfl
     have u2:a9A (b::l)=true:=h45;rw[u1]at hm hlt⊢;rw[u2];generalize a1w l=q at*;obtain⟨n,o,k⟩:=q;simp only at hlt hm;have hng:=c9K n;cases k with
      |false=>simp(disch:=first|exact dy|fail)only[a0F,hm,i0,u3,u5,deq,h45,a0r,f1,f2,f3,f4,f5,f6,O0,R6,U6,I4,a0g,M9,K7,H7,A9,y9,K4,K5,K6,V6,X5,a0P,P5,P6,O3,Int.reducePow,J5,F6,V.e7v,E8,Q5,F7,K3,I8,Q4,Q3,O9,M6,O8,P7,P9,a0U,a0E,J4]|true=>
       cases o with
        |true=>simp(disch:=first|exact dy|fail)only[a0F,hm,i0,u3,u5,deq,h45,a0r,f1,f2,f3,f4,f5,f6,uY,O0,R6,U6,I4,a0g,M9,K7,H7,A9,y9,K4,K5,K6,V6,X5,a0P,P5,P6,O3,Int.reducePow,J5,F6,V.e7v,E8,Q5,F7,K3,I8,Q4,Q3,O9,M6,O8,P7,P9,a0U,a0E,J4]|false=>
         cases h:decide (9223372036854775808<n)with
          |true=>cases hg:decide (18446744073709551615<n)with|true=>simp(disch:=first|exact dy|fail)only[a0F,hm,i0,u3,u5,deq,h45,a0r,dlt,h,f1,f2,f3,f4,f5,f6,vJ,O0,R6,U6,I4,a0g,M9,K7,H7,A9,y9,K4,K5,K6,V6,X5,a0P,P5,P6,O3,Int.reducePow,J5,F6,V.e7v,E8,Q5,F7,K3,I8,Q4,Q3,O9,M6,O8,P7,P9,a0U,a0E,J4]|false=>simp(disch:=first|exact dy|fail)only[a0F,hm,i0,u3,u5,deq,h45,a0r,dlt,h,f1,f2,f3,f4,f5,f6,vJ,O0,R6,U6,I4,a0g,M9,K7,H7,A9,y9,K4,K5,K6,V6,X5,a0P,P5,P6,O3,Int.reducePow,J5,F6,V.e7v,E8,Q5,F7,K3,I8,Q4,Q3,O9,M6,O8,P7,P9,a0U,a0E,J4]
          |false=>
           have hg:decide (18446744073709551615<n)=false:=by simp only[vX]at h⊢;omega
           simp(disch:=first|exact dy|fail)only[a0F,hm,i0,u3,u5,deq,h45,a0r,dlt,h,hg,b8f,b1N,f1,f2,f3,f4,f5,f6,vJ,O0,R6,U6,I4,a0g,M9,K7,H7,A9,y9,K4,K5,K6,V6,X5,a0P,P5,P6,O3,Int.reducePow,J5,F6,V.e7v,E8,Q5,F7,K3,I8,Q4,Q3,O9,M6,O8,P7,P9,a0U,a0E,J4]
    |false=>
     have u2:a9A (b::l)=false:=h45;cases h43:decide (b.toNat=43)with
      |true=>have u1:a2n (b::l)=l:=ww;rw[u1]at hm hlt⊢;rw[u2];generalize a1w l=q at*;obtain⟨n,o,k⟩:=q;cases k with|false=>simp(disch:=first|exact dy|fail)only[a0F,hm,i0,u3,u5,deq,h45,h43,a0r,f1,f2,f3,f4,f5,f6,O0,R6,U6,I4,M9,K7,H7,A9,y9,K4,K5,K6,V6,X5,a0P,P5,a2g,P6,O3,Int.reducePow,J5,F6,V.e7v,E8,Q5,F7,K3,I8,Q4,Q3,O9,M6,O8,P7,P9,a0E,a3J,J4]|true=>cases o with|true=>simp(disch:=first|exact dy|fail)only[a0F,hm,i0,u3,u5,deq,h45,h43,a0r,f1,f2,f3,f4,f5,f6,uY,O0,R6,U6,I4,M9,K7,H7,A9,y9,K4,K5,K6,V6,X5,a0P,P5,a2g,P6,O3,Int.reducePow,J5,F6,V.e7v,E8,Q5,F7,K3,I8,Q4,Q3,O9,M6,O8,P7,P9,a0U,a0E,a3J,J4]|false=>cases h:decide (18446744073709551615<n)with|true=>simp(disch:=first|exact dy|fail)only[a0F,hm,i0,u3,u5,deq,h45,h43,a0r,dlt,h,f1,f2,f3,f4,f5,f6,vJ,O0,R6,U6,I4,M9,K7,H7,A9,y9,K4,K5,K6,V6,X5,a0P,P5,a2g,P6,O3,Int.reducePow,J5,F6,V.e7v,E8,Q5,F7,K3,I8,Q4,Q3,O9,M6,O8,P7,P9,a0U,a0E,a3J,J4]|false=>simp(disch:=first|exact dy|fail)only[a0F,hm,i0,u3,u5,deq,h45,h43,a0r,dlt,h,f1,f2,f3,f4,f5,f6,vJ,O0,R6,U6,I4,M9,K7,H7,A9,y9,K4,K5,K6,V6,X5,a0P,P5,a2g,P6,O3,Int.reducePow,J5,F6,V.e7v,E8,Q5,F7,K3,I8,Q4,Q3,O9,M6,O8,P7,P9,a0U,a0E,a3J,J4]
      |false=>have u1:a2n (b::l)=b::l:=wo;rw[u1]at hm hlt⊢;rw[u2];generalize a1w (b::l)=q at*;obtain⟨n,o,k⟩:=q;cases k with|false=>simp(disch:=first|exact dy|fail)only[a0F,hm,i0,u3,deq,h45,h43,f1,f2,f3,f4,f5,f6,O0,R6,U6,I4,M9,K7,H7,A9,y9,K4,K5,K6,V6,X5,a0P,P5,a2g,P6,O3,Int.reducePow,J5,F6,V.e7v,E8,Q5,F7,K3,I8,Q4,Q3,O9,M6,O8,P7,P9,a0E,a3J]|true=>cases o with|true=>simp(disch:=first|exact dy|fail)only[a0F,hm,i0,u3,deq,h45,h43,f1,f2,f3,f4,f5,f6,uY,O0,R6,U6,I4,M9,K7,H7,A9,y9,K4,K5,K6,V6,X5,a0P,P5,a2g,P6,O3,Int.reducePow,J5,F6,V.e7v,E8,Q5,F7,K3,I8,Q4,Q3,O9,M6,O8,P7,P9,a0U,a0E,a3J]|false=>cases h:decide (18446744073709551615<n)with|true=>simp(disch:=first|exact dy|fail)only[a0F,hm,i0,u3,deq,h45,h43,dlt,h,f1,f2,f3,f4,f5,f6,vJ,O0,R6,U6,I4,M9,K7,H7,A9,y9,K4,K5,K6,V6,X5,a0P,P5,a2g,P6,O3,Int.reducePow,J5,F6,V.e7v,E8,Q5,F7,K3,I8,Q4,Q3,O9,M6,O8,P7,P9,a0U,a0E,a3J]|false=>simp(disch:=first|exact dy|fail)only[a0F,hm,i0,u3,deq,h45,h43,dlt,h,f1,f2,f3,f4,f5,f6,vJ,O0,R6,U6,I4,M9,K7,H7,A9,y9,K4,K5,K6,V6,X5,a0P,P5,a2g,P6,O3,Int.reducePow,J5,F6,V.e7v,E8,Q5,F7,K3,I8,Q4,Q3,O9,M6,O8,P7,P9,a0U,a0E,a3J]
noncomputable def sgN (z:Nat):Bool:=Nat.ble 33 z&&Nat.ble z 126&& !(Nat.beq z 40||Nat.beq z 41||Nat.beq z 34||Nat.beq z 59||Nat.beq z 44)
noncomputable def c0j (r:Option (CR×S))(m:Int):Bool:=match r with
 |some x=>match x.1 with
  |.ret v=>match v with
   |.int k n=>a0C k .i64&&(match n with
    |.ofNat j=>match m with|.ofNat i=>Nat.beq j i|.negSucc _=>false
    |.negSucc j=>match m with|.ofNat _=>false|.negSucc i=>Nat.beq j i)|_=>false
  |.pan _=>false
 |none=>false
theorem c5x {r m}(h:c0j r m=true):∃s,r=some (.ret (.int .i64 m),s):=by unfold c0j at h;split at h;rename_i x;split at h;rename_i v hv;split at h;rename_i k n;rw[wK]at h;obtain⟨y,s⟩:=x;obtain rfl:y=_:=hv;obtain rfl:=a4E h.1;have h2:=h.2;split at h2;split at h2;obtain rfl:=wR h2;exact⟨s,rfl⟩;cases h2;split at h2;cases h2;obtain rfl:=wR h2;exact⟨s,rfl⟩;cases h;cases h;cases h
noncomputable def b6Q (r:Option (CR×S))(m:Bool):Bool:=match r with
 |some x=>match x.1 with
  |.ret v=>match v with|.bool b=>b==m|_=>false
  |.pan _=>false
 |none=>false
theorem b6l {r m}(h:b6Q r m=true):∃s,r=some (.ret (.bool m),s):=by unfold b6Q at h;split at h;rename_i x;split at h;rename_i v hv;split at h;rename_i b;obtain⟨y,s⟩:=x;obtain rfl:y=_:=hv;obtain rfl:=eq_of_beq h;exact⟨s,rfl⟩;cases h;cases h;cases h
noncomputable def upN (n:Nat):List Nat:=List.range n
noncomputable def a5i (q:Nat->Value)(z:Int):Option Value:=match z with|.ofNat m=>bcase (Nat.blt m 256) (some (q m)) none|.negSucc _=>none
theorem b3P {q z v}(h:a5i q z=some v):∃m,m<256/\z=.ofNat m/\v=q m:=by
 unfold a5i at h;split at h;rename_i m;cases hb:Nat.blt m 256 with|true=>rw[hb]at h;cases h;exact⟨m,by simpa using hb,rfl,rfl⟩|false=>rw[hb]at h;cases h
 cases h
theorem b5s (q)(b:UInt8):a5i q (.ofNat b.toNat)=some (q b.toNat):=by
 have h:Nat.blt b.toNat 256=true:=by have:=b.toNat_lt;simpa using this
 show bcase (Nat.blt b.toNat 256) _ _=_;rw[h];rfl
noncomputable def qDg (m:Nat):Value:=.int .i64 (dgI m)
noncomputable def qSg (m:Nat):Value:=.bool (sgN m)
theorem d8d (mL):J2 (λz=>c0j (o8 a7f 5 162 [.int .u8 (.ofNat z)] (Go.V.a3d (I6 mL))) (dgI z)) (upN 256)=true:=zw
theorem d7R:J9 Tryz.prog tab (I6 mL) 162 (X1 .u8 (a5i qDg)):=a8N λz v h=>by obtain⟨m,hm,rfl,rfl⟩:=b3P h;obtain⟨s,hr⟩:=c5x ((M4 _ _).1 (d8d mL) m (uI.2 hm));exact⟨rfl,a5J V5 N7 a6y a2Q a5G b1Q Tryz.func162 zw rfl rfl rfl hr⟩
theorem d8z (mL):J2 (λz=>b6Q (o8 a7f 5 137 [.int .u8 (.ofNat z)] (Go.V.a3d (I6 mL))) (sgN z)) (upN 256)=true:=zw
theorem e0a:J9 Tryz.prog tab (I6 mL) 137 (X1 .u8 (a5i qSg)):=a8N λz v h=>by obtain⟨m,hm,rfl,rfl⟩:=b3P h;obtain⟨s,hr⟩:=b6l ((M4 _ _).1 (d8z mL) m (uI.2 hm));exact⟨rfl,a5J V5 N7 a6y a2Q a5G b1Q Tryz.func137 zw rfl rfl rfl hr⟩
theorem e1d (mL):J2 (λz=>b6Q (o8 a7f 5 136 [.int .u8 (.ofNat z)] (Go.V.a3d (I6 mL))) (sgN z)) (upN 256)=true:=zw
theorem e2W:J9 Tryz.prog tab (I6 mL) 136 (X1 .u8 (a5i qSg)):=a8N λz v h=>by obtain⟨m,hm,rfl,rfl⟩:=b3P h;obtain⟨s,hr⟩:=b6l ((M4 _ _).1 (e1d mL) m (uI.2 hm));exact⟨rfl,a5J V5 N7 a6y a2Q a5G b1Q Tryz.func136 zw rfl rfl rfl hr⟩
noncomputable def a5V (l:List UInt8):Bool:=J2 (λb=>sgN b.toNat) l
noncomputable def a0O (T:List UInt8):Bool:=match T with|[]=>false|b::l=>match l with|[]=>false|_::_=>decide (b.toNat=36)&&a5V l
theorem e7H (N0 call)(hs:∀b:UInt8,call 137 [.int .u8 (.ofNat b.toNat)]=M.pure (.ret (.bool (sgN b.toNat))))(T)(hT:T.length<1000000):∀(l) (i N) (g0 g1 g2 g3 g4 g5 g6 g7 g8 g9),T.drop i=l->l.length<N->∃x,U4 (c9Y o9 N0 call (.int .i64 (.ofNat T.length)) (.string ⟨⟨T⟩⟩)) N [g0,g1,g2,g3,g4,g5,g6,g7,g8,g9,.int .i64 (.ofNat i)]=M.pure x/\bcase (a5V l) (x.1=.exit 0) (x.1=.ret/\C9 x.2 8=.bool false):=by
 have hlenS:a8d (.string ⟨⟨T⟩⟩)=M.pure (.int .i64 (.ofNat T.length)):=a3Q _;intro l;induction l with
  |nil=>intro i N g0 g1 g2 g3 g4 g5 g6 g7 g8 g9 hd hN;obtain⟨N,rfl⟩:∃m,N=m+1:=⟨N-1,zy⟩;have hi:¬i<T.length:=yP;have h1:=b4Z i T.length hi;rw[Z4];simp(disch:=first|exact dy|fail)only[b3W,h1,O0,U6,y9,V6,X5,J5,a1y,V.e7v,F7,I8];exact⟨_,rfl,rfl⟩|cons b l ih=>
   intro i N g0 g1 g2 g3 g4 g5 g6 g7 g8 g9 hd hN;obtain⟨N,rfl⟩:∃m,N=m+1:=⟨N-1,zy⟩;obtain⟨hb,hd',hi⟩:=b7z hd;have h1:=b7S i T.length hi;have hbT:(⟨⟨T⟩⟩:ByteArray).data.toList[i]?=some b:=hb;have h2:=a1I ⟨⟨T⟩⟩ i b hbT;have hsi:=c0C i zy;have hlen:l.length<N:=by simp at hN;omega
   have hsg:=hs b;have ha:a5V (b::l)=(sgN b.toNat&&a5V l):=U1 _ _ _;rw[ha];cases hq:sgN b.toNat with|true=>rw[hq]at hsg;rw[Z4,a8q];simp(disch:=first|exact dy|fail)only[b3W,h1,h2,hsi,hsg,a0U,O0,U6,I4,A9,y9,V6,X5,J5,F6,V.e7v,F7,I8,O9];exact ih (i+1) N _ _ _ _ _ _ _ _ _ _ hd' hlen|false=>rw[hq]at hsg;rw[Z4,uU];simp(disch:=first|exact dy|fail)only[b3W,h1,h2,hsi,hsg,a0E,O0,U6,I4,A9,y9,V6,X5,J5,a2k,V.e7v,F7,I8,O9];exact⟨_,rfl,rfl,rfl⟩
theorem e8s (N call)(hs:∀b:UInt8,call 137 [.int .u8 (.ofNat b.toNat)]=M.pure (.ret (.bool (sgN b.toNat))))(T)(hT:T.length<N)(hT2:T.length<1000000):b9l o9 N call (.string ⟨⟨T⟩⟩)=M.pure (.ret (.bool (a0O T))):=by
 have hlenS:∀T:List UInt8,a8d (.string ⟨⟨T⟩⟩)=M.pure (.int .i64 (.ofNat T.length)):=λT=>a3Q _;have dlt2:∀a b:Nat,decide (Int.ofNat a<Int.ofNat b)=decide (a<b):=λa b=>yM;have deq2:∀a b:Nat,decide (Int.ofNat a=Int.ofNat b)=decide (a=b):=λa b=>yL;match T,hT,hT2 with
  |[],hT,hT2=>have h1:decide (([]:List UInt8).length<2)=true:=rfl;simp(disch:=first|exact dy|fail)only[b9X,hlenS,dlt2,h1,O0,R6,a5q,H7,A9,y9,P6,J5,F6,V.e7v,F7,a0U];rfl|[b],hT,hT2=>have h1:decide (([b]:List UInt8).length<2)=true:=rfl;simp(disch:=first|exact dy|fail)only[b9X,hlenS,dlt2,h1,O0,R6,a5q,H7,A9,y9,P6,J5,F6,V.e7v,F7,a0U];rfl|b::c::l,hT,hT2=>
   have h1:decide ((b::c::l).length<2)=false:=wP zq;have i0:=a1I ⟨⟨b::c::l⟩⟩ 0 b rfl;have hn:a0O (b::c::l)=(decide (b.toNat=36)&&a5V (c::l)):=rfl;rw[hn];cases h36:decide (b.toNat=36)with
    |false=>simp(disch:=first|exact dy|fail)only[b9X,hlenS,dlt2,deq2,h1,h36,i0,O0,R6,a5q,H7,A9,K4,K5,K6,V6,X5,O3,J5,F6,V.e7v,a4y,F7,a0E,uU]|true=>
     simp(disch:=first|exact dy|fail)only[b9X,hlenS,dlt2,deq2,h1,h36,i0,O0,R6,a5q,H7,A9,y9,K4,K5,K6,V6,X5,O3,J5,F6,V.e7v,a4y,F7,a0U,a0E,a8q];obtain⟨x,hx,hm⟩:=e7H N call hs (b::c::l) hT2 (b::c::l) 0 N _ _ _ _ _ _ _ _ _ _ rfl hT;rw[hx,V.e7v];have h36':b.toNat=36:=vS h36;have hsb:a5V (b::c::l)=a5V (c::l):=by show J2 _ _=_;rw[U1,h36'];rfl
     rw[hsb]at hm;cases ha:a5V (c::l)with|true=>rw[ha]at hm;have hm:x.1=.exit 0:=hm;simp only[hm,a1y,R5,A9]|false=>rw[ha]at hm;obtain⟨q1,q2⟩:=(hm:x.1=.ret/\C9 x.2 8=.bool false);simp only[q1,q2,a2k]
end Go.Proofs.YtmomonnlmbljoaaGreatDoor
end
section
namespace Go.Proofs
open Go.Shelf
def Tryz.lMul64_ren:Go.Shelf.Ren:=⟨λ|264=>130|n=>n,λ|53=>23|46=>145|n=>n,λ|n=>n⟩
theorem Tryz.lMul64:Go.Proofs.Lays.n264 Tryz.prog Tryz.lMul64_ren:={
 mixed:=zw
 f264:=Tryz.func130.trans (wB some zw)
 t46:=sO
 a46:=qj
 z46:=rA
 v46:=sH
 t53:=sG
 a53:=oC
 z53:=oM
 v53:=qC }
end Go.Proofs
end
section
namespace Go.Proofs.YtmomonnlmbljoaaGreatDoor
open Go.V Go.RowKit Go.Shelf Go.Proofs
variable {mL:Int}
theorem c6N {bs v}(h:b1C bs=some v):∃x y,bs=[.int .u64 (.ofNat x),.int .u64 (.ofNat y)]/\x<18446744073709551616/\y<18446744073709551616/\v=.tuple ⟨[.int .u64 (.ofNat (x*y/18446744073709551616)),.int .u64 (.ofNat (x*y%18446744073709551616))]⟩:=by
 unfold b1C at h;split at h;rename_i x y;cases hb:Nat.blt x 18446744073709551616&&Nat.blt y 18446744073709551616 with|true=>rw[hb]at h;cases h;rw[wK]at hb;exact⟨x,y,rfl,by simpa using hb.1,by simpa using hb.2,rfl⟩|false=>rw[hb]at h;cases h
 cases h
theorem d9w:J9 Tryz.prog tab (I6 mL) 130 (λbs=>M.lift (b1C bs)):=a4b λbs v h=>by obtain⟨x,y,rfl,hx,hy,rfl⟩:=c6N h;refine⟨rfl,rfl,λw hL=>⟨V4 Tryz.func130 zw rfl,?_⟩⟩;refine(Any.bits_Mul64 Tryz.lMul64 x y hx hy w).mono λe w' hq=>?_;obtain⟨rfl,rfl⟩:=hq;exact⟨rfl,rV _ _⟩
noncomputable def a0y (T P:List UInt8):Bool:=decide (P.length<=T.length)&&beqBytes (a0x T P.length) P
theorem dle (a b):decide (Int.ofNat a<=Int.ofNat b)=decide (a<=b):=by by_cases q:a<=b;rw[wL q];simp only[vZ,vz];omega;rw[wP q];simp only[vX,vz];omega
theorem e8o (N call T P):b9L o9 N call (.string ⟨⟨T⟩⟩) (.string ⟨⟨P⟩⟩)=M.pure (.ret (.bool (a0y T P))):=by have hlenS:∀T:List UInt8,a8d (.string ⟨⟨T⟩⟩)=M.pure (.int .i64 (.ofNat T.length)):=λT=>a3Q _;unfold a0y;cases h:decide (P.length<=T.length)with|false=>simp(disch:=first|exact dy|fail)only[d4F,hlenS,dle,h,O0,R6,K7,y9,O3,F6,V.e7v,a1H,uU]|true=>have hl:P.length<=T.length:=vS h;simp(disch:=first|exact dy|fail)only[d4F,hlenS,dle,h,c2i,O0,R6,K7,A9,K4,K5,K6,V6,X5,P6,F6,V.e7v,a1H,a7A,a8q]
noncomputable def onS (q:List UInt8->Value)(bs:List Value):Option Value:=match bs with|[.string s]=>bcase (Nat.blt (x8 s.data.toList) 900000) (some (q s.data.toList)) none|_=>none
noncomputable def XS (q:List UInt8->Value):List Value->M Value:=λbs=>M.lift (onS q bs)
theorem c3Y {q bs v}(h:onS q bs=some v):∃T,bs=[.string ⟨⟨T⟩⟩]/\T.length<900000/\v=q T:=by
 unfold onS at h;split at h;rename_i s;cases hb:Nat.blt (x8 s.data.toList) 900000 with|true=>rw[hb]at h;cases h;exact⟨s.data.toList,rfl,by rw[F9]at hb;simpa using hb,rfl⟩|false=>rw[hb]at h;cases h
 cases h
theorem b6O (q T)(h:T.length<900000):onS q [.string ⟨⟨T⟩⟩]=some (q T):=by
 have hb:Nat.blt (x8 T) 900000=true:=by rw[F9];exact I7 h
 show bcase (Nat.blt (x8 T) 900000) _ _=_;rw[hb];rfl
noncomputable def b2n (k:Nat)(q:List UInt8->Value)(bs:List Value):Option Value:=match bs with|[.string s,.int .i64 (.ofNat m)]=>bcase (Nat.blt (x8 s.data.toList) 900000&&Nat.beq m k) (some (q s.data.toList)) none|_=>none
noncomputable def XSI (k:Nat)(q:List UInt8->Value):List Value->M Value:=λbs=>M.lift (b2n k q bs)
theorem b5w {k q bs v}(h:b2n k q bs=some v):∃T,bs=[.string ⟨⟨T⟩⟩,.int .i64 (.ofNat k)]/\T.length<900000/\v=q T:=by
 unfold b2n at h;split at h;rename_i s m;cases hb:Nat.blt (x8 s.data.toList) 900000&&Nat.beq m k with|true=>rw[hb]at h;cases h;rw[wK]at hb;obtain rfl:=wR hb.2;exact⟨s.data.toList,rfl,by have:=hb.1;rw[F9]at this;simpa using this,rfl⟩|false=>rw[hb]at h;cases h
 cases h
theorem b4b (k q T)(h:T.length<900000):b2n k q [.string ⟨⟨T⟩⟩,.int .i64 (.ofNat k)]=some (q T):=by
 have hb:(Nat.blt (x8 T) 900000&&Nat.beq k k)=true:=by rw[F9,I7 h,R5];rfl
 show bcase (Nat.blt (x8 T) 900000&&Nat.beq k k) _ _=_;rw[hb];rfl
noncomputable def orX (q1 q2:List Value->Option Value)(bs:List Value):Option Value:=match q1 bs with|some v=>some v|none=>q2 bs
theorem a1f.pureE {m:M CR}{v}(h:m=M.pure (.ret v)):∀c hh r w,l9 (go m ⟨c,hh,r,w⟩) λx s2=>x=.ret v/\∀i,i<c->s2.h.get i=hh.get i:=a1f.pure h
noncomputable def pe1:Nat->Option (List Value->M Value):=(M5 (M5 (M5 (M5 a6M 162 (X1 .u8 (a5i qDg))) 137 (X1 .u8 (a5i qSg))) 136 (X1 .u8 (a5i qSg))) 130 (λbs=>M.lift (b1C bs)))
noncomputable def ps1:a2t:=(U5 (U5 (U5 (U5 a7f 162 (X1 .u8 (a5i qDg))) 137 (X1 .u8 (a5i qSg))) 136 (X1 .u8 (a5i qSg))) 130 (λbs=>M.lift (b1C bs)))
theorem pL1:Shelf' Tryz.prog tab (I6 mL) NN pe1 ps1:=((((((⟨a5G,b1Q⟩:Shelf' Tryz.prog tab (I6 mL) NN a6M a7f).add d7R)).add e0a)).add e2W).add d9w
theorem d5v (n):MagC (o8 ps1 (n+1)) where
 dg b:=a1j (q:=a5i qDg) zw n (b5s qDg b)
 mul x y hx hy:=by
  have h1:Nat.blt x 18446744073709551616=true:=I7 hx
  have h2:Nat.blt y 18446744073709551616=true:=I7 hy
  refine V8 ps1 n 130 _ (g:=b1C) zw ?_
  show bcase (Nat.blt x 18446744073709551616 && Nat.blt y 18446744073709551616) _ _=_
  rw [h1,h2]; rfl
 add x y:=V8 ps1 n 163 _ (g:=b3d) zw rfl
theorem e2A:J9 Tryz.prog tab (I6 mL) 118 (XS a8i):=a1V V5 N7 (pL1 (mL:=mL)).e (pL1 (mL:=mL)).s Tryz.func118 zw rfl λbs v h=>by obtain⟨T,rfl,hT,rfl⟩:=c3Y h;refine⟨rfl,λc hh r w=>⟨2,a1f.pureE ?_ c hh r w⟩⟩;rw[Z5 (q:=b9j) (N:=NN) zw 1];exact f0h NN _ (d5v 0) T (sw hT zu) (sw hT zu)
theorem e1X:J9 Tryz.prog tab (I6 mL) 107 (XS λT=>.bool (a0O T)):=a1V V5 N7 (pL1 (mL:=mL)).e (pL1 (mL:=mL)).s Tryz.func107 zw rfl λbs v h=>by obtain⟨T,rfl,hT,rfl⟩:=c3Y h;refine⟨rfl,λc hh r w=>⟨2,a1f.pureE ?_ c hh r w⟩⟩;rw[Z5 (q:=b9l) (N:=NN) zw 1];exact e8s NN _ (λb=>a1j (q:=a5i qSg) zw 0 (b5s qSg b)) T (sw hT zu) (sw hT zu)
noncomputable def pe2:Nat->Option (List Value->M Value):=(M5 (M5 pe1 118 (XS a8i)) 107 (XS λT=>.bool (a0O T)))
noncomputable def ps2:a2t:=(U5 (U5 ps1 118 (XS a8i)) 107 (XS λT=>.bool (a0O T)))
theorem pL2:Shelf' Tryz.prog tab (I6 mL) NN pe2 ps2:=(((pL1.add e2A)).add e1X)
theorem e4W:J9 Tryz.prog tab (I6 mL) 81 (XSI 4294967295 a6K):=a1V V5 N7 (pL2 (mL:=mL)).e (pL2 (mL:=mL)).s Tryz.func81 zw rfl λbs v h=>by obtain⟨T,rfl,hT,rfl⟩:=b5w h;refine⟨rfl,λc hh r w=>⟨2,a1f.pureE ?_ c hh r w⟩⟩;rw[a2h (q:=c6S) (N:=NN) zw 1];exact n81 NN _ T (V8 ps2 0 118 _ (g:=onS a8i) zw (b6O _ _ hT))
theorem c1V (T):(a2n T).length<=T.length:=by unfold a2n;cases c5l T with|true=>show(H9 T 1).length<=_;rw[a0D,uq];omega|false=>exact wQ _
noncomputable def b0u (bs:List Value):Option Value:=orX (b2n 32 λT=>b0w T 4294967295) (b2n 64 λT=>b0w T 18446744073709551615) bs
theorem d1M {bs v}(h:b0u bs=some v):∃T,T.length<900000/\((bs=[.string ⟨⟨T⟩⟩,.int .i64 (.ofNat 32)]/\v=b0w T 4294967295)\/(bs=[.string ⟨⟨T⟩⟩,.int .i64 (.ofNat 64)]/\v=b0w T 18446744073709551615)):=by unfold b0u orX at h;split at h;rename_i u hu;obtain⟨T,e1,e2,e3⟩:=b5w hu;cases h;exact⟨T,e2,Or.inl ⟨e1,e3⟩⟩;obtain⟨T,e1,e2,e3⟩:=b5w h;exact⟨T,e2,Or.inr ⟨e1,e3⟩⟩
theorem d7a (T)(h:T.length<900000):b0u [.string ⟨⟨T⟩⟩,.int .i64 (.ofNat 32)]=some (b0w T 4294967295):=by unfold b0u orX;rw[b4b 32 _ T h]
theorem d6C (T)(h:T.length<900000):b0u [.string ⟨⟨T⟩⟩,.int .i64 (.ofNat 64)]=some (b0w T 18446744073709551615):=by
 unfold b0u orX;have e:b2n 32 (λT=>b0w T 4294967295) [.string ⟨⟨T⟩⟩,.int .i64 (.ofNat 64)]=none:=by show bcase (Nat.blt (x8 T) 900000&&Nat.beq 64 32) _ _=_;rw[show Nat.beq 64 32=false from rfl,uD];rfl
 rw[e,b4b 64 _ T h]
theorem d7V:J9 Tryz.prog tab (I6 mL) 186 (λbs=>M.lift (b0u bs)):=a1V V5 N7 (pL2 (mL:=mL)).e (pL2 (mL:=mL)).s Tryz.func186 zw rfl λbs v h=>by obtain⟨T,hT,⟨rfl,rfl⟩|⟨rfl,rfl⟩⟩:=d1M h;refine⟨rfl,λc hh r w=>⟨2,a1f.pureE ?_ c hh r w⟩⟩;rw[a2h (q:=b4c) (N:=NN) zw 1];exact d6l NN _ T (sw hT zu) (V8 ps2 0 118 _ (g:=onS a8i) zw (b6O _ _ (uR (c1V T) hT)));refine⟨rfl,λc hh r w=>⟨2,a1f.pureE ?_ c hh r w⟩⟩;rw[a2h (q:=b4c) (N:=NN) zw 1];exact d6D NN _ T (sw hT zu) (V8 ps2 0 118 _ (g:=onS a8i) zw (b6O _ _ (uR (c1V T) hT)))
abbrev F79:=@d8S
abbrev F80:=@e9I
abbrev c0M:=@e5g
abbrev c2W:=@c4x
abbrev c1N:=@e3a
abbrev d3m:=@e4J
abbrev d2I:=@e6U
abbrev c2f:=@e6n
abbrev F32:=And.intro @e9h<| @J4
abbrev L32:=@d0u
end Go.Proofs.YtmomonnlmbljoaaGreatDoor
end
