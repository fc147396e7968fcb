import Derived.Test.YtmomonnlmbljoaaGreatDoorProg
import Derived.Test.YtmomonnlmbljoaaGreatDoorGah
import Derived.Test.YtmomonnlmbljoaaGreatDoorGay
set_option maxRecDepth 1000000
set_option maxHeartbeats 4000000
set_option linter.unusedVariables false
set_option linter.unusedSimpArgs false
noncomputable section
namespace Go.Proofs.YtmomonnlmbljoaaGreatDoor
open Go.V Go.RowKit Go.Shelf Go.Proofs
variable {mL:Int}
def dgN (z:Nat):Option Nat:=bcase (Nat.ble 48 z&&Nat.ble z 57) (some (z-48)) (bcase (Nat.ble 97 z&&Nat.ble z 102) (some (z-87)) (bcase (Nat.ble 65 z&&Nat.ble z 70) (some (z-55)) none))
def dgI (z:Nat):Int:=match dgN z with|some d=>.ofNat d|none=>.negSucc 0
theorem c8D {z d}(h:dgN z=some d):d<16:=by unfold dgN at h;cases h1:Nat.ble 48 z&&Nat.ble z 57 with|true=>rw[h1]at h;simp only[wh,Nat.ble_eq]at h1;cases h;omega|false=>rw[h1]at h;cases h2:Nat.ble 97 z&&Nat.ble z 102 with|true=>rw[h2]at h;simp only[wh,Nat.ble_eq]at h2;cases h;omega|false=>rw[h2]at h;cases h3:Nat.ble 65 z&&Nat.ble z 70 with|true=>rw[h3]at h;simp only[wh,Nat.ble_eq]at h3;cases h;omega|false=>rw[h3]at h;cases h
def dig (B:Nat):List UInt8->Nat->Bool->Bool->Option (Nat×Bool×Bool)|[],n,ov,bt=>some (n,ov,bt)|b::l,n,ov,bt=>bcase (decide (b.toNat=95)&&bt) (dig B l n ov false) (match dgN b.toNat with|some d=>bcase (decide (d<B)) (dig B l ((n*B+d)%18446744073709551616) (ov||decide (18446744073709551616<=n*B+d)) true) none|none=>none)
theorem w64 (n)(h:n<18446744073709551616):N8 .u64 (Int.ofNat n)=Int.ofNat n:=b0j .u64 n h
theorem b0U (n)(h:n<9223372036854775808):N8 .i64 (Int.ofNat n)=Int.ofNat n:=b0j .i64 n h
theorem b4l (i n)(h:i<n):decide (Int.ofNat i<Int.ofNat n)=true:=zm
theorem b1y (i n)(h:¬i<n):decide (Int.ofNat i<Int.ofNat n)=false:=zm
theorem b5Z (i)(h:i<2000000):N8 .i64 (Int.ofNat i+Int.ofNat 1)=Int.ofNat (i+1):=by have:(Int.ofNat i+Int.ofNat 1)=Int.ofNat (i+1):=rfl;rw[this];exact b0U _ zy
theorem b4n {α:Type}{T:List α}{i b l}(h:T.drop i=b::l):T[i]?=some b/\T.drop (i+1)=l/\i<T.length:=by
 have h1:(T.drop i)[0]?=some b:=by rw[h];rfl
 rw[uW,vZ]at h1;refine⟨h1,?_,(xC.1 h1).1⟩;rw[show i+1=i+1 by rfl,<-pI,h];rfl
def b1i (bs:List Value):Option Value:=match bs with|[.int .u64 (.ofNat x),.int .u64 (.ofNat y)]=>bcase (Nat.blt x 18446744073709551616&&Nat.blt y 18446744073709551616) (some (.tuple ⟨[.int .u64 (.ofNat (x*y/18446744073709551616)),.int .u64 (.ofNat (x*y%18446744073709551616))]⟩)) none|_=>none
structure MagC (call:I5):Prop where
 dg:∀ b:UInt8,call 162 [.int .u8 (.ofNat b.toNat)]=M.pure (.ret (.int .i64 (dgI b.toNat)))
 mul:∀ x y:Nat,x<18446744073709551616→y<18446744073709551616→call 130 [.int .u64 (.ofNat x),.int .u64 (.ofNat y)]=M.pure (.ret (.tuple ⟨[.int .u64 (.ofNat (x * y / 18446744073709551616)),.int .u64 (.ofNat (x * y % 18446744073709551616))]⟩))
 add:∀ x y:Nat,call 163 [.int .u64 (.ofNat x),.int .u64 (.ofNat y),.int .u64 (.ofNat 0)]=M.pure (.ret (.tuple ⟨[.int .u64 (.ofNat ((x+y) % 18446744073709551616)),.int .u64 (.ofNat ((x+y) / 18446744073709551616))]⟩))
theorem d2a (X d):X/18446744073709551616+(X%18446744073709551616+d)/18446744073709551616=(X+d)/18446744073709551616/\(X%18446744073709551616+d)%18446744073709551616=(X+d)%18446744073709551616:=zy
theorem d6a (Y)(h:Y<18446744073709551616*100):(!(decide (Int.ofNat (Y/18446744073709551616)=Int.ofNat 0)))=decide (18446744073709551616<=Y):=zu
theorem d1R (N0:Nat)(call:I5)(C:MagC call)(T:List UInt8)(hT:T.length<2000000)(B:Nat)(hB:B=10\/B=16)(u0 u1 u2 u3 u4 u5 u6 u7 u8 u9:Value):∀(l:List UInt8) (i N n:Nat) (ov bt:Bool) (g0 g1 g2 g3 g4 g5 g6 g7 g8 g9 g10 g11 g12 g13 g14 g15 g16 g17 g18 g19 g20 g21 g22 g23 g24 g25 g26 g27 g28 g29 g30 g31 g32 g33 g34 g35 g36 g37 g38 g39 g40 g41 g42 g43 g44 g45 g46 g47 g48 g49 g51 g54:Value),T.drop i=l->l.length<N->n<18446744073709551616->∃x:Xc×List Value,Q5 (c5g o9 N0 call (.int .i64 (.ofNat T.length)) [u0,u1,u2,u3,u4,u5,u6,u7,u8,u9,.int .u64 (.ofNat B),.string ⟨⟨T⟩⟩]) N [g0,g1,g2,g3,g4,g5,g6,g7,g8,g9,g10,g11,g12,g13,g14,g15,g16,g17,g18,g19,g20,g21,g22,g23,g24,g25,g26,g27,g28,g29,g30,g31,g32,g33,g34,g35,g36,g37,g38,g39,g40,g41,g42,g43,g44,g45,g46,g47,g48,g49,.bool ov,g51,.int .u64 (.ofNat n),.bool bt,g54,.int .i64 (.ofNat i)]=M.pure x/\match dig B l n ov bt with|some q=>x.1=.exit 0/\C8 x.2 52=.int .u64 (.ofNat q.1)/\C8 x.2 50=.bool q.2.1/\C8 x.2 53=.bool q.2.2|none=>x.1=.ret/\C8 x.2 23=.int .u64 (.ofNat 0)/\C8 x.2 24=.bool false/\C8 x.2 25=.bool false:=by
 intro l;induction l with
  |nil=>intro i N n ov bt g0 g1 g2 g3 g4 g5 g6 g7 g8 g9 g10 g11 g12 g13 g14 g15 g16 g17 g18 g19 g20 g21 g22 g23 g24 g25 g26 g27 g28 g29 g30 g31 g32 g33 g34 g35 g36 g37 g38 g39 g40 g41 g42 g43 g44 g45 g46 g47 g48 g49 g51 g54 hd hN hn;obtain⟨N,rfl⟩:∃m,N=m+1:=⟨N-1,zy⟩;have hi:¬i<T.length:=yQ;have h1:=b1y i T.length hi;rw[Z6];simp(disch:=first|exact dy|fail)only[a8e,h1,U1,Y6,Y8,N9,G5,Q3,Q6,Q7,a6A,l_0,l_s,N7,I6,a2x,V.e7i,I7,M4];exact⟨_,rfl,rfl,rfl,rfl,rfl⟩|cons b l ih=>
   intro i N n ov bt g0 g1 g2 g3 g4 g5 g6 g7 g8 g9 g10 g11 g12 g13 g14 g15 g16 g17 g18 g19 g20 g21 g22 g23 g24 g25 g26 g27 g28 g29 g30 g31 g32 g33 g34 g35 g36 g37 g38 g39 g40 g41 g42 g43 g44 g45 g46 g47 g48 g49 g51 g54 hd hN hn;obtain⟨N,rfl⟩:∃m,N=m+1:=⟨N-1,zy⟩;obtain⟨hb,hd',hi⟩:=b4n hd;have h1:=b4l i T.length hi;have hbT:(⟨⟨T⟩⟩:ByteArray).data.toList[i]?=some b:=hb;have h2:=a0l ⟨⟨T⟩⟩ i b hbT;have hs:=b5Z i zy;have hlen:l.length<N:=zu;have e95:decide (Int.ofNat b.toNat=Int.ofNat 95)=decide (b.toNat=95):=zu;cases hc:decide (b.toNat=95)&&bt with
    |true=>
     rw[wh]at hc;obtain⟨hc1,rfl⟩:=hc;have hdig:dig B (b::l) n ov true=dig B l n ov false:=by show bcase (decide (b.toNat=95)&&true) _ _=_;rw[hc1];rfl
     rw[hdig];rw[Z6];simp(disch:=first|exact dy|fail)only[a8e,h1,h2,hs,e95,hc1,U1,Y6,Y8,Q4,N9,G6,Q3,Q6,Q7,a6A,l_0,l_s,X8,N7,I6,V.e7i,W9,I7,M4];exact ih (i+1) N n ov false _ _ _ _ _ _ _ _ _ _ _ _ _ _ _ _ _ _ _ _ _ _ _ _ _ _ _ _ _ _ _ _ _ _ _ _ _ _ _ _ _ _ _ _ _ _ _ _ _ _ _ _ hd' hlen hn|false=>
     have hdig:dig B (b::l) n ov bt=(match dgN b.toNat with|some d=>bcase (decide (d<B)) (dig B l ((n*B+d)%18446744073709551616) (ov||decide (18446744073709551616<=n*B+d)) true) none|none=>none):=by show bcase (decide (b.toNat=95)&&bt) _ _=_;rw[hc];rfl
     have hpick:a3R (.bool (decide (b.toNat=95))) (bcase (decide (b.toNat=95)) (.bool bt) undef) (.bool false)=M.pure (.bool false):=by rw[a7o,hc]
     have hdg:=C.dg b;cases hq:dgN b.toNat with
      |none=>
       have e1:dgI b.toNat=.negSucc 0:=by grind[dgI]
       rw[e1]at hdg;have e2:decide (Int.negSucc 0<Int.ofNat 0)=true:=rfl;have hd2:dig B (b::l) n ov bt=none:=by rw[hdig,hq]
       rw[hd2,Z6];simp(disch:=first|exact dy|fail)only[a8e,h1,h2,e95,hpick,hdg,e2,U1,Y6,Y8,J3,Q4,N9,G6,G5,Q3,Q6,Q7,a6A,l_0,l_s,X8,N7,I6,a3l,V.e7i,W9,I7,a3N,M4,a1t];exact⟨_,rfl,rfl,rfl,rfl,rfl⟩|some d=>
       have hd16:=c8D hq;have e1:dgI b.toNat=.ofNat d:=by grind[dgI]
       rw[e1]at hdg;have e2:decide (Int.ofNat d<Int.ofNat 0)=false:=by rfl
       have e3:N8 .u64 (Int.ofNat d)=Int.ofNat d:=w64 d zy;cases hdB:decide (d<B)with
        |false=>
         have e4:decide (Int.ofNat B<=Int.ofNat d)=true:=zu;have hd2:dig B (b::l) n ov bt=none:=by rw[hdig,hq];show bcase (decide (d<B)) _ _=_;rw[hdB];rfl
         rw[hd2,Z6];simp(disch:=first|exact dy|fail)only[a8e,h1,h2,e95,hpick,hdg,e2,e3,e4,U1,Y6,Y8,J3,Q4,N9,G6,G5,Q3,Q6,Q7,a6A,l_0,l_s,X0,N7,I6,a3l,V.e7i,W9,I7,a3N,M4,a1t];exact⟨_,rfl,rfl,rfl,rfl,rfl⟩|true=>
         have e4:decide (Int.ofNat B<=Int.ofNat d)=false:=zu;have hB2:B<18446744073709551616:=zy;have hm:=C.mul n B hn hB2;obtain⟨c1,c2⟩:=d2a (n*B) d;have ha:=C.add (n*B%18446744073709551616) d;rw[c2]at ha;have hX:n*B<=n*16:=Nat.mul_le_mul_left n zy;have hY:n*B+d<18446744073709551616*100:=zy;have hw:N8 .u64 (Int.ofNat (n*B/18446744073709551616)+Int.ofNat ((n*B%18446744073709551616+d)/18446744073709551616))=Int.ofNat ((n*B+d)/18446744073709551616):=by have:Int.ofNat (n*B/18446744073709551616)+Int.ofNat ((n*B%18446744073709551616+d)/18446744073709551616)=Int.ofNat (n*B/18446744073709551616+(n*B%18446744073709551616+d)/18446744073709551616):=rfl;rw[this,c1];grind[w64]
         have hov:=d6a _ hY;have hd2:dig B (b::l) n ov bt=dig B l ((n*B+d)%18446744073709551616) (ov||decide (18446744073709551616<=n*B+d)) true:=by rw[hdig,hq];show bcase (decide (d<B)) _ _=_;rw[hdB];rfl
         have hpo:a3R (.bool ov) (.bool true) (bcase ov undef (.bool (decide (18446744073709551616<=n*B+d))))=M.pure (.bool (ov||decide (18446744073709551616<=n*B+d))):=b4v _ _;rw[hd2,Z6];simp(disch:=first|exact dy|fail)only[a8e,h1,h2,hs,e95,hpick,hdg,e2,e3,e4,hm,ha,hw,hov,hpo,U1,Y6,Y8,J3,Q4,N9,G6,G5,Q3,Q6,Q7,a6A,l_0,l_s,X0,N7,I6,V.e7i,G7,W9,a5d,I7,a3N,M4,U0,O5,O4,a1t];exact ih (i+1) N ((n*B+d)%18446744073709551616) (ov||decide (18446744073709551616<=n*B+d)) true _ _ _ _ _ _ _ _ _ _ _ _ _ _ _ _ _ _ _ _ _ _ _ _ _ _ _ _ _ _ _ _ _ _ _ _ _ _ _ _ _ _ _ _ _ _ _ _ _ _ _ _ hd' hlen (qJ _ zq)
def b5x (T:List UInt8):Bool:=decide (Int.ofNat 2<Int.ofNat T.length)&&beqBytes (a2i T 2) [48,120]
def a0y (T:List UInt8):Nat×Bool×Bool:=match bcase (b5x T) (dig 16 (F8 T 2) 0 false false) (dig 10 T 0 false false)with|some q=>q|none=>(0,false,false)
def a3O (T:List UInt8):Value:=.tuple ⟨[.int .u64 (.ofNat (a0y T).1),.bool (a0y T).2.1,.bool (a0y T).2.2]⟩
theorem b6d (T k n)(h:n<=T.length):a5H (.string ⟨⟨T⟩⟩) none (some (.int k (.ofNat n)))=M.pure (.string ⟨⟨a2i T n⟩⟩):=by
 show a7K ⟨⟨T⟩⟩ _ _=_;unfold a7K;have h':Nat.ble n (F9 T)=true:=by rw[J2];simp_all
 have h0:Nat.ble 0 n=true:=a2e (vY _);simp only[a2U,a9l,G7,h',h0,a9o,V4,a0g,Y7,sG]
theorem a0m (T k n)(h:n<=T.length):a5H (.string ⟨⟨T⟩⟩) (some (.int k (.ofNat n))) none=M.pure (.string ⟨⟨F8 T n⟩⟩):=by
 rw[a5U _ _ _ (by rw[J2];exact h)];have:a2i (F8 T n) (F9 T-n)=F8 T n:=by rw[a3F,a0O,J2];grind[List.length_drop]
 simp_all
theorem f0r (N call)(C:MagC call)(T)(hT:T.length<N)(hT2:T.length<2000000):c0V o9 N call (.string ⟨⟨T⟩⟩)=M.pure (.ret (a3O T)):=by
 have hlenS:∀T:List UInt8,a3S (.string ⟨⟨T⟩⟩)=M.pure (.int .i64 (.ofNat T.length)):=λT=>a1k _;unfold a3O a0y b5x;have h0:T.drop 0=T:=rfl;cases h1:decide (Int.ofNat 2<Int.ofNat T.length)with
  |false=>simp(disch:=first|exact dy|fail)only[c7Q,hlenS,h1,uf,U1,Y6,b0n,a0U,Q0,Q4,G5,l_0,l_s,X0,N7,I6,V.e7i,R6];obtain⟨x,hx,hm⟩:=d1R N call C T hT2 10 (Or.inl rfl) _ _ _ _ _ _ _ _ _ _ T 0 N 0 false false _ _ _ _ _ _ _ _ _ _ _ _ _ _ _ _ _ _ _ _ _ _ _ _ _ _ _ _ _ _ _ _ _ _ _ _ _ _ _ _ _ _ _ _ _ _ _ _ _ _ _ _ rfl hT zq;rw[hx,V.e7i];cases hd:dig 10 T 0 false false<;>first|rfl|grind[a3l,a2x,J4,G6]
  |true=>
   have hl:2<=T.length:=zu;cases h2:beqBytes (a2i T 2) [48,120]with
    |false=>simp(disch:=first|exact dy|fail)only[c7Q,hlenS,h1,h2,a7i,b6d,a0m,U1,Y6,b0n,a0U,Q0,Q4,G6,G5,Q3,Q6,Q7,l_0,l_s,X8,N7,I6,V.e7i,R6,a4S,D9];obtain⟨x,hx,hm⟩:=d1R N call C T hT2 10 (Or.inl rfl) _ _ _ _ _ _ _ _ _ _ T 0 N 0 false false _ _ _ _ _ _ _ _ _ _ _ _ _ _ _ _ _ _ _ _ _ _ _ _ _ _ _ _ _ _ _ _ _ _ _ _ _ _ _ _ _ _ _ _ _ _ _ _ _ _ _ _ rfl hT zq;rw[hx,V.e7i];cases hd:dig 10 T 0 false false<;>first|rfl|grind[a3l,a2x,J4,G6]
    |true=>
     have hl2:(F8 T 2).length=T.length-2:=by rw[a0O,vz]
     simp(disch:=first|exact dy|fail)only[c7Q,hlenS,h1,h2,b6d,a0m,U1,Y6,b0n,a0U,Q0,Q4,G6,Q3,Q6,Q7,l_0,l_s,X8,N7,I6,V.e7i,R6,a4S,a9o,D9];obtain⟨x,hx,hm⟩:=d1R N call C (F8 T 2) zy 16 (Or.inr rfl) _ _ _ _ _ _ _ _ _ _ (F8 T 2) 0 N 0 false false _ _ _ _ _ _ _ _ _ _ _ _ _ _ _ _ _ _ _ _ _ _ _ _ _ _ _ _ _ _ _ _ _ _ _ _ _ _ _ _ _ _ _ _ _ _ _ _ _ _ _ _ rfl zy zq;rw[hx,V.e7i];cases hd:dig 16 (F8 T 2) 0 false false<;>first|rfl|grind[a3l,a2x,J4,G6]
theorem c9s (B):∀(l) (n) (ov bt) (q),n<18446744073709551616->dig B l n ov bt=some q->q.1<18446744073709551616:=by intro l;induction l with|nil=>intro n ov bt q hn h;cases h;exact hn|cons b l ih=>intro n ov bt q hn h;have h':bcase (decide (b.toNat=95)&&bt) (dig B l n ov false) (match dgN b.toNat with|some d=>bcase (decide (d<B)) (dig B l ((n*B+d)%18446744073709551616) (ov||decide (18446744073709551616<=n*B+d)) true) none|none=>none)=some q:=h;cases hc:decide (b.toNat=95)&&bt<;>first|rfl|grind[decide,G6,G5]
theorem a8j (T):(a0y T).1<18446744073709551616:=by
 unfold a0y;split;rename_i q h;cases hx:b5x T with|true=>rw[hx]at h;exact c9s _ _ _ _ _ _ zq h|false=>rw[hx]at h;exact c9s _ _ _ _ _ _ zq h
 decide
def a0T (T:List UInt8):Nat×Nat:=bcase (a0y T).2.2 (bcase ((a0y T).2.1||decide (4294967295<(a0y T).1)) (0,6) ((a0y T).1,0)) (0,4)
def a3Y (T:List UInt8):Value:=.tuple ⟨[.int .i64 (.ofNat (a0T T).1),.int .i64 (.ofNat (a0T T).2)]⟩
theorem X6 (a b):decide (Int.ofNat a<Int.ofNat b)=decide (a<b):=zm
theorem deq (a b):decide (Int.ofNat a=Int.ofNat b)=decide (a=b):=zu
theorem n81 (N call T)(hm:call 118 [.string ⟨⟨T⟩⟩]=M.pure (.ret (a3O T))):c7A o9 N call (.string ⟨⟨T⟩⟩) (.int .i64 (.ofNat 4294967295))=M.pure (.ret (a3Y T)):=by have hlt:=a8j T;unfold a3Y a0T;unfold a3O at hm;generalize a0y T=q at*;obtain⟨n,o,k⟩:=q;have e1:decide (Int.ofNat 4294967295<Int.ofNat 0)=false:=rfl;have e2:N8 .u64 (Int.ofNat 4294967295)=Int.ofNat 4294967295:=rfl;cases k with|false=>simp(disch:=first|exact dy|fail)only[c6j,hm,U1,Y6,Y8,J3,G5,Q3,Q6,Q7,a6A,l_0,l_s,N7,I6,V.e7i,G7,I7,T9,U0,O5,O4,a1t]|true=>cases o with|true=>simp(disch:=first|exact dy|fail)only[c6j,hm,vP,U1,Y6,Y8,J3,N9,G6,Q3,Q6,Q7,a6A,l_0,l_s,X8,N7,I6,V.e7i,G7,I7,T9,U0,O5,O4,a1t]|false=>cases h:decide (4294967295<n)with|true=>simp(disch:=first|exact dy|fail)only[c6j,hm,e1,e2,X6,h,wF,U1,Y6,Y8,J3,N9,G6,G5,Q3,Q6,Q7,a6A,l_0,l_s,X0,N7,I6,V.e7i,G7,I7,R6,T9,U0,O5,O4,a1t]|false=>have hn:n<=4294967295:=zm;have e3:N8 .i64 (Int.ofNat n)=Int.ofNat n:=b0U n zy;simp(disch:=first|exact dy|fail)only[c6j,hm,e1,e2,e3,X6,h,wF,U1,Y6,Y8,J3,N9,G6,G5,Q3,Q6,Q7,a6A,l_0,l_s,X0,N7,I6,V.e7i,G7,I7,R6,T9,U0,O5,O4,a1t]
def d8B (T:List UInt8):Bool:=match T with|[]=>false|b::_=>decide (b.toNat=45)||decide (b.toNat=43)
def a8g (T:List UInt8):Bool:=match T with|[]=>false|b::_=>decide (b.toNat=45)
def a1P (T:List UInt8):List UInt8:=bcase (d8B T) (F8 T 1) T
def b4a (n:Nat):Nat:=(18446744073709551616-n)%18446744073709551616
def a0h (T:List UInt8)(gr:Nat):Nat×Nat:=bcase (a0y (a1P T)).2.2 (bcase ((a0y (a1P T)).2.1||bcase (a8g T) (decide (gr/2+1<(a0y (a1P T)).1)) (decide (gr<(a0y (a1P T)).1))) (0,6) (bcase (a8g T) (Nat.land (b4a (a0y (a1P T)).1) gr,0) ((a0y (a1P T)).1,0))) (0,4)
def a5L (T:List UInt8)(gr:Nat):Value:=.tuple ⟨[.int .u64 (.ofNat (a0h T gr).1),.int .i64 (.ofNat (a0h T gr).2)]⟩
theorem b3y (p n)(h:n<18446744073709551616):xUn p .neg (.int .u64 (.ofNat n))=M.pure (.int .u64 (.ofNat (b4a n))):=by
 have e:xUn p .neg (.int .u64 (.ofNat n))=M.pure (.int .u64 (IntKind.u64.wrap (0-(Int.ofNat n)))):=by rfl
 rw[e,IntKind.wrap_u64];have:(0-(Int.ofNat n))%18446744073709551616=Int.ofNat (b4a n):=by grind[b4a]
 rw[this]
theorem b0O (p T t x y n m)(h1:n<18446744073709551616)(h2:m<18446744073709551616):a0J p T .and t x y (.int .u64 (.ofNat n)) (.int .u64 (.ofNat m))=M.pure (.int .u64 (.ofNat (Nat.land n m))):=b2k p T t x y .u64 n m rfl h1 h2
theorem c3i (n):b4a n<18446744073709551616:=qJ _ zq
theorem d5Y (N call T)(hT:T.length<2000000)(hm:call 118 [.string ⟨⟨a1P T⟩⟩]=M.pure (.ret (a3O (a1P T)))):b4z o9 N call (.string ⟨⟨T⟩⟩) (.int .i64 (.ofNat 32))=M.pure (.ret (a5L T 4294967295)):=by
 have hlt:=a8j (a1P T);have hlenS:∀T:List UInt8,a3S (.string ⟨⟨T⟩⟩)=M.pure (.int .i64 (.ofNat T.length)):=λT=>a1k _;have f1:decide (Int.ofNat 32<Int.ofNat 1)=false:=rfl;have f2:decide (Int.ofNat 64<Int.ofNat 32)=false:=rfl;have f3:N8 .i64 (Int.ofNat 64-Int.ofNat 32)=Int.ofNat 32:=rfl;have f4:(Int.ofNat 18446744073709551615).fdiv 4294967296=Int.ofNat 4294967295:=rfl;have f5:(Int.ofNat 4294967295).fdiv 2=Int.ofNat 2147483647:=rfl;have f6:N8 .u64 (Int.ofNat 2147483647+Int.ofNat 1)=Int.ofNat 2147483648:=rfl;have f7:4294967295/2+1=2147483648:=rfl;unfold a5L a0h;unfold a3O at hm;cases T with
  |nil=>have u1:a1P []=[]:=rfl;have u2:a8g []=false:=rfl;have u3:beqBytes ([]:List UInt8) []=true:=rfl;have u4:decide (Int.ofNat 0<Int.ofNat ([]:List UInt8).length)=false:=rfl;rw[u1]at hm hlt⊢;rw[u2];generalize a0y []=q at*;obtain⟨n,o,k⟩:=q;cases k with|false=>simp(disch:=first|exact dy|fail)only[a1c,hm,u3,f1,f2,f3,f4,f5,f6,U1,Y6,Y8,J3,Q0,Q4,N9,G6,G5,Q3,Q6,Q7,l_0,l_s,V8,X8,X0,Int.reducePow,N7,I6,V.e7i,G7,I7,R6,M4,V9,U9,T9,R8,U0,O5,O4,a1o,a0K]|true=>cases o with|true=>simp(disch:=first|exact dy|fail)only[a1c,hm,u3,f1,f2,f3,f4,f5,f6,vP,U1,Y6,Y8,J3,Q0,Q4,N9,G6,G5,Q3,Q6,Q7,l_0,l_s,V8,X8,X0,Int.reducePow,N7,I6,V.e7i,G7,I7,R6,M4,V9,U9,T9,R8,U0,O5,O4,a1o,a0K]|false=>cases h:decide (4294967295<n)with|true=>simp(disch:=first|exact dy|fail)only[a1c,hm,u3,X6,h,f1,f2,f3,f4,f5,f6,wF,U1,Y6,Y8,J3,Q0,Q4,N9,G6,G5,Q3,Q6,Q7,l_0,l_s,V8,X8,X0,Int.reducePow,N7,I6,V.e7i,G7,I7,R6,M4,V9,U9,T9,R8,U0,O5,O4,a1o,a0K]|false=>simp(disch:=first|exact dy|fail)only[a1c,hm,u3,X6,h,f1,f2,f3,f4,f5,f6,wF,U1,Y6,Y8,J3,Q0,Q4,N9,G6,G5,Q3,Q6,Q7,l_0,l_s,V8,X8,X0,Int.reducePow,N7,I6,V.e7i,G7,I7,R6,M4,V9,U9,T9,R8,U0,O5,O4,a1o,a0K]
  |cons b l=>
   have i0:=a0l ⟨⟨b::l⟩⟩ 0 b rfl;have hlen1:1<=(b::l).length:=zn;have u3:beqBytes (b::l) []=false:=rfl;have u4:decide (Int.ofNat 0<Int.ofNat (b::l).length)=true:=by rw[X6];rfl
   have u5:F8 (b::l) 1=l:=by rw[a4L,Y7]
   cases h45:decide (b.toNat=45)with
    |true=>
     have u1:a1P (b::l)=l:=yN;have u2:a8g (b::l)=true:=h45;rw[u1]at hm hlt⊢;rw[u2];generalize a0y l=q at*;obtain⟨n,o,k⟩:=q;simp only at hlt hm;have hng:=c3i n;cases k with
      |false=>simp(disch:=first|exact dy|fail)only[a1c,hm,i0,u3,u5,deq,h45,a0m,f1,f2,f3,f4,f5,f6,U1,Y6,Y8,J3,a0U,Q0,Q4,N9,G6,G5,Q3,Q6,Q7,l_0,l_s,a1J,V8,X8,X0,Int.reducePow,N7,I6,V.e7i,G7,W9,I7,R6,M4,V9,U9,T9,R8,U0,O5,O4,a1o,a0K,D9]|true=>
       cases o with
        |true=>simp(disch:=first|exact dy|fail)only[a1c,hm,i0,u3,u5,deq,h45,a0m,f1,f2,f3,f4,f5,f6,vP,U1,Y6,Y8,J3,a0U,Q0,Q4,N9,G6,G5,Q3,Q6,Q7,l_0,l_s,a1J,V8,X8,X0,Int.reducePow,N7,I6,V.e7i,G7,W9,I7,R6,M4,V9,U9,T9,R8,U0,O5,O4,a1o,a0K,D9]|false=>
         cases h:decide (2147483648<n)with
          |true=>cases hg:decide (4294967295<n)with|true=>simp(disch:=first|exact dy|fail)only[a1c,hm,i0,u3,u5,deq,h45,a0m,X6,h,f1,f2,f3,f4,f5,f6,wF,U1,Y6,Y8,J3,a0U,Q0,Q4,N9,G6,G5,Q3,Q6,Q7,l_0,l_s,a1J,V8,X8,X0,Int.reducePow,N7,I6,V.e7i,G7,W9,I7,R6,M4,V9,U9,T9,R8,U0,O5,O4,a1o,a0K,D9]|false=>simp(disch:=first|exact dy|fail)only[a1c,hm,i0,u3,u5,deq,h45,a0m,X6,h,f1,f2,f3,f4,f5,f6,wF,U1,Y6,Y8,J3,a0U,Q0,Q4,N9,G6,G5,Q3,Q6,Q7,l_0,l_s,a1J,V8,X8,X0,Int.reducePow,N7,I6,V.e7i,G7,W9,I7,R6,M4,V9,U9,T9,R8,U0,O5,O4,a1o,a0K,D9]
          |false=>have hg:decide (4294967295<n)=false:=zu;simp(disch:=first|exact dy|fail)only[a1c,hm,i0,u3,u5,deq,h45,a0m,X6,h,hg,b3y,b0O,f1,f2,f3,f4,f5,f6,wF,U1,Y6,Y8,J3,a0U,Q0,Q4,N9,G6,G5,Q3,Q6,Q7,l_0,l_s,a1J,V8,X8,X0,Int.reducePow,N7,I6,V.e7i,G7,W9,I7,R6,M4,V9,U9,T9,R8,U0,O5,O4,a1o,a0K,D9]
    |false=>
     have u2:a8g (b::l)=false:=h45;cases h43:decide (b.toNat=43)with
      |true=>have u1:a1P (b::l)=l:=yS;rw[u1]at hm hlt⊢;rw[u2];generalize a0y l=q at*;obtain⟨n,o,k⟩:=q;cases k with|false=>simp(disch:=first|exact dy|fail)only[a1c,hm,i0,u3,u5,deq,h45,h43,a0m,f1,f2,f3,f4,f5,f6,U1,Y6,Y8,J3,Q0,Q4,N9,G6,G5,Q3,Q6,Q7,l_0,l_s,a1J,V8,a4i,X8,X0,Int.reducePow,N7,I6,V.e7i,G7,W9,I7,R6,M4,V9,U9,T9,R8,U0,O5,O4,a0K,a4G,D9]|true=>cases o with|true=>simp(disch:=first|exact dy|fail)only[a1c,hm,i0,u3,u5,deq,h45,h43,a0m,f1,f2,f3,f4,f5,f6,vP,U1,Y6,Y8,J3,Q0,Q4,N9,G6,G5,Q3,Q6,Q7,l_0,l_s,a1J,V8,a4i,X8,X0,Int.reducePow,N7,I6,V.e7i,G7,W9,I7,R6,M4,V9,U9,T9,R8,U0,O5,O4,a1o,a0K,a4G,D9]|false=>cases h:decide (4294967295<n)with|true=>simp(disch:=first|exact dy|fail)only[a1c,hm,i0,u3,u5,deq,h45,h43,a0m,X6,h,f1,f2,f3,f4,f5,f6,wF,U1,Y6,Y8,J3,Q0,Q4,N9,G6,G5,Q3,Q6,Q7,l_0,l_s,a1J,V8,a4i,X8,X0,Int.reducePow,N7,I6,V.e7i,G7,W9,I7,R6,M4,V9,U9,T9,R8,U0,O5,O4,a1o,a0K,a4G,D9]|false=>simp(disch:=first|exact dy|fail)only[a1c,hm,i0,u3,u5,deq,h45,h43,a0m,X6,h,f1,f2,f3,f4,f5,f6,wF,U1,Y6,Y8,J3,Q0,Q4,N9,G6,G5,Q3,Q6,Q7,l_0,l_s,a1J,V8,a4i,X8,X0,Int.reducePow,N7,I6,V.e7i,G7,W9,I7,R6,M4,V9,U9,T9,R8,U0,O5,O4,a1o,a0K,a4G,D9]
      |false=>have u1:a1P (b::l)=b::l:=yR;rw[u1]at hm hlt⊢;rw[u2];generalize a0y (b::l)=q at*;obtain⟨n,o,k⟩:=q;cases k with|false=>simp(disch:=first|exact dy|fail)only[a1c,hm,i0,u3,deq,h45,h43,f1,f2,f3,f4,f5,f6,U1,Y6,Y8,J3,Q0,Q4,N9,G6,G5,Q3,Q6,Q7,l_0,l_s,a1J,V8,a4i,X8,X0,Int.reducePow,N7,I6,V.e7i,G7,W9,I7,R6,M4,V9,U9,T9,R8,U0,O5,O4,a0K,a4G]|true=>cases o with|true=>simp(disch:=first|exact dy|fail)only[a1c,hm,i0,u3,deq,h45,h43,f1,f2,f3,f4,f5,f6,vP,U1,Y6,Y8,J3,Q0,Q4,N9,G6,G5,Q3,Q6,Q7,l_0,l_s,a1J,V8,a4i,X8,X0,Int.reducePow,N7,I6,V.e7i,G7,W9,I7,R6,M4,V9,U9,T9,R8,U0,O5,O4,a1o,a0K,a4G]|false=>cases h:decide (4294967295<n)with|true=>simp(disch:=first|exact dy|fail)only[a1c,hm,i0,u3,deq,h45,h43,X6,h,f1,f2,f3,f4,f5,f6,wF,U1,Y6,Y8,J3,Q0,Q4,N9,G6,G5,Q3,Q6,Q7,l_0,l_s,a1J,V8,a4i,X8,X0,Int.reducePow,N7,I6,V.e7i,G7,W9,I7,R6,M4,V9,U9,T9,R8,U0,O5,O4,a1o,a0K,a4G]|false=>simp(disch:=first|exact dy|fail)only[a1c,hm,i0,u3,deq,h45,h43,X6,h,f1,f2,f3,f4,f5,f6,wF,U1,Y6,Y8,J3,Q0,Q4,N9,G6,G5,Q3,Q6,Q7,l_0,l_s,a1J,V8,a4i,X8,X0,Int.reducePow,N7,I6,V.e7i,G7,W9,I7,R6,M4,V9,U9,T9,R8,U0,O5,O4,a1o,a0K,a4G]
theorem d6Y (N call T)(hT:T.length<2000000)(hm:call 118 [.string ⟨⟨a1P T⟩⟩]=M.pure (.ret (a3O (a1P T)))):b4z o9 N call (.string ⟨⟨T⟩⟩) (.int .i64 (.ofNat 64))=M.pure (.ret (a5L T 18446744073709551615)):=by
 have hlt:=a8j (a1P T);have hlenS:∀T:List UInt8,a3S (.string ⟨⟨T⟩⟩)=M.pure (.int .i64 (.ofNat T.length)):=λT=>a1k _;have f1:decide (Int.ofNat 64<Int.ofNat 1)=false:=rfl;have f2:decide (Int.ofNat 64<Int.ofNat 64)=false:=rfl;have f3:N8 .i64 (Int.ofNat 64-Int.ofNat 64)=Int.ofNat 0:=rfl;have f4:(Int.ofNat 18446744073709551615).fdiv 1=Int.ofNat 18446744073709551615:=rfl;have f5:(Int.ofNat 18446744073709551615).fdiv 2=Int.ofNat 9223372036854775807:=rfl;have f6:N8 .u64 (Int.ofNat 9223372036854775807+Int.ofNat 1)=Int.ofNat 9223372036854775808:=rfl;have f7:18446744073709551615/2+1=9223372036854775808:=rfl;unfold a5L a0h;unfold a3O at hm;cases T with
  |nil=>have u1:a1P []=[]:=rfl;have u2:a8g []=false:=rfl;have u3:beqBytes ([]:List UInt8) []=true:=rfl;have u4:decide (Int.ofNat 0<Int.ofNat ([]:List UInt8).length)=false:=rfl;rw[u1]at hm hlt⊢;rw[u2];generalize a0y []=q at*;obtain⟨n,o,k⟩:=q;cases k with|false=>simp(disch:=first|exact dy|fail)only[a1c,hm,u3,f1,f2,f3,f4,f5,f6,U1,Y6,Y8,J3,Q0,Q4,N9,G6,G5,Q3,Q6,Q7,l_0,l_s,V8,X8,X0,Int.reducePow,N7,I6,V.e7i,G7,I7,R6,M4,V9,U9,T9,R8,U0,O5,O4,a1o,a0K]|true=>cases o with|true=>simp(disch:=first|exact dy|fail)only[a1c,hm,u3,f1,f2,f3,f4,f5,f6,vP,U1,Y6,Y8,J3,Q0,Q4,N9,G6,G5,Q3,Q6,Q7,l_0,l_s,V8,X8,X0,Int.reducePow,N7,I6,V.e7i,G7,I7,R6,M4,V9,U9,T9,R8,U0,O5,O4,a1o,a0K]|false=>cases h:decide (18446744073709551615<n)with|true=>grind|false=>simp(disch:=first|exact dy|fail)only[a1c,hm,u3,X6,h,f1,f2,f3,f4,f5,f6,wF,U1,Y6,Y8,J3,Q0,Q4,N9,G6,G5,Q3,Q6,Q7,l_0,l_s,V8,X8,X0,Int.reducePow,N7,I6,V.e7i,G7,I7,R6,M4,V9,U9,T9,R8,U0,O5,O4,a1o,a0K]
  |cons b l=>
   have i0:=a0l ⟨⟨b::l⟩⟩ 0 b rfl;have hlen1:1<=(b::l).length:=zn;have u3:beqBytes (b::l) []=false:=rfl;have u4:decide (Int.ofNat 0<Int.ofNat (b::l).length)=true:=by rw[X6];rfl
   have u5:F8 (b::l) 1=l:=by rw[a4L,Y7]
   cases h45:decide (b.toNat=45)with
    |true=>
     have u1:a1P (b::l)=l:=yN;have u2:a8g (b::l)=true:=h45;rw[u1]at hm hlt⊢;rw[u2];generalize a0y l=q at*;obtain⟨n,o,k⟩:=q;simp only at hlt hm;have hng:=c3i n;cases k with
      |false=>simp(disch:=first|exact dy|fail)only[a1c,hm,i0,u3,u5,deq,h45,a0m,f1,f2,f3,f4,f5,f6,U1,Y6,Y8,J3,a0U,Q0,Q4,N9,G6,G5,Q3,Q6,Q7,l_0,l_s,a1J,V8,X8,X0,Int.reducePow,N7,I6,V.e7i,G7,W9,I7,R6,M4,V9,U9,T9,R8,U0,O5,O4,a1o,a0K,D9]|true=>
       cases o with
        |true=>simp(disch:=first|exact dy|fail)only[a1c,hm,i0,u3,u5,deq,h45,a0m,f1,f2,f3,f4,f5,f6,vP,U1,Y6,Y8,J3,a0U,Q0,Q4,N9,G6,G5,Q3,Q6,Q7,l_0,l_s,a1J,V8,X8,X0,Int.reducePow,N7,I6,V.e7i,G7,W9,I7,R6,M4,V9,U9,T9,R8,U0,O5,O4,a1o,a0K,D9]|false=>
         cases h:decide (9223372036854775808<n)with
          |true=>cases hg:decide (18446744073709551615<n)with|true=>grind|false=>simp(disch:=first|exact dy|fail)only[a1c,hm,i0,u3,u5,deq,h45,a0m,X6,h,f1,f2,f3,f4,f5,f6,wF,U1,Y6,Y8,J3,a0U,Q0,Q4,N9,G6,G5,Q3,Q6,Q7,l_0,l_s,a1J,V8,X8,X0,Int.reducePow,N7,I6,V.e7i,G7,W9,I7,R6,M4,V9,U9,T9,R8,U0,O5,O4,a1o,a0K,D9]
          |false=>have hg:decide (18446744073709551615<n)=false:=zu;simp(disch:=first|exact dy|fail)only[a1c,hm,i0,u3,u5,deq,h45,a0m,X6,h,hg,b3y,b0O,f1,f2,f3,f4,f5,f6,wF,U1,Y6,Y8,J3,a0U,Q0,Q4,N9,G6,G5,Q3,Q6,Q7,l_0,l_s,a1J,V8,X8,X0,Int.reducePow,N7,I6,V.e7i,G7,W9,I7,R6,M4,V9,U9,T9,R8,U0,O5,O4,a1o,a0K,D9]
    |false=>
     have u2:a8g (b::l)=false:=h45;cases h43:decide (b.toNat=43)with
      |true=>have u1:a1P (b::l)=l:=yS;rw[u1]at hm hlt⊢;rw[u2];generalize a0y l=q at*;obtain⟨n,o,k⟩:=q;cases k with|false=>simp(disch:=first|exact dy|fail)only[a1c,hm,i0,u3,u5,deq,h45,h43,a0m,f1,f2,f3,f4,f5,f6,U1,Y6,Y8,J3,Q0,Q4,N9,G6,G5,Q3,Q6,Q7,l_0,l_s,a1J,V8,a4i,X8,X0,Int.reducePow,N7,I6,V.e7i,G7,W9,I7,R6,M4,V9,U9,T9,R8,U0,O5,O4,a0K,a4G,D9]|true=>cases o with|true=>simp(disch:=first|exact dy|fail)only[a1c,hm,i0,u3,u5,deq,h45,h43,a0m,f1,f2,f3,f4,f5,f6,vP,U1,Y6,Y8,J3,Q0,Q4,N9,G6,G5,Q3,Q6,Q7,l_0,l_s,a1J,V8,a4i,X8,X0,Int.reducePow,N7,I6,V.e7i,G7,W9,I7,R6,M4,V9,U9,T9,R8,U0,O5,O4,a1o,a0K,a4G,D9]|false=>cases h:decide (18446744073709551615<n)with|true=>grind|false=>simp(disch:=first|exact dy|fail)only[a1c,hm,i0,u3,u5,deq,h45,h43,a0m,X6,h,f1,f2,f3,f4,f5,f6,wF,U1,Y6,Y8,J3,Q0,Q4,N9,G6,G5,Q3,Q6,Q7,l_0,l_s,a1J,V8,a4i,X8,X0,Int.reducePow,N7,I6,V.e7i,G7,W9,I7,R6,M4,V9,U9,T9,R8,U0,O5,O4,a1o,a0K,a4G,D9]
      |false=>have u1:a1P (b::l)=b::l:=yR;rw[u1]at hm hlt⊢;rw[u2];generalize a0y (b::l)=q at*;obtain⟨n,o,k⟩:=q;cases k with|false=>simp(disch:=first|exact dy|fail)only[a1c,hm,i0,u3,deq,h45,h43,f1,f2,f3,f4,f5,f6,U1,Y6,Y8,J3,Q0,Q4,N9,G6,G5,Q3,Q6,Q7,l_0,l_s,a1J,V8,a4i,X8,X0,Int.reducePow,N7,I6,V.e7i,G7,W9,I7,R6,M4,V9,U9,T9,R8,U0,O5,O4,a0K,a4G]|true=>cases o with|true=>simp(disch:=first|exact dy|fail)only[a1c,hm,i0,u3,deq,h45,h43,f1,f2,f3,f4,f5,f6,vP,U1,Y6,Y8,J3,Q0,Q4,N9,G6,G5,Q3,Q6,Q7,l_0,l_s,a1J,V8,a4i,X8,X0,Int.reducePow,N7,I6,V.e7i,G7,W9,I7,R6,M4,V9,U9,T9,R8,U0,O5,O4,a1o,a0K,a4G]|false=>cases h:decide (18446744073709551615<n)with|true=>grind|false=>simp(disch:=first|exact dy|fail)only[a1c,hm,i0,u3,deq,h45,h43,X6,h,f1,f2,f3,f4,f5,f6,wF,U1,Y6,Y8,J3,Q0,Q4,N9,G6,G5,Q3,Q6,Q7,l_0,l_s,a1J,V8,a4i,X8,X0,Int.reducePow,N7,I6,V.e7i,G7,W9,I7,R6,M4,V9,U9,T9,R8,U0,O5,O4,a1o,a0K,a4G]
def sgN (z:Nat):Bool:=Nat.ble 33 z&&Nat.ble z 126&& !(Nat.beq z 40||Nat.beq z 41||Nat.beq z 34||Nat.beq z 59||Nat.beq z 44)
def b7r (r:Option (CR×S))(m:Int):Bool:=match r with
 |some x=>match x.1 with
  |.ret v=>match v with
   |.int k n=>a2f k .i64&&(match n with
    |.ofNat j=>match m with|.ofNat i=>Nat.beq j i|.negSucc _=>false
    |.negSucc j=>match m with|.ofNat _=>false|.negSucc i=>Nat.beq j i)|_=>false
  |.pan _=>false
 |none=>false
theorem b7t {r m}(h:b7r r m=true):∃s,r=some (.ret (.int .i64 m),s):=by unfold b7r at h;split at h;rename_i x;split at h;rename_i v hv;split at h;rename_i k n;rw[wh]at h;obtain⟨y,s⟩:=x;obtain rfl:y=_:=hv;obtain rfl:=a8I h.1;have h2:=h.2;split at h2;split at h2;simp_all;cases h2;split at h2;cases h2;simp_all;cases h;cases h;cases h
def b7s (r:Option (CR×S))(m:Bool):Bool:=match r with
 |some x=>match x.1 with
  |.ret v=>match v with|.bool b=>b==m|_=>false
  |.pan _=>false
 |none=>false
theorem b6v {r m}(h:b7s r m=true):∃s,r=some (.ret (.bool m),s):=by unfold b7s at h;grind
def upN (n:Nat):List Nat:=List.range n
def a3n (q:Nat->Value)(z:Int):Option Value:=match z with|.ofNat m=>bcase (Nat.blt m 256) (some (q m)) none|.negSucc _=>none
theorem b0q {q z v}(h:a3n q z=some v):∃m,m<256/\z=.ofNat m/\v=q m:=by
 unfold a3n at h;split at h;rename_i m;cases hb:Nat.blt m 256 with|true=>rw[hb]at h;cases h;exact⟨m,by simpa using hb,rfl,rfl⟩|false=>rw[hb]at h;cases h
 cases h
theorem b2p (q)(b:UInt8):a3n q (.ofNat b.toNat)=some (q b.toNat):=by
 have h:Nat.blt b.toNat 256=true:=by have:=b.toNat_lt;simp_all
 show bcase (Nat.blt b.toNat 256) _ _=_;rw[h];rfl
def qDg (m:Nat):Value:=.int .i64 (dgI m)
def qSg (m:Nat):Value:=.bool (sgN m)
theorem e2h (mL):M0 (λz=>b7r (o8 a5N 5 162 [.int .u8 (.ofNat z)] (Go.V.a3a (L6 mL))) (dgI z)) (upN 256)=true:=zw
theorem c9T:V6 Tryz.prog tab (L6 mL) 162 (X1 .u8 (a3n qDg)):=a7B λz v h=>by obtain⟨m,hm,rfl,rfl⟩:=b0q h;obtain⟨s,hr⟩:=b7t ((R5 _ _).1 (e2h mL) m (uw.2 hm));exact⟨rfl,a3z a0n U6 a4M a1Y a4K b0R Tryz.func162 zw rfl rfl rfl hr⟩
theorem d9I (mL):M0 (λz=>b7s (o8 a5N 5 137 [.int .u8 (.ofNat z)] (Go.V.a3a (L6 mL))) (sgN z)) (upN 256)=true:=zw
theorem d0J:V6 Tryz.prog tab (L6 mL) 137 (X1 .u8 (a3n qSg)):=a7B λz v h=>by obtain⟨m,hm,rfl,rfl⟩:=b0q h;obtain⟨s,hr⟩:=b6v ((R5 _ _).1 (d9I mL) m (uw.2 hm));exact⟨rfl,a3z a0n U6 a4M a1Y a4K b0R Tryz.func137 zw rfl rfl rfl hr⟩
theorem d9h (mL):M0 (λz=>b7s (o8 a5N 5 136 [.int .u8 (.ofNat z)] (Go.V.a3a (L6 mL))) (sgN z)) (upN 256)=true:=zw
theorem c9d:V6 Tryz.prog tab (L6 mL) 136 (X1 .u8 (a3n qSg)):=a7B λz v h=>by obtain⟨m,hm,rfl,rfl⟩:=b0q h;obtain⟨s,hr⟩:=b6v ((R5 _ _).1 (d9h mL) m (uw.2 hm));exact⟨rfl,a3z a0n U6 a4M a1Y a4K b0R Tryz.func136 zw rfl rfl rfl hr⟩
def a6y (l:List UInt8):Bool:=M0 (λb=>sgN b.toNat) l
def a1l (T:List UInt8):Bool:=match T with|[]=>false|b::l=>match l with|[]=>false|_::_=>decide (b.toNat=36)&&a6y l
theorem e8i (N0 call)(hs:∀b:UInt8,call 137 [.int .u8 (.ofNat b.toNat)]=M.pure (.ret (.bool (sgN b.toNat))))(T)(hT:T.length<2000000):∀(l) (i N) (g0 g1 g2 g3 g4 g5 g6 g7 g8 g9),T.drop i=l->l.length<N->∃x,Q5 (c8Q o9 N0 call (.int .i64 (.ofNat T.length)) (.string ⟨⟨T⟩⟩)) N [g0,g1,g2,g3,g4,g5,g6,g7,g8,g9,.int .i64 (.ofNat i)]=M.pure x/\bcase (a6y l) (x.1=.exit 0) (x.1=.ret/\C8 x.2 8=.bool false):=by have hlenS:a3S (.string ⟨⟨T⟩⟩)=M.pure (.int .i64 (.ofNat T.length)):=a1k _;intro l;induction l with|nil=>intro i N g0 g1 g2 g3 g4 g5 g6 g7 g8 g9 hd hN;obtain⟨N,rfl⟩:∃m,N=m+1:=⟨N-1,zy⟩;have hi:¬i<T.length:=yQ;have h1:=b1y i T.length hi;rw[Z6];simp(disch:=first|exact dy|fail)only[b4q,h1,U1,Y8,G5,l_0,l_s,N7,a2x,V.e7i,I7,M4];exact⟨_,rfl,rfl⟩|cons b l ih=>intro i N g0 g1 g2 g3 g4 g5 g6 g7 g8 g9 hd hN;obtain⟨N,rfl⟩:∃m,N=m+1:=⟨N-1,zy⟩;obtain⟨hb,hd',hi⟩:=b4n hd;have h1:=b4l i T.length hi;have hbT:(⟨⟨T⟩⟩:ByteArray).data.toList[i]?=some b:=hb;have h2:=a0l ⟨⟨T⟩⟩ i b hbT;have hsi:=b5Z i zy;have hlen:l.length<N:=zm;have hsg:=hs b;have ha:a6y (b::l)=(sgN b.toNat&&a6y l):=X7 _ _ _;rw[ha];cases hq:sgN b.toNat with|true=>rw[hq]at hsg;rw[Z6,a7i];simp(disch:=first|exact dy|fail)only[b4q,h1,h2,hsi,hsg,a1o,U1,Y8,J3,G6,G5,l_0,l_s,N7,I6,V.e7i,I7,M4,T9];exact ih (i+1) N _ _ _ _ _ _ _ _ _ _ hd' hlen|false=>rw[hq]at hsg;rw[Z6,uf];simp(disch:=first|exact dy|fail)only[b4q,h1,h2,hsi,hsg,a0K,U1,Y8,J3,G6,G5,l_0,l_s,N7,a3l,V.e7i,I7,M4,T9];exact⟨_,rfl,rfl,rfl⟩
theorem e8t (N call)(hs:∀b:UInt8,call 137 [.int .u8 (.ofNat b.toNat)]=M.pure (.ret (.bool (sgN b.toNat))))(T)(hT:T.length<N)(hT2:T.length<2000000):c0i o9 N call (.string ⟨⟨T⟩⟩)=M.pure (.ret (.bool (a1l T))):=by
 have hlenS:∀T:List UInt8,a3S (.string ⟨⟨T⟩⟩)=M.pure (.int .i64 (.ofNat T.length)):=λT=>a1k _;have dlt2:∀a b:Nat,decide (Int.ofNat a<Int.ofNat b)=decide (a<b):=λa b=>zm;have deq2:∀a b:Nat,decide (Int.ofNat a=Int.ofNat b)=decide (a=b):=λa b=>zu;match T,hT,hT2 with
  |[],hT,hT2=>have h1:decide (([]:List UInt8).length<2)=true:=rfl;rfl|[b],hT,hT2=>have h1:decide (([b]:List UInt8).length<2)=true:=rfl;rfl|b::c::l,hT,hT2=>
   have h1:decide ((b::c::l).length<2)=false:=wy zn;have i0:=a0l ⟨⟨b::c::l⟩⟩ 0 b rfl;have hn:a1l (b::c::l)=(decide (b.toNat=36)&&a6y (c::l)):=rfl;rw[hn];cases h36:decide (b.toNat=36)with
    |false=>simp(disch:=first|exact dy|fail)only[d4r,hlenS,dlt2,deq2,h1,h36,i0,U1,Y6,b0n,N9,G6,Q3,Q6,Q7,l_0,l_s,X0,N7,I6,V.e7i,a5d,I7,a0K,uf]|true=>
     simp(disch:=first|exact dy|fail)only[d4r,hlenS,dlt2,deq2,h1,h36,i0,U1,Y6,b0n,N9,G6,G5,Q3,Q6,Q7,l_0,l_s,X0,N7,I6,V.e7i,a5d,I7,a1o,a0K,a7i];obtain⟨x,hx,hm⟩:=e8i N call hs (b::c::l) hT2 (b::c::l) 0 N _ _ _ _ _ _ _ _ _ _ rfl hT;rw[hx,V.e7i];have h36':b.toNat=36:=wP h36;have hsb:a6y (b::c::l)=a6y (c::l):=by show M0 _ _=_;rw[X7,h36'];rfl
     rw[hsb]at hm;cases ha:a6y (c::l)with|true=>rw[ha]at hm;have hm:x.1=.exit 0:=hm;grind[a2x,J4,G6]|false=>rw[ha]at hm;obtain⟨q1,q2⟩:=(hm:x.1=.ret/\C8 x.2 8=.bool false);grind[a3l]
end Go.Proofs.YtmomonnlmbljoaaGreatDoor
section
namespace Go.Proofs
open Go.Shelf
def Tryz.lMul64_ren:Go.Shelf.Ren:=⟨λ|264=>130|n=>n,λ|53=>23|46=>145|n=>n,λ|n=>n⟩
theorem Tryz.lMul64:Go.Proofs.Lays.n264 Tryz.prog Tryz.lMul64_ren:={
 mixed:=zw
 f264:=Tryz.func130.trans (wO some zw)
 t46:=sF
 a46:=qV
 z46:=qc
 v46:=rq
 t53:=qO
 a53:=Tryz.isAgg23
 z53:=Tryz.sizeOf23
 v53:=Tryz.zeroValue23 }
end Go.Proofs
end
namespace Go.Proofs.YtmomonnlmbljoaaGreatDoor
open Go.V Go.RowKit Go.Shelf Go.Proofs
variable {mL:Int}
theorem c6G {bs v}(h:b1i bs=some v):∃x y,bs=[.int .u64 (.ofNat x),.int .u64 (.ofNat y)]/\x<18446744073709551616/\y<18446744073709551616/\v=.tuple ⟨[.int .u64 (.ofNat (x*y/18446744073709551616)),.int .u64 (.ofNat (x*y%18446744073709551616))]⟩:=by
 unfold b1i at h;split at h;rename_i x y;cases hb:Nat.blt x 18446744073709551616&&Nat.blt y 18446744073709551616 with|true=>rw[hb]at h;cases h;rw[wh]at hb;exact⟨x,y,rfl,by simpa using hb.1,by simpa using hb.2,rfl⟩|false=>rw[hb]at h;cases h
 cases h
theorem c9o:V6 Tryz.prog tab (L6 mL) 130 (λbs=>M.lift (b1i bs)):=a9u λbs v h=>by obtain⟨x,y,rfl,hx,hy,rfl⟩:=c6G h;refine⟨rfl,rfl,λw hL=>⟨a0c Tryz.func130 zw rfl,?_⟩⟩;refine(Any.bits_Mul64 Tryz.lMul64 x y hx hy w).mono λe w' hq=>?_;obtain⟨rfl,rfl⟩:=hq;exact⟨rfl,tK _ _⟩
def a0X (T P:List UInt8):Bool:=decide (P.length<=T.length)&&beqBytes (a2i T P.length) P
theorem dle (a b):decide (Int.ofNat a<=Int.ofNat b)=decide (a<=b):=zm
theorem e8u (N call T P):c0u o9 N call (.string ⟨⟨T⟩⟩) (.string ⟨⟨P⟩⟩)=M.pure (.ret (.bool (a0X T P))):=by have hlenS:∀T:List UInt8,a3S (.string ⟨⟨T⟩⟩)=M.pure (.int .i64 (.ofNat T.length)):=λT=>a1k _;unfold a0X;cases h:decide (P.length<=T.length)with|false=>simp(disch:=first|exact dy|fail)only[d3K,hlenS,dle,h,U1,Y6,Q4,G5,X0,I6,V.e7i,a3N,uf]|true=>have hl:P.length<=T.length:=wP h;simp(disch:=first|exact dy|fail)only[d3K,hlenS,dle,h,b6d,U1,Y6,Q4,G6,Q3,Q6,Q7,l_0,l_s,X8,I6,V.e7i,a3N,a4S,a7i]
def onS (q:List UInt8->Value)(bs:List Value):Option Value:=match bs with|[.string s]=>bcase (Nat.blt (F9 s.data.toList) 1800000) (some (q s.data.toList)) none|_=>none
def XS (q:List UInt8->Value):List Value->M Value:=λbs=>M.lift (onS q bs)
theorem c4O {q bs v}(h:onS q bs=some v):∃T,bs=[.string ⟨⟨T⟩⟩]/\T.length<1800000/\v=q T:=by
 unfold onS at h;split at h;rename_i s;cases hb:Nat.blt (F9 s.data.toList) 1800000 with|true=>rw[hb]at h;cases h;exact⟨s.data.toList,rfl,by rw[J2]at hb;simpa using hb,rfl⟩|false=>rw[hb]at h;cases h
 cases h
theorem b6y (q T)(h:T.length<1800000):onS q [.string ⟨⟨T⟩⟩]=some (q T):=by
 have hb:Nat.blt (F9 T) 1800000=true:=by rw[J2];simp_all
 show bcase (Nat.blt (F9 T) 1800000) _ _=_;rw[hb];rfl
def b2u (k:Nat)(q:List UInt8->Value)(bs:List Value):Option Value:=match bs with|[.string s,.int .i64 (.ofNat m)]=>bcase (Nat.blt (F9 s.data.toList) 1800000&&Nat.beq m k) (some (q s.data.toList)) none|_=>none
def XSI (k:Nat)(q:List UInt8->Value):List Value->M Value:=λbs=>M.lift (b2u k q bs)
theorem c3t {k q bs v}(h:b2u k q bs=some v):∃T,bs=[.string ⟨⟨T⟩⟩,.int .i64 (.ofNat k)]/\T.length<1800000/\v=q T:=by
 unfold b2u at h;split at h;rename_i s m;cases hb:Nat.blt (F9 s.data.toList) 1800000&&Nat.beq m k with|true=>rw[hb]at h;cases h;rw[wh]at hb;obtain rfl:=wo hb.2;exact⟨s.data.toList,rfl,by have:=hb.1;rw[J2]at this;simp_all,rfl⟩|false=>rw[hb]at h;cases h
 cases h
theorem b3Q (k q T)(h:T.length<1800000):b2u k q [.string ⟨⟨T⟩⟩,.int .i64 (.ofNat k)]=some (q T):=by
 have hb:(Nat.blt (F9 T) 1800000&&Nat.beq k k)=true:=by rw[J2,L8 h,J4];rfl
 show bcase (Nat.blt (F9 T) 1800000&&Nat.beq k k) _ _=_;rw[hb];rfl
def orX (q1 q2:List Value->Option Value)(bs:List Value):Option Value:=match q1 bs with|some v=>some v|none=>q2 bs
theorem a4B.pureE {m:M CR}{v}(h:m=M.pure (.ret v)):∀c hh r w,l9 (go m ⟨c,hh,r,w⟩) λx s2=>x=.ret v/\∀i,i<c->s2.h.get i=hh.get i:=a4B.pure h
def pe1:Nat->Option (List Value->M Value):=(J8 (J8 (J8 (J8 a4Z 162 (X1 .u8 (a3n qDg))) 137 (X1 .u8 (a3n qSg))) 136 (X1 .u8 (a3n qSg))) 130 (λbs=>M.lift (b1i bs)))
def ps1:a1r:=(R4 (R4 (R4 (R4 a5N 162 (X1 .u8 (a3n qDg))) 137 (X1 .u8 (a3n qSg))) 136 (X1 .u8 (a3n qSg))) 130 (λbs=>M.lift (b1i bs)))
theorem pL1:Shelf' Tryz.prog tab (L6 mL) NN pe1 ps1:=((((((⟨a4K,b0R⟩:Shelf' Tryz.prog tab (L6 mL) NN a4Z a5N).add c9T)).add d0J)).add c9d).add c9o
theorem d7f (n):MagC (o8 ps1 (n+1)) where
 dg b:=a6G (q:=a3n qDg) zw n (b2p qDg b)
 mul x y hx hy:=by
  have h1:Nat.blt x 18446744073709551616=true:=L8 hx
  have h2:Nat.blt y 18446744073709551616=true:=L8 hy
  refine a0o ps1 n 130 _ (g:=b1i) zw ?_
  show bcase (Nat.blt x 18446744073709551616 && Nat.blt y 18446744073709551616) _ _=_
  rw [h1,h2]; rfl
 add x y:=a0o ps1 n 163 _ (g:=b2R) zw rfl
theorem c9C:V6 Tryz.prog tab (L6 mL) 118 (XS a3O):=a2n a0n U6 (pL1 (mL:=mL)).e (pL1 (mL:=mL)).s Tryz.func118 zw rfl λbs v h=>by obtain⟨T,rfl,hT,rfl⟩:=c4O h;refine⟨rfl,λc hh r w=>⟨2,a4B.pureE ?_ c hh r w⟩⟩;rw[a1j (q:=c0V) (N:=NN) zw 1];exact f0r NN _ (d7f 0) T (tV hT zq) (tV hT zq)
theorem d0m:V6 Tryz.prog tab (L6 mL) 107 (XS λT=>.bool (a1l T)):=a2n a0n U6 (pL1 (mL:=mL)).e (pL1 (mL:=mL)).s Tryz.func107 zw rfl λbs v h=>by obtain⟨T,rfl,hT,rfl⟩:=c4O h;refine⟨rfl,λc hh r w=>⟨2,a4B.pureE ?_ c hh r w⟩⟩;rw[a1j (q:=c0i) (N:=NN) zw 1];exact e8t NN _ (λb=>a6G (q:=a3n qSg) zw 0 (b2p qSg b)) T (tV hT zq) (tV hT zq)
def pe2:Nat->Option (List Value->M Value):=(J8 (J8 pe1 118 (XS a3O)) 107 (XS λT=>.bool (a1l T)))
def ps2:a1r:=(R4 (R4 ps1 118 (XS a3O)) 107 (XS λT=>.bool (a1l T)))
theorem pL2:Shelf' Tryz.prog tab (L6 mL) NN pe2 ps2:=(((pL1.add c9C)).add d0m)
theorem d4P:V6 Tryz.prog tab (L6 mL) 81 (XSI 4294967295 a3Y):=a2n a0n U6 (pL2 (mL:=mL)).e (pL2 (mL:=mL)).s Tryz.func81 zw rfl λbs v h=>by obtain⟨T,rfl,hT,rfl⟩:=c3t h;refine⟨rfl,λc hh r w=>⟨2,a4B.pureE ?_ c hh r w⟩⟩;rw[a0Z (q:=c7A) (N:=NN) zw 1];exact n81 NN _ T (a0o ps2 0 118 _ (g:=onS a3O) zw (b6y _ _ hT))
theorem c1r (T):(a1P T).length<=T.length:=by unfold a1P;cases d8B T with|true=>show(F8 T 1).length<=_;rw[a0O,vz];omega|false=>exact xD _
def b0h (bs:List Value):Option Value:=orX (b2u 32 λT=>a5L T 4294967295) (b2u 64 λT=>a5L T 18446744073709551615) bs
theorem d1G {bs v}(h:b0h bs=some v):∃T,T.length<1800000/\((bs=[.string ⟨⟨T⟩⟩,.int .i64 (.ofNat 32)]/\v=a5L T 4294967295)\/(bs=[.string ⟨⟨T⟩⟩,.int .i64 (.ofNat 64)]/\v=a5L T 18446744073709551615)):=by grind[b0h,orX,c3t]
theorem d7v (T)(h:T.length<1800000):b0h [.string ⟨⟨T⟩⟩,.int .i64 (.ofNat 32)]=some (a5L T 4294967295):=by unfold b0h orX;rw[b3Q 32 _ T h]
theorem d5W (T)(h:T.length<1800000):b0h [.string ⟨⟨T⟩⟩,.int .i64 (.ofNat 64)]=some (a5L T 18446744073709551615):=by
 unfold b0h orX;have e:b2u 32 (λT=>a5L T 4294967295) [.string ⟨⟨T⟩⟩,.int .i64 (.ofNat 64)]=none:=by show bcase (Nat.blt (F9 T) 1800000&&Nat.beq 64 32) _ _=_;rw[show Nat.beq 64 32=false from rfl,uM];rfl
 rw[e,b3Q 64 _ T h]
theorem c9B:V6 Tryz.prog tab (L6 mL) 186 (λbs=>M.lift (b0h bs)):=a2n a0n U6 (pL2 (mL:=mL)).e (pL2 (mL:=mL)).s Tryz.func186 zw rfl λbs v h=>by obtain⟨T,hT,⟨rfl,rfl⟩|⟨rfl,rfl⟩⟩:=d1G h;refine⟨rfl,λc hh r w=>⟨2,a4B.pureE ?_ c hh r w⟩⟩;rw[a0Z (q:=b4z) (N:=NN) zw 1];exact d5Y NN _ T (tV hT zq) (a0o ps2 0 118 _ (g:=onS a3O) zw (b6y _ _ (uU (c1r T) hT)));refine⟨rfl,λc hh r w=>⟨2,a4B.pureE ?_ c hh r w⟩⟩;rw[a0Z (q:=b4z) (N:=NN) zw 1];exact d6Y NN _ T (tV hT zq) (a0o ps2 0 118 _ (g:=onS a3O) zw (b6y _ _ (uU (c1r T) hT)))
abbrev F79:=@e0F
abbrev F80:=@e9X
abbrev c1s:=@e3Y
abbrev c1B:=@c4N
abbrev c2H:=@e2V
abbrev d2V:=@e6q
abbrev d1J:=@d4g
abbrev c3z:=@e5g
abbrev F32:=om @e9H<| @D9
abbrev L32:=@c8y
abbrev bY:=om @U1<|om @Y6<|om @Y8<|om @b0n<|om @M5<|om @M9<|om @b2H<|om @a1K<|om @b7x<|om @b8e<|om @J3<|om @a6f<|om @b7z<|om @a0U<|om @a2T<|om @a2q<|om @Q0<|om @b3M<|om @c2a<|om @c1v<|om @a5g<|om @a6g<|om @Q4<|om @N9<|om @G6<|om @G5<|om @Q3<|om @Q6<|om @Q7<|om @a6A<|om @l_0<|om @l_s<|om @a1J<|om @V8<|om @a4i<|om @c7f<|om @c6X<|om @c5R<|om @b5g<|om @b5z<|om @b5c<|om @b5w<|om @X8<|om @X0<|om @b3I<|om @b1V<|om @a7o<|om @b4v<|om @N7<|om @I6<|om @a2x<|om @a3l<|om @V.e7i<|om @G7<|om @V4<|om @b3s<|om @b6W<|om @b7g<|om @c1b<|om @b7B<|om @W9<|om @a5d<|om @I7<|om @a9T<|om @R6<|om @a3N<|om @M4<|om @V9<|om @b1N<|om @b5F<|om @b2k<|om @a8A<|om @U9<|om @T9<|om @a4S<|om @R8<|om @b3j<|om @a3B<|om @b5i<|om @U7<|om @c3e<|om @c1S<|om @U0<|om @O5<|om @O4<|om @b5y<|om @a1t<|om @a1d<|om @a1k<|om @a0l<|om @a5c<|om @a5U<|om @a7s<|om @a3I<|om @a6E<|om @a5E<|om @a4h<|om @a6r<|om @a1I<|om @b0M<|om @a9h<|om @a9E<|om @b2D<|om @b1Q<|om @a7T<|om @a6Z<|om @X7<|om @a7g<|om @a9P<|om @a8E<|om @a5n<|om @a7x<|om @a5F<|om @a8v<|om @uk<|om @a1n<|om @a1s<|om @a4R<|om @a2g<|om @a5p<|om @a2I<|om @a6J<|om @Z5<|om @a1L<|om @a3w<|om @L8<|om @o7<|om @b2w<|om @d9<|om @a2w<|om @a3g<|om @Y7<|om @a4L<|om @a0D<|om @Y5<|om @a6c<|om @wM<|om @vZ<|om @a3p<|om @b2f<|om @a1A<|om @a1X<|om @b7G<| @b7d
abbrev bX:=om @U1<|om @Y6<|om @Y8<|om @b0n<|om @M5<|om @M9<|om @b2H<|om @a1K<|om @b7x<|om @b8e<|om @J3<|om @a6f<|om @b7z<|om @a0U<|om @a2T<|om @a2q<|om @Q0<|om @b3M<|om @c2a<|om @c1v<|om @a5g<|om @a6g<|om @Q4<|om @N9<|om @G6<|om @G5<|om @Q3<|om @Q6<|om @Q7<|om @a6A<|om @l_0<|om @l_s<|om @a1J<|om @V8<|om @a4i<|om @c7f<|om @c6X<|om @c5R<|om @b5g<|om @b5z<|om @b5c<|om @b5w<|om @X8<|om @X0<|om @b3I<|om @b1V<|om @a7o<|om @b4v<|om @N7<|om @I6<|om @a2x<|om @a3l<|om @V.e7i<|om @G7<|om @V4<|om @b3s<|om @b6W<|om @b7g<|om @c1b<|om @b7B<|om @W9<|om @a5d<|om @I7<|om @a9T<|om @R6<|om @a3N<|om @M4<|om @V9<|om @b1N<|om @b5F<|om @b2k<|om @a8A<|om @U9<|om @T9<|om @a4S<|om @R8<|om @b3j<|om @a3B<|om @b5i<|om @U7<|om @c3e<|om @c1S<|om @U0<|om @O5<|om @O4<|om @b5y<|om @a1t<|om @a1d<|om @a1k<|om @a0l<|om @a5c<|om @a5U<|om @a7s<|om @a3I<|om @a6E<|om @a5E<|om @a4h<|om @a6r<|om @a1I<|om @b0M<|om @a9h<|om @a9E<|om @b2D<|om @b1Q<|om @a7T<|om @a6Z<|om @X7<|om @a7g<|om @a9P<|om @a8E<|om @a5n<|om @a7x<|om @a5F<|om @a8v<|om @uk<|om @a1n<|om @a1s<|om @a4R<|om @a2g<|om @a5p<|om @a2I<|om @a6J<|om @Z5<|om @a1L<|om @a3w<|om @L8<|om @o7<|om @b2w<|om @d9<|om @a2w<|om @a3g<|om @Y7<|om @a4L<|om @a0D<|om @Y5<|om @a6c<|om @wM<|om @vZ<|om @a3p<|om @b2f<|om @a1A<| @a1X
abbrev bT:=om @e1Q<|om @e1T<|om @d7T<|om @e1l<|om @d9X<|om @e2u<|om @d9x<|om @e0Q<|om @d8U<|om @e1q<|om @d9V<|om @d9B<|om @d8R<|om @e1u<|om @e2o<|om @e0M<|om @e0B<|om @d9A<|om @d3H<|om @d3G<|om @d4f<|om @d3N<|om @d5b<|om @d4R<|om @d3F<|om @d5e<|om @d4b<|om @d5p<|om @b4K<|om @b2L<|om @X7<|om @a7g<|om @a9P<|om @a8E<|om @a5n<|om @a7x<|om @a5F<|om @a8v<|om @uy<|om @sK<|om @uC<|om @vE<|om @uk<|om @a5V<|om @b1T<|om @wM<|om @J4<|om @a6c<|om @O5<|om @O4<|om @a7s<|om @a3I<|om @a6E<|om @a5E<|om @a4h<|om @a6r<|om @a1I<|om @a8x<|om @c1A<|om @c3N<|om @c3c<|om @c2I<|om @c2J<|om @a1v<|om @a0W<|om @b3o<|om @a0N<|om @a1Q<|om @O9<|om @a4w<|om @a3v<|om @b0g<|om @a5g<| @a6g
theorem dz {p:Prop}(h:p:=by first|assumption|omega|(simp only[bT,a3U,IntKind.bits,a2A,Nat.reduceMul,Nat.reduceLT,Nat.reduceAdd,Nat.reduceBEq]<;>omega)):p:=h
abbrev gT:=om @sK<|om @uy<|om @vE<|om @uf<|om @uC<|om @uM<|om @vP<|om @wF<|om @qB<|om @ow<|om @uh @vD
section
attribute [local congr] q9 x8 A8 z8 D5
theorem b8w {α b}{x:α}{v}(h:bcase b (some x) none=some v):b=true/\v=x:=by cases b with|true=>cases h;simp_all|false=>cases h
def X4:List (Nat×List UInt8×Nat):=[(0,[117,110,114,101,97,99,104,97,98,108,101],0),(1,[110,111,112],0),(2,[98,108,111,99,107],1),(3,[108,111,111,112],1),(4,[105,102],1),(5,[101,108,115,101],0),(11,[101,110,100],0),(12,[98,114],2),(13,[98,114,95,105,102],2),(14,[98,114,95,116,97,98,108,101],3),(15,[114,101,116,117,114,110],0),(16,[99,97,108,108],4),(17,[99,97,108,108,95,105,110,100,105,114,101,99,116],5),(26,[100,114,111,112],0),(27,[115,101,108,101,99,116],0),(28,[115,101,108,101,99,116],6),(32,[108,111,99,97,108,46,103,101,116],7),(33,[108,111,99,97,108,46,115,101,116],7),(34,[108,111,99,97,108,46,116,101,101],7),(35,[103,108,111,98,97,108,46,103,101,116],8),(36,[103,108,111,98,97,108,46,115,101,116],8),(37,[116,97,98,108,101,46,103,101,116],9),(38,[116,97,98,108,101,46,115,101,116],9),(40,[105,51,50,46,108,111,97,100],17),(41,[105,54,52,46,108,111,97,100],17),(44,[105,51,50,46,108,111,97,100,56,95,115],17),(45,[105,51,50,46,108,111,97,100,56,95,117],17),(46,[105,51,50,46,108,111,97,100,49,54,95,115],17),(47,[105,51,50,46,108,111,97,100,49,54,95,117],17),(48,[105,54,52,46,108,111,97,100,56,95,115],17),(49,[105,54,52,46,108,111,97,100,56,95,117],17),(50,[105,54,52,46,108,111,97,100,49,54,95,115],17),(51,[105,54,52,46,108,111,97,100,49,54,95,117],17),(52,[105,54,52,46,108,111,97,100,51,50,95,115],17),(53,[105,54,52,46,108,111,97,100,51,50,95,117],17),(54,[105,51,50,46,115,116,111,114,101],17),(55,[105,54,52,46,115,116,111,114,101],17),(58,[105,51,50,46,115,116,111,114,101,56],17),(59,[105,51,50,46,115,116,111,114,101,49,54],17),(60,[105,54,52,46,115,116,111,114,101,56],17),(61,[105,54,52,46,115,116,111,114,101,49,54],17),(62,[105,54,52,46,115,116,111,114,101,51,50],17),(63,[109,101,109,111,114,121,46,115,105,122,101],13),(64,[109,101,109,111,114,121,46,103,114,111,119],13),(65,[105,51,50,46,99,111,110,115,116],18),(66,[105,54,52,46,99,111,110,115,116],19),(69,[105,51,50,46,101,113,122],0),(70,[105,51,50,46,101,113],0),(71,[105,51,50,46,110,101],0),(72,[105,51,50,46,108,116,95,115],0),(73,[105,51,50,46,108,116,95,117],0),(74,[105,51,50,46,103,116,95,115],0),(75,[105,51,50,46,103,116,95,117],0),(76,[105,51,50,46,108,101,95,115],0),(77,[105,51,50,46,108,101,95,117],0),(78,[105,51,50,46,103,101,95,115],0),(79,[105,51,50,46,103,101,95,117],0),(80,[105,54,52,46,101,113,122],0),(81,[105,54,52,46,101,113],0),(82,[105,54,52,46,110,101],0),(83,[105,54,52,46,108,116,95,115],0),(84,[105,54,52,46,108,116,95,117],0),(85,[105,54,52,46,103,116,95,115],0),(86,[105,54,52,46,103,116,95,117],0),(87,[105,54,52,46,108,101,95,115],0),(88,[105,54,52,46,108,101,95,117],0),(89,[105,54,52,46,103,101,95,115],0),(90,[105,54,52,46,103,101,95,117],0),(103,[105,51,50,46,99,108,122],0),(104,[105,51,50,46,99,116,122],0),(105,[105,51,50,46,112,111,112,99,110,116],0),(106,[105,51,50,46,97,100,100],0),(107,[105,51,50,46,115,117,98],0),(108,[105,51,50,46,109,117,108],0),(109,[105,51,50,46,100,105,118,95,115],0),(110,[105,51,50,46,100,105,118,95,117],0),(111,[105,51,50,46,114,101,109,95,115],0),(112,[105,51,50,46,114,101,109,95,117],0),(113,[105,51,50,46,97,110,100],0),(114,[105,51,50,46,111,114],0),(115,[105,51,50,46,120,111,114],0),(116,[105,51,50,46,115,104,108],0),(117,[105,51,50,46,115,104,114,95,115],0),(118,[105,51,50,46,115,104,114,95,117],0),(119,[105,51,50,46,114,111,116,108],0),(120,[105,51,50,46,114,111,116,114],0),(121,[105,54,52,46,99,108,122],0),(122,[105,54,52,46,99,116,122],0),(123,[105,54,52,46,112,111,112,99,110,116],0),(124,[105,54,52,46,97,100,100],0),(125,[105,54,52,46,115,117,98],0),(126,[105,54,52,46,109,117,108],0),(127,[105,54,52,46,100,105,118,95,115],0),(128,[105,54,52,46,100,105,118,95,117],0),(129,[105,54,52,46,114,101,109,95,115],0),(130,[105,54,52,46,114,101,109,95,117],0),(131,[105,54,52,46,97,110,100],0),(132,[105,54,52,46,111,114],0),(133,[105,54,52,46,120,111,114],0),(134,[105,54,52,46,115,104,108],0),(135,[105,54,52,46,115,104,114,95,115],0),(136,[105,54,52,46,115,104,114,95,117],0),(137,[105,54,52,46,114,111,116,108],0),(138,[105,54,52,46,114,111,116,114],0),(167,[105,51,50,46,119,114,97,112,95,105,54,52],0),(172,[105,54,52,46,101,120,116,101,110,100,95,105,51,50,95,115],0),(173,[105,54,52,46,101,120,116,101,110,100,95,105,51,50,95,117],0),(192,[105,51,50,46,101,120,116,101,110,100,56,95,115],0),(193,[105,51,50,46,101,120,116,101,110,100,49,54,95,115],0),(194,[105,54,52,46,101,120,116,101,110,100,56,95,115],0),(195,[105,54,52,46,101,120,116,101,110,100,49,54,95,115],0),(196,[105,54,52,46,101,120,116,101,110,100,51,50,95,115],0),(208,[114,101,102,46,110,117,108,108],20),(209,[114,101,102,46,105,115,95,110,117,108,108],0),(210,[114,101,102,46,102,117,110,99],4),(64520,[109,101,109,111,114,121,46,105,110,105,116],15),(64521,[100,97,116,97,46,100,114,111,112],16),(64522,[109,101,109,111,114,121,46,99,111,112,121],14),(64523,[109,101,109,111,114,121,46,102,105,108,108],13),(64524,[116,97,98,108,101,46,105,110,105,116],11),(64525,[101,108,101,109,46,100,114,111,112],12),(64526,[116,97,98,108,101,46,99,111,112,121],10),(64527,[116,97,98,108,101,46,103,114,111,119],9),(64528,[116,97,98,108,101,46,115,105,122,101],9),(64529,[116,97,98,108,101,46,102,105,108,108],9)]
abbrev a5j:=Nat×List UInt8×Nat
def b5A (x:a5j):List Value:=[.int .i64 (.ofNat x.1),.string ⟨⟨x.2.1⟩⟩,.int .i64 (.ofNat x.2.2)]
def a0i (l:List a5j):List Value:=List.rec (motive:=λ_=>List Value) [] (λx _ ih=>.int .i64 (.ofNat x.1)::.string ⟨⟨x.2.1⟩⟩::.int .i64 (.ofNat x.2.2)::ih) l
def d3i (r:Option (CR×S)):Option (Nat×Nat×List Value×Bool):=match r with
 |some x=>match x.1 with
  |.ret v=>match v with
   |.slice a n e=>match a with
    |some a=>match a.spot with
     |some g=>match Nat.beq a.off 0 with
      |true=>match x.2.h.get a.block with|some (.cells cs _ ro)=>some (n,e,J7 (·.1) cs,M0 (λx=>plain x.1&&Nat.ble x.2 g) cs&& !ro)|_=>none
      |false=>none
     |none=>none
    |none=>none
   |_=>none
  |_=>none
 |none=>none
theorem d3x {r n e vs}(h:d3i r=some (n,e,vs,true)):∃b2 g2 s2 cs cur,r=some (.ret (.slice (some ⟨b2,0,some g2⟩) n e),s2)/\s2.h.get b2=some (.cells cs cur false)/\J7 (·.1) cs=vs/\M0 (λx=>plain x.1&&Nat.ble x.2 g2) cs=true:=by unfold d3i at h;split at h;rename_i x;split at h;rename_i v hv;split at h;rename_i a n' e';split at h;rename_i a;split at h;rename_i g hg;split at h;rename_i ho;split at h;rename_i cs cur ro hc;have h':=uJ h;simp only[Prod.mk.injEq,wh]at h';obtain⟨rfl,rfl,rfl,h4,h5⟩:=h';obtain⟨b,off,sp⟩:=a;obtain rfl:off=0:=wo ho;grind;cases h;cases h;cases h;cases h;cases h;cases h;cases h
theorem d2B (mL):d3i (o8 a5N 400 127 [] (Go.V.a3a (L6 mL)))=some (125,3,a0i X4,true):=zw
theorem d2e:V6 Tryz.prog tab (L6 mL) 127 (a8Q (a0i X4) 125 3):=by obtain⟨b2,g2,s2,cs,cur,h1,h2,h3,h4⟩:=d3x (d2B mL);rw[<-h3];exact c1U a0n U6 a4M a1Y a4K b0R Tryz.func127 zw rfl h1 h2 h4
theorem b0r (k n)(h:n<a3U k):N8 k (.ofNat n)=.ofNat n:=by grind[N8,Nat.blt_eq]
theorem G9 (i)(h:i<4294967296):N8 .i64 (Int.ofNat i+Int.ofNat 1)=Int.ofNat (i+1):=b0r .i64 (i+1) (by show i+1<9223372036854775808;omega)
theorem b3H (i n):decide (Int.ofNat i<Int.ofNat n)=Nat.blt i n:=by
 cases h:Nat.blt i n with
  |true=>have:i<n:=zm;simp_all|false=>
   have:¬i<n:=λq=>by rw[L8 q]at h;cases h
   simp_all
def a0a (n:Int):List a5j->Option a5j|[]=>none|r::l=>bcase (decide (Int.ofNat r.1=n)) (some r) (a0a n l)
def c7r:List Value:=[.int .i64 (.ofNat 0),.string ⟨⟨[]⟩⟩,.int .i64 (.ofNat 0)]
def a7H (o:Option a5j):Value:=match o with|some r=>.tuple ⟨[.agg ⟨b5A r⟩,.bool true]⟩|none=>.tuple ⟨[.agg ⟨c7r⟩,.bool false]⟩
theorem b9b (rows):∀(i),F8 (J7 (λv=>(v,0)) (a0i rows)) (i*3)=J7 (λv=>(v,0)) (a0i (rows.drop i)):=by induction rows with|nil=>simp_all[a0O,a0i,J7]|cons r l ih=>intro i;cases i with|zero=>rw[qx,Y7];rfl|succ i=>rw[show(i+1)*3=i*3+1+1+1 by omega];exact ih i
theorem d2u (N:Nat)(call:I5)(b0 b1 len:Nat)(n:Int)(rows:List a5j)(hlen:len=rows.length)(hsm:rows.length<4294967296)(x0 x1 x2:Value)(c:Nat)(h:Trie VObj)(hb0:b0<c)(hb1:b1<c)(h0:h.get b0=some (.cells [(x0,0),(x1,0),(x2,0)] 0 false))(h1:h.get b1=some (.cells (J7 (λv=>(v,0)) (a0i rows)) 0 false)):∀(l:List a5j) (i k:Nat) (g0 g1 g2 g3 g4 g5 g6 g7 g8 g9 g10 g11 g12 g13 g14 g16 g17:Value) (r w:List Nat),rows.drop i=l->l.length<k->l9 (go (Q5 (d4e o9 N call (.slice (some ⟨b1,0,some 0⟩) len 3) (.int .i64 n) (.pointer (some ⟨b0,0,some 0⟩))) k [g0,g1,g2,g3,g4,g5,g6,g7,g8,g9,g10,g11,g12,g13,g14,.bool false,g16,g17,.int .i64 (.ofNat i)]) ⟨c,h,r,w⟩) λx s=>s.c=c/\match a0a n l with|some q=>x.1=.ret/\C8 x.2 15=.bool true/\s.h=upd h b0 (.cells [(.int .i64 (.ofNat q.1),0),(.string ⟨⟨q.2.1⟩⟩,0),(.int .i64 (.ofNat q.2.2),0)] 0 false)|none=>x.1=.exit 0/\s.h=h:=by
 intro l;induction l with
  |nil=>
   intro i k g0 g1 g2 g3 g4 g5 g6 g7 g8 g9 g10 g11 g12 g13 g14 g16 g17 r w hd hk;obtain⟨k,rfl⟩:∃m,k=m+1:=⟨k-1,zy⟩;have hi:Nat.blt i len=false:=by have:rows.length<=i:=zm;cases q:Nat.blt i len<;>first|rfl|grind[Nat.blt_eq]
   simp(disch:=first|exact dx|fail)only[a0C,c2t,b3H,hi,U1,M9,a1K,G5,l_0,l_s,N7,a2x,V.e7i,I7,M4,U7];exact l9.done ⟨rfl,rfl,rfl⟩|cons q l ih=>
   intro i k g0 g1 g2 g3 g4 g5 g6 g7 g8 g9 g10 g11 g12 g13 g14 g16 g17 r w hd hk;obtain⟨k,rfl⟩:∃m,k=m+1:=⟨k-1,zy⟩;have hil:i<len:=xm;have hi:Nat.blt i len=true:=L8 hil;have hd':rows.drop (i+1)=l:=yX;have hdr:F8 (J7 (λv=>(v,0)) (a0i rows)) (i*3)=(.int .i64 (.ofNat q.1),0)::(.string ⟨⟨q.2.1⟩⟩,0)::(.int .i64 (.ofNat q.2.2),0)::J7 (λv=>(v,0)) (a0i l):=by rw[b9b,hd];rfl
   have hinc:=G9 i zy;simp(disch:=first|exact dx|fail)only[a0C,c2t,b3H,hi,hdr,h1,U1,M5,M9,a1K,a6f,G6,l_0,l_s,N7,V.e7i,W9,I7,M4,a3B,U7,a1d,a1I,a1s,a4R,a2g,Z5,a1L,L8,a0D,Y5,a5f,vZ];rw[c3T];refine l9.cases (λhb=>?_) (λhb=>?_);simp(disch:=first|exact dx|fail)only[h0,M9,a1K,a3l,a1L,a3w,a3p,a1A,a1X];refine l9.done ⟨rfl,?_⟩;have e:a0a n (q::l)=some q:=by unfold a0a;rw[hb];rfl
   rw[e];exact⟨rfl,rfl,rfl⟩;simp(disch:=first|exact dx|fail)only[hinc,M9,I6];have e:a0a n (q::l)=a0a n l:=by simp_all[bcase,a0a]
   rw[e];exact ih (i+1) k _ _ _ _ _ _ _ _ _ _ _ _ _ _ _ _ _ _ _ hd' zm
theorem t97 (N)(hN:1000<N)(call)(hc:∀c h r w,go (call 127 []) ⟨c,h,r,w⟩=some (.ret (.slice (some ⟨c,0,some 0⟩) 125 3),⟨c+1,upd h c (.cells (J7 (λv=>(v,0)) (a0i X4)) 0 false),r,c::w⟩))(n c h r w):l9 (go (c7K o9 N call (.int .i64 n)) ⟨c,h,r,w⟩) λx s=>x=.ret (a7H (a0a n X4))/\∀i,i<c->s.h.get i=h.get i:=by simp(disch:=first|exact dx|fail)only[e8k,hc,U1,Y6,Y8,b0n,M5,M9,J3,a2T,V.e7i,G7,b0M,a9h,a5p,a2w,a3g];refine l9.bindS (d2u N call c (c+1) 125 n X4 rfl zq _ _ _ (c+1+1) _ zy zy (by rw[d9 zy,o7]) (by rw[o7]) X4 0 N _ _ _ _ _ _ _ _ _ _ _ _ _ _ _ _ _ _ _ rfl (by show 125<N;omega)) λx s hq=>?_;obtain⟨x1,x2⟩:=x;obtain⟨c',h',r',w'⟩:=s;obtain⟨rfl,hq⟩:=hq;cases hf:a0a n X4 with|none=>rw[hf]at hq;obtain⟨rfl,rfl⟩:=hq;simp(disch:=first|exact dx|fail)only[M5,M9,a1K,a2q,G6,a2x,a1I,a2g,Z5,a1L,a3w,L8,o7,d9,Y7,a0D,Y5,a3p,a1A,a1X,J4];refine l9.done ⟨rfl,λi hi=>?_⟩;simp(disch:=first|exact dx|fail)only[d9]|some q=>rw[hf]at hq;obtain⟨rfl,e15,rfl⟩:=hq;simp only at e15;simp(disch:=first|exact dx|fail)only[M5,M9,a1K,a2q,a3l,Z5,a1L,L8,o7,Y7,a0D,Y5,e15];refine l9.done ⟨rfl,λi hi=>?_⟩;simp(disch:=first|exact dx|fail)only[d9]
def a7k (a:Int):Bool:=decide (1<=a)&&decide (a<=4)
def a1f (a:Int):List UInt8:=bcase (decide (a=1)) [105,51,50] (bcase (decide (a=2)) [105,54,52] (bcase (decide (a=3)) [102,117,110,99,114,101,102] (bcase (decide (a=4)) [101,120,116,101,114,110,114,101,102] [])))
theorem t40 (N call a):c6f o9 N call (.int .i64 a)=M.pure (.ret (.string ⟨⟨a1f a⟩⟩)):=by simp only[e8c,U1,Q3,N7,V.e7i,b6W,b7g,W9];rfl
def a3M (z:Int):Bool:=match a0a z X4 with|some _=>true|none=>false
def P9 (z:Int):Nat:=match a0a z X4 with|some r=>r.2.2|none=>0
theorem b4N (z):∀(l) (r),a0a z l=some r->r∈l/\z=Int.ofNat r.1:=by intro l;induction l with|nil=>intro r h;cases h|cons q l ih=>intro r h;have h':bcase (decide (Int.ofNat q.1=z)) (some q) (a0a z l)=some r:=h;by_cases hq:Int.ofNat q.1=z;rw[ww hq]at h';cases h';simp_all;rw[wy hq]at h';obtain⟨h1,h2⟩:=ih r h';simp_all
theorem t46 (N call)(h97:∀n,call 97 [.int .i64 n]=M.pure (.ret (a7H (a0a n X4))))(z):a4B (c5K o9 N call (.int .i64 z)) (.int .i64 (.ofNat (P9 z))):=by intro c h r w;unfold P9;have e:=h97 z;cases hf:a0a z X4 with|none=>rw[hf]at e;simp(disch:=first|exact dx|fail)only[d7O,e,a7H,c7r,U1,Y8,M5,M9,a1K,J3,l_0,V.e7i,G7,a3B,U0,O5,O4,a1I,a1s,a2g,a5p,Z5,a1L,a3w,L8,o7,a2w,a3g,Y7,a4L,a0D,Y5,a5f,a3p,a1A,a1X];exact l9.done ⟨rfl,λj hj=>yV⟩|some q=>rw[hf]at e;simp(disch:=first|exact dx|fail)only[d7O,e,a7H,b5A,U1,Y8,M5,M9,a1K,J3,l_0,V.e7i,G7,a3B,U0,O5,O4,a1I,a1s,a2g,a5p,Z5,a1L,a3w,L8,o7,a2w,a3g,Y7,a4L,a0D,Y5,a5f,a3p,a1A,a1X];exact l9.done ⟨rfl,λj hj=>yV⟩
theorem e0e (mL):M0 (λr:a5j=>b1f (o8 a5N 400 39 [.int .i64 (.ofNat r.1)] (Go.V.a3a (L6 mL))) r.2.2) X4=true:=zw
theorem c9p:V6 Tryz.prog tab (L6 mL) 39 (X1 .i64 λz=>bcase (a3M z) (some (.int .i64 (.ofNat (P9 z)))) none):=a7B λz v h=>by obtain⟨h1,rfl⟩:=b8w h;unfold a3M at h1;unfold P9;cases hf:a0a z X4 with|none=>rw[hf]at h1;cases h1|some r=>obtain⟨hm,rfl⟩:=b4N z X4 r hf;obtain⟨s,hr⟩:=a9L ((R5 _ _).1 (e0e mL) r hm);exact⟨rfl,a3z a0n U6 a4M a1Y a4K b0R Tryz.func39 zw rfl rfl rfl hr⟩
def a1V:List (Nat×Nat):=[(40,2),(41,3),(44,0),(45,0),(46,1),(47,1),(48,0),(49,0),(50,1),(51,1),(52,2),(53,2),(54,2),(55,3),(58,0),(59,1),(60,0),(61,1),(62,2)]
def a1D (l:List (Nat×Nat))(z:Int):Option Nat:=List.rec (motive:=λ_=>Option Nat) none (λx _ ih=>bcase (decide (z=Int.ofNat x.1)) (some x.2) ih) l
theorem b4Q (z):∀(l) (a),a1D l z=some a->∃x∈l,z=Int.ofNat x.1/\a=x.2:=by intro l;induction l with|nil=>intro a h;cases h|cons q l ih=>intro a h;have h':bcase (decide (z=Int.ofNat q.1)) (some q.2) (a1D l z)=some a:=h;by_cases hq:z=Int.ofNat q.1;rw[ww hq]at h';cases h';simp_all;rw[wy hq]at h';obtain⟨x,h1,h2⟩:=ih a h';grind
def a4p (z:Int):Option Value:=match a1D a1V z with|some a=>some (.int .i64 (.ofNat a))|none=>none
theorem d0p (mL):M0 (λx=>b1f (o8 a5N 400 94 [.int .i64 (.ofNat x.1)] (Go.V.a3a (L6 mL))) x.2) a1V=true:=zw
theorem d5n:V6 Tryz.prog tab (L6 mL) 94 (X1 .i64 a4p):=a7B λz v h=>by unfold a4p at h;split at h;rename_i a ha;cases h;obtain⟨x,hm,rfl,rfl⟩:=b4Q z a1V a ha;obtain⟨s,hr⟩:=a9L ((R5 _ _).1 (d0p mL) x hm);exact⟨rfl,a3z a0n U6 a4M a1Y a4K b0R Tryz.func94 zw rfl rfl rfl hr⟩;cases h
end
end Go.Proofs.YtmomonnlmbljoaaGreatDoor
