import Derived.Test.YtmomonnlmbljoaaGreatDoorProg
import Derived.Test.YtmomonnlmbljoaaGreatDoorHak
import Derived.Test.YtmomonnlmbljoaaGreatDoorHat
set_option maxRecDepth 1000000
set_option maxHeartbeats 4000000
set_option linter.unusedVariables false
set_option linter.unusedSimpArgs false
section
namespace Go.Proofs.YtmomonnlmbljoaaGreatDoor
open Go.V Go.RowKit Go.Shelf Go.Proofs
variable {mL:Int}
noncomputable def dgN (z:Nat):Option Nat:=bcase (Nat.ble 48 z&&Nat.ble z 57) (some (z-48)) (bcase (Nat.ble 97 z&&Nat.ble z 102) (some (z-87)) (bcase (Nat.ble 65 z&&Nat.ble z 70) (some (z-55)) none))
noncomputable def dgI (z:Nat):Int:=match dgN z with|some d=>.ofNat d|none=>.negSucc 0
theorem d7v {z d}(h:dgN z=some d):d<16:=by unfold dgN at h;cases h1:Nat.ble 48 z&&Nat.ble z 57 with|true=>rw[h1]at h;simp only[xM,Nat.ble_eq]at h1;cases h;omega|false=>rw[h1]at h;cases h2:Nat.ble 97 z&&Nat.ble z 102 with|true=>rw[h2]at h;simp only[xM,Nat.ble_eq]at h2;cases h;omega|false=>rw[h2]at h;cases h3:Nat.ble 65 z&&Nat.ble z 70 with|true=>rw[h3]at h;simp only[xM,Nat.ble_eq]at h3;cases h;omega|false=>rw[h3]at h;cases h
noncomputable def dig (B:Nat):List UInt8->Nat->Bool->Bool->Option (Nat×Bool×Bool)|[],n,ov,bt=>some (n,ov,bt)|b::l,n,ov,bt=>bcase (decide (b.toNat=95)&&bt) (dig B l n ov false) (match dgN b.toNat with|some d=>bcase (decide (d<B)) (dig B l ((n*B+d)%18446744073709551616) (ov||decide (18446744073709551616<=n*B+d)) true) none|none=>none)
theorem w64 (n)(h:n<18446744073709551616):G8 .u64 (Int.ofNat n)=Int.ofNat n:=a8l .u64 n h
theorem b2U (n)(h:n<9223372036854775808):G8 .i64 (Int.ofNat n)=Int.ofNat n:=a8l .i64 n h
theorem c1B (i n)(h:i<n):decide (Int.ofNat i<Int.ofNat n)=true:=by simp only[wa,wz];omega
theorem b7M (i n)(h:¬i<n):decide (Int.ofNat i<Int.ofNat n)=false:=by simp only[wu,wz];omega
theorem c5p (i)(h:i<1000000):G8 .i64 (Int.ofNat i+Int.ofNat 1)=Int.ofNat (i+1):=by have:(Int.ofNat i+Int.ofNat 1)=Int.ofNat (i+1):=rfl;rw[this];exact b2U _ zy
theorem c1D {α:Type}{T:List α}{i b l}(h:T.drop i=b::l):T[i]?=some b/\T.drop (i+1)=l/\i<T.length:=by
 have h1:(T.drop i)[0]?=some b:=by rw[h];rfl
 rw[vr,wV]at h1;refine⟨h1,?_,(xQ.1 h1).1⟩;rw[show i+1=i+1 by rfl,<-tH,h];rfl
noncomputable def a8Y (bs:List Value):Option Value:=match bs with|[.int .u64 (.ofNat x),.int .u64 (.ofNat y)]=>bcase (Nat.blt x 18446744073709551616&&Nat.blt y 18446744073709551616) (some (.tuple ⟨[.int .u64 (.ofNat (x*y/18446744073709551616)),.int .u64 (.ofNat (x*y%18446744073709551616))]⟩)) none|_=>none
structure MagC (call:A8):Prop where
 dg:∀ b:UInt8,call 162 [.int .u8 (.ofNat b.toNat)]=M.pure (.ret (.int .i64 (dgI b.toNat)))
 mul:∀ x y:Nat,x<18446744073709551616→y<18446744073709551616→call 130 [.int .u64 (.ofNat x),.int .u64 (.ofNat y)]=M.pure (.ret (.tuple ⟨[.int .u64 (.ofNat (x * y / 18446744073709551616)),.int .u64 (.ofNat (x * y % 18446744073709551616))]⟩))
 add:∀ x y:Nat,call 163 [.int .u64 (.ofNat x),.int .u64 (.ofNat y),.int .u64 (.ofNat 0)]=M.pure (.ret (.tuple ⟨[.int .u64 (.ofNat ((x+y) % 18446744073709551616)),.int .u64 (.ofNat ((x+y) / 18446744073709551616))]⟩))
theorem d0o (X d):X/18446744073709551616+(X%18446744073709551616+d)/18446744073709551616=(X+d)/18446744073709551616/\(X%18446744073709551616+d)%18446744073709551616=(X+d)%18446744073709551616:=zy
theorem d3g (Y)(h:Y<18446744073709551616*100):(!(decide (Int.ofNat (Y/18446744073709551616)=Int.ofNat 0)))=decide (18446744073709551616<=Y):=by by_cases q:18446744073709551616<=Y;have h1:¬(Int.ofNat (Y/18446744073709551616)=Int.ofNat 0):=yu;rw[xL q,xO h1];rfl;have h1:Int.ofNat (Y/18446744073709551616)=Int.ofNat 0:=yu;rw[xO q,xL h1];rfl
theorem c9x (N0:Nat)(call:A8)(C:MagC call)(T:List UInt8)(hT:T.length<100000)(B:Nat)(hB:B=10\/B=16)(u0 u1 u2 u3 u4 u5 u6 u7 u8 u9:Value):∀(l:List UInt8) (i N n:Nat) (ov bt:Bool) (g0 g1 g2 g3 g4 g5 g6 g7 g8 g9 g10 g11 g12 g13 g14 g15 g16 g17 g18 g19 g20 g21 g22 g23 g24 g25 g26 g27 g28 g29 g30 g31 g32 g33 g34 g35 g36 g37 g38 g39 g40 g41 g42 g43 g44 g45 g46 g47 g48 g49 g51 g54:Value),T.drop i=l->l.length<N->n<18446744073709551616->∃x:Xc×List Value,I9 (c1V i7 N0 call (.int .i64 (.ofNat T.length)) [u0,u1,u2,u3,u4,u5,u6,u7,u8,u9,.int .u64 (.ofNat B),.string ⟨⟨T⟩⟩]) N [g0,g1,g2,g3,g4,g5,g6,g7,g8,g9,g10,g11,g12,g13,g14,g15,g16,g17,g18,g19,g20,g21,g22,g23,g24,g25,g26,g27,g28,g29,g30,g31,g32,g33,g34,g35,g36,g37,g38,g39,g40,g41,g42,g43,g44,g45,g46,g47,g48,g49,.bool ov,g51,.int .u64 (.ofNat n),.bool bt,g54,.int .i64 (.ofNat i)]=M.pure x/\match dig B l n ov bt with|some q=>x.1=.exit 0/\r6 x.2 52=.int .u64 (.ofNat q.1)/\r6 x.2 50=.bool q.2.1/\r6 x.2 53=.bool q.2.2|none=>x.1=.ret/\r6 x.2 23=.int .u64 (.ofNat 0)/\r6 x.2 24=.bool false/\r6 x.2 25=.bool false:=by
 intro l;induction l with
  |nil=>intro i N n ov bt g0 g1 g2 g3 g4 g5 g6 g7 g8 g9 g10 g11 g12 g13 g14 g15 g16 g17 g18 g19 g20 g21 g22 g23 g24 g25 g26 g27 g28 g29 g30 g31 g32 g33 g34 g35 g36 g37 g38 g39 g40 g41 g42 g43 g44 g45 g46 g47 g48 g49 g51 g54 hd hN hn;obtain⟨N,rfl⟩:∃m,N=m+1:=⟨N-1,zy⟩;have hi:¬i<T.length:=xj;have h1:=b7M i T.length hi;rw[Q1];simp(disch:=first|exact dy|fail)only[a6u,h1,E9,I1,J2,A3,m7,C3,C6,C4,a2D,J9,K7,B5,w9,Y8,V.e3y,x9,A6];exact⟨_,rfl,rfl,rfl,rfl,rfl⟩|cons b l ih=>
   intro i N n ov bt g0 g1 g2 g3 g4 g5 g6 g7 g8 g9 g10 g11 g12 g13 g14 g15 g16 g17 g18 g19 g20 g21 g22 g23 g24 g25 g26 g27 g28 g29 g30 g31 g32 g33 g34 g35 g36 g37 g38 g39 g40 g41 g42 g43 g44 g45 g46 g47 g48 g49 g51 g54 hd hN hn;obtain⟨N,rfl⟩:∃m,N=m+1:=⟨N-1,zy⟩;obtain⟨hb,hd',hi⟩:=c1D hd;have h1:=c1B i T.length hi;have hbT:(⟨⟨T⟩⟩:ByteArray).data.toList[i]?=some b:=hb;have h2:=a0n ⟨⟨T⟩⟩ i b hbT;have hs:=c5p i zy;have hlen:l.length<N:=by simp at hN;omega
   have e95:decide (Int.ofNat b.toNat=Int.ofNat 95)=decide (b.toNat=95):=by by_cases q:b.toNat=95;rw[q];rfl;rw[xO q];simp only[wu,wz];omega
   cases hc:decide (b.toNat=95)&&bt with
    |true=>
     rw[xM]at hc;obtain⟨hc1,rfl⟩:=hc;have hdig:dig B (b::l) n ov true=dig B l n ov false:=by show bcase (decide (b.toNat=95)&&true) _ _=_;rw[hc1];rfl
     rw[hdig];rw[Q1];simp(disch:=first|exact dy|fail)only[a6u,h1,h2,hs,e95,hc1,E9,I1,J2,B9,A3,o9,C3,C6,C4,a2D,J9,K7,F8,B5,w9,V.e3y,G0,x9,A6];exact ih (i+1) N n ov false _ _ _ _ _ _ _ _ _ _ _ _ _ _ _ _ _ _ _ _ _ _ _ _ _ _ _ _ _ _ _ _ _ _ _ _ _ _ _ _ _ _ _ _ _ _ _ _ _ _ _ _ hd' hlen hn|false=>
     have hdig:dig B (b::l) n ov bt=(match dgN b.toNat with|some d=>bcase (decide (d<B)) (dig B l ((n*B+d)%18446744073709551616) (ov||decide (18446744073709551616<=n*B+d)) true) none|none=>none):=by show bcase (decide (b.toNat=95)&&bt) _ _=_;rw[hc];rfl
     have hpick:a2f (.bool (decide (b.toNat=95))) (bcase (decide (b.toNat=95)) (.bool bt) undef) (.bool false)=M.pure (.bool false):=by rw[a0B,hc]
     have hdg:=C.dg b;cases hq:dgN b.toNat with
      |none=>
       have e1:dgI b.toNat=.negSucc 0:=by unfold dgI;rw[hq]
       rw[e1]at hdg;have e2:decide (Int.negSucc 0<Int.ofNat 0)=true:=rfl;have hd2:dig B (b::l) n ov bt=none:=by rw[hdig,hq]
       rw[hd2,Q1];simp(disch:=first|exact dy|fail)only[a6u,h1,h2,e95,hpick,hdg,e2,E9,I1,J2,A4,B9,A3,o9,m7,C3,C6,C4,a2D,J9,K7,F8,B5,w9,a0Q,V.e3y,G0,x9,Z6,A6,S8];exact⟨_,rfl,rfl,rfl,rfl,rfl⟩|some d=>
       have hd16:=d7v hq;have e1:dgI b.toNat=.ofNat d:=by unfold dgI;rw[hq]
       rw[e1]at hdg;have e2:decide (Int.ofNat d<Int.ofNat 0)=false:=by simp only[wu,wz];omega
       have e3:G8 .u64 (Int.ofNat d)=Int.ofNat d:=w64 d zy;cases hdB:decide (d<B)with
        |false=>
         have e4:decide (Int.ofNat B<=Int.ofNat d)=true:=by simp only[wu]at hdB;simp only[wa,wz];omega
         have hd2:dig B (b::l) n ov bt=none:=by rw[hdig,hq];show bcase (decide (d<B)) _ _=_;rw[hdB];rfl
         rw[hd2,Q1];simp(disch:=first|exact dy|fail)only[a6u,h1,h2,e95,hpick,hdg,e2,e3,e4,E9,I1,J2,A4,B9,A3,o9,m7,C3,C6,C4,a2D,J9,K7,E2,B5,w9,a0Q,V.e3y,G0,x9,Z6,A6,S8];exact⟨_,rfl,rfl,rfl,rfl,rfl⟩|true=>
         have e4:decide (Int.ofNat B<=Int.ofNat d)=false:=by simp only[wa]at hdB;simp only[wu,wz];omega
         have hB2:B<18446744073709551616:=zy;have hm:=C.mul n B hn hB2;obtain⟨c1,c2⟩:=d0o (n*B) d;have ha:=C.add (n*B%18446744073709551616) d;rw[c2]at ha;have hX:n*B<=n*16:=Nat.mul_le_mul_left n zy;have hY:n*B+d<18446744073709551616*100:=zy;have hw:G8 .u64 (Int.ofNat (n*B/18446744073709551616)+Int.ofNat ((n*B%18446744073709551616+d)/18446744073709551616))=Int.ofNat ((n*B+d)/18446744073709551616):=by have:Int.ofNat (n*B/18446744073709551616)+Int.ofNat ((n*B%18446744073709551616+d)/18446744073709551616)=Int.ofNat (n*B/18446744073709551616+(n*B%18446744073709551616+d)/18446744073709551616):=rfl;rw[this,c1];exact w64 _ zy
         have hov:=d3g _ hY;have hd2:dig B (b::l) n ov bt=dig B l ((n*B+d)%18446744073709551616) (ov||decide (18446744073709551616<=n*B+d)) true:=by rw[hdig,hq];show bcase (decide (d<B)) _ _=_;rw[hdB];rfl
         have hpo:a2f (.bool ov) (.bool true) (bcase ov undef (.bool (decide (18446744073709551616<=n*B+d))))=M.pure (.bool (ov||decide (18446744073709551616<=n*B+d))):=a7H _ _;rw[hd2,Q1];simp(disch:=first|exact dy|fail)only[a6u,h1,h2,hs,e95,hpick,hdg,e2,e3,e4,hm,ha,hw,hov,hpo,E9,I1,J2,A4,B9,A3,o9,m7,C3,C6,C4,a2D,J9,K7,E2,B5,w9,V.e3y,r9,G0,a4V,x9,Z6,A6,E5,E8,E6,S8];exact ih (i+1) N ((n*B+d)%18446744073709551616) (ov||decide (18446744073709551616<=n*B+d)) true _ _ _ _ _ _ _ _ _ _ _ _ _ _ _ _ _ _ _ _ _ _ _ _ _ _ _ _ _ _ _ _ _ _ _ _ _ _ _ _ _ _ _ _ _ _ _ _ _ _ _ _ hd' hlen (sQ _ zv)
noncomputable def b7O (T:List UInt8):Bool:=decide (Int.ofNat 2<Int.ofNat T.length)&&beqBytes (Q2 T 2) [48,120]
noncomputable def V9 (T:List UInt8):Nat×Bool×Bool:=match bcase (b7O T) (dig 16 (z7 T 2) 0 false false) (dig 10 T 0 false false)with|some q=>q|none=>(0,false,false)
noncomputable def a5R (T:List UInt8):Value:=.tuple ⟨[.int .u64 (.ofNat (V9 T).1),.bool (V9 T).2.1,.bool (V9 T).2.2]⟩
theorem b8X (T k n)(h:n<=T.length):a4w (.string ⟨⟨T⟩⟩) none (some (.int k (.ofNat n)))=M.pure (.string ⟨⟨Q2 T n⟩⟩):=by
 show a5Y ⟨⟨T⟩⟩ _ _=_;unfold a5Y;have h':Nat.ble n (j9 T)=true:=by rw[y9];exact V6 h
 have h0:Nat.ble 0 n=true:=V6 (wR _);simp only[a0X,a8r,r9,h',h0,a8K,F6,M4,J7,uJ]
theorem P2 (T k n)(h:n<=T.length):a4w (.string ⟨⟨T⟩⟩) (some (.int k (.ofNat n))) none=M.pure (.string ⟨⟨z7 T n⟩⟩):=by
 rw[a5y _ _ _ (by rw[y9];exact h)];have:Q2 (z7 T n) (j9 T-n)=z7 T n:=by rw[a0k,Q8,y9];exact uz (by rw[wM];omega)
 show M.pure (Value.string ⟨⟨Q2 (z7 T n) (j9 T-n)⟩⟩)=_;rw[this]
theorem e4M (N call)(C:MagC call)(T)(hT:T.length<N)(hT2:T.length<100000):b7G i7 N call (.string ⟨⟨T⟩⟩)=M.pure (.ret (a5R T)):=by
 have hlenS:∀T:List UInt8,a7r (.string ⟨⟨T⟩⟩)=M.pure (.int .i64 (.ofNat T.length)):=λT=>a3d _;unfold a5R V9 b7O;have h0:T.drop 0=T:=rfl;cases h1:decide (Int.ofNat 2<Int.ofNat T.length)with
  |false=>simp(disch:=first|exact dy|fail)only[c3e,hlenS,h1,vg,E9,I1,a4Z,O3,D6,B9,m7,J9,K7,E2,B5,w9,V.e3y,B7];obtain⟨x,hx,hm⟩:=c9x N call C T hT2 10 (Or.inl rfl) _ _ _ _ _ _ _ _ _ _ T 0 N 0 false false _ _ _ _ _ _ _ _ _ _ _ _ _ _ _ _ _ _ _ _ _ _ _ _ _ _ _ _ _ _ _ _ _ _ _ _ _ _ _ _ _ _ _ _ _ _ _ _ _ _ _ _ rfl hT zv;rw[hx,V.e3y];cases hd:dig 10 T 0 false false with|none=>rw[hd]at hm;obtain⟨q1,q2,q3,q4⟩:=hm;simp only[q1,q2,q3,q4,a0Q]|some q=>rw[hd]at hm;obtain⟨q1,q2,q3,q4⟩:=hm;simp only[q1,q2,q3,q4,Y8,I4,o9]
  |true=>
   have hl:2<=T.length:=by simp only[wa,wz]at h1;omega
   cases h2:beqBytes (Q2 T 2) [48,120]with
    |false=>simp(disch:=first|exact dy|fail)only[c3e,hlenS,h1,h2,a8o,b8X,P2,E9,I1,a4Z,O3,D6,B9,o9,m7,C3,C6,C4,J9,K7,F8,B5,w9,V.e3y,B7,a5m,B1];obtain⟨x,hx,hm⟩:=c9x N call C T hT2 10 (Or.inl rfl) _ _ _ _ _ _ _ _ _ _ T 0 N 0 false false _ _ _ _ _ _ _ _ _ _ _ _ _ _ _ _ _ _ _ _ _ _ _ _ _ _ _ _ _ _ _ _ _ _ _ _ _ _ _ _ _ _ _ _ _ _ _ _ _ _ _ _ rfl hT zv;rw[hx,V.e3y];cases hd:dig 10 T 0 false false with|none=>rw[hd]at hm;obtain⟨q1,q2,q3,q4⟩:=hm;simp only[q1,q2,q3,q4,a0Q]|some q=>rw[hd]at hm;obtain⟨q1,q2,q3,q4⟩:=hm;simp only[q1,q2,q3,q4,Y8,I4,o9]
    |true=>
     have hl2:(z7 T 2).length=T.length-2:=by rw[Q8,wM]
     simp(disch:=first|exact dy|fail)only[c3e,hlenS,h1,h2,b8X,P2,E9,I1,a4Z,O3,D6,B9,o9,C3,C6,C4,J9,K7,F8,B5,w9,V.e3y,B7,a5m,a8K,B1];obtain⟨x,hx,hm⟩:=c9x N call C (z7 T 2) zy 16 (Or.inr rfl) _ _ _ _ _ _ _ _ _ _ (z7 T 2) 0 N 0 false false _ _ _ _ _ _ _ _ _ _ _ _ _ _ _ _ _ _ _ _ _ _ _ _ _ _ _ _ _ _ _ _ _ _ _ _ _ _ _ _ _ _ _ _ _ _ _ _ _ _ _ _ rfl zy zv;rw[hx,V.e3y];cases hd:dig 16 (z7 T 2) 0 false false with|none=>rw[hd]at hm;obtain⟨q1,q2,q3,q4⟩:=hm;simp only[q1,q2,q3,q4,a0Q]|some q=>rw[hd]at hm;obtain⟨q1,q2,q3,q4⟩:=hm;simp only[q1,q2,q3,q4,Y8,I4,o9]
theorem c7e (B):∀(l) (n) (ov bt) (q),n<18446744073709551616->dig B l n ov bt=some q->q.1<18446744073709551616:=by intro l;induction l with|nil=>intro n ov bt q hn h;cases h;exact hn|cons b l ih=>intro n ov bt q hn h;have h':bcase (decide (b.toNat=95)&&bt) (dig B l n ov false) (match dgN b.toNat with|some d=>bcase (decide (d<B)) (dig B l ((n*B+d)%18446744073709551616) (ov||decide (18446744073709551616<=n*B+d)) true) none|none=>none)=some q:=h;cases hc:decide (b.toNat=95)&&bt with|true=>rw[hc]at h';exact ih _ _ _ _ hn h'|false=>rw[hc]at h';cases hd:dgN b.toNat with|none=>rw[hd]at h';cases h'|some d=>rw[hd]at h';cases hB:decide (d<B)with|true=>simp only[hB,o9,m7]at h';exact ih _ _ _ _ (sQ _ zv) h'|false=>simp only[hB,m7]at h';cases h'
theorem b1H (T):(V9 T).1<18446744073709551616:=by
 unfold V9;split;rename_i q h;cases hx:b7O T with|true=>rw[hx]at h;exact c7e _ _ _ _ _ _ zv h|false=>rw[hx]at h;exact c7e _ _ _ _ _ _ zv h
 decide
noncomputable def a2r (T:List UInt8):Nat×Nat:=bcase (V9 T).2.2 (bcase ((V9 T).2.1||decide (4294967295<(V9 T).1)) (0,6) ((V9 T).1,0)) (0,4)
noncomputable def a4A (T:List UInt8):Value:=.tuple ⟨[.int .i64 (.ofNat (a2r T).1),.int .i64 (.ofNat (a2r T).2)]⟩
theorem P5 (a b):decide (Int.ofNat a<Int.ofNat b)=decide (a<b):=yi
theorem deq (a b):decide (Int.ofNat a=Int.ofNat b)=decide (a=b):=yg
theorem n81 (N call T)(hm:call 118 [.string ⟨⟨T⟩⟩]=M.pure (.ret (a5R T))):c4w i7 N call (.string ⟨⟨T⟩⟩) (.int .i64 (.ofNat 4294967295))=M.pure (.ret (a4A T)):=by
 have hlt:=b1H T;unfold a4A a2r;unfold a5R at hm;generalize V9 T=q at*;obtain⟨n,o,k⟩:=q;have e1:decide (Int.ofNat 4294967295<Int.ofNat 0)=false:=rfl;have e2:G8 .u64 (Int.ofNat 4294967295)=Int.ofNat 4294967295:=rfl;cases k with
  |false=>simp(disch:=first|exact dy|fail)only[c3Y,hm,E9,I1,J2,A4,m7,C3,C6,C4,a2D,J9,K7,B5,w9,V.e3y,r9,x9,F9,E5,E8,E6,S8]|true=>
   cases o with
    |true=>simp(disch:=first|exact dy|fail)only[c3Y,hm,vw,E9,I1,J2,A4,A3,o9,C3,C6,C4,a2D,J9,K7,F8,B5,w9,V.e3y,r9,x9,F9,E5,E8,E6,S8]|false=>
     cases h:decide (4294967295<n)with
      |true=>simp(disch:=first|exact dy|fail)only[c3Y,hm,e1,e2,P5,h,wZ,E9,I1,J2,A4,A3,o9,m7,C3,C6,C4,a2D,J9,K7,E2,B5,w9,V.e3y,r9,x9,B7,F9,E5,E8,E6,S8]|false=>
       have hn:n<=4294967295:=by simp only[wu]at h;omega
       have e3:G8 .i64 (Int.ofNat n)=Int.ofNat n:=b2U n zy;simp(disch:=first|exact dy|fail)only[c3Y,hm,e1,e2,e3,P5,h,wZ,E9,I1,J2,A4,A3,o9,m7,C3,C6,C4,a2D,J9,K7,E2,B5,w9,V.e3y,r9,x9,B7,F9,E5,E8,E6,S8]
noncomputable def c4A (T:List UInt8):Bool:=match T with|[]=>false|b::_=>decide (b.toNat=45)||decide (b.toNat=43)
noncomputable def a7h (T:List UInt8):Bool:=match T with|[]=>false|b::_=>decide (b.toNat=45)
noncomputable def a0p (T:List UInt8):List UInt8:=bcase (c4A T) (z7 T 1) T
noncomputable def a5T (n:Nat):Nat:=(18446744073709551616-n)%18446744073709551616
noncomputable def V7 (T:List UInt8)(gr:Nat):Nat×Nat:=bcase (V9 (a0p T)).2.2 (bcase ((V9 (a0p T)).2.1||bcase (a7h T) (decide (gr/2+1<(V9 (a0p T)).1)) (decide (gr<(V9 (a0p T)).1))) (0,6) (bcase (a7h T) (Nat.land (a5T (V9 (a0p T)).1) gr,0) ((V9 (a0p T)).1,0))) (0,4)
noncomputable def a8h (T:List UInt8)(gr:Nat):Value:=.tuple ⟨[.int .u64 (.ofNat (V7 T gr).1),.int .i64 (.ofNat (V7 T gr).2)]⟩
theorem b5L (p n)(h:n<18446744073709551616):xUn p .neg (.int .u64 (.ofNat n))=M.pure (.int .u64 (.ofNat (a5T n))):=by
 have e:xUn p .neg (.int .u64 (.ofNat n))=M.pure (.int .u64 (IntKind.u64.wrap (0-(Int.ofNat n)))):=by unfold xUn;rfl
 rw[e,IntKind.wrap_u64];have:(0-(Int.ofNat n))%18446744073709551616=Int.ofNat (a5T n):=by unfold a5T;simp only[wz];omega
 rw[this]
theorem b0j (p T t x y n m)(h1:n<18446744073709551616)(h2:m<18446744073709551616):R9 p T .and t x y (.int .u64 (.ofNat n)) (.int .u64 (.ofNat m))=M.pure (.int .u64 (.ofNat (Nat.land n m))):=a9z p T t x y .u64 n m rfl h1 h2
theorem c6F (n):a5T n<18446744073709551616:=sQ _ zv
theorem d3J (N call T)(hT:T.length<100000)(hm:call 118 [.string ⟨⟨a0p T⟩⟩]=M.pure (.ret (a5R (a0p T)))):b1G i7 N call (.string ⟨⟨T⟩⟩) (.int .i64 (.ofNat 32))=M.pure (.ret (a8h T 4294967295)):=by
 have hlt:=b1H (a0p T);have hlenS:∀T:List UInt8,a7r (.string ⟨⟨T⟩⟩)=M.pure (.int .i64 (.ofNat T.length)):=λT=>a3d _;have f1:decide (Int.ofNat 32<Int.ofNat 1)=false:=rfl;have f2:decide (Int.ofNat 64<Int.ofNat 32)=false:=rfl;have f3:G8 .i64 (Int.ofNat 64-Int.ofNat 32)=Int.ofNat 32:=rfl;have f4:(Int.ofNat 18446744073709551615).fdiv 4294967296=Int.ofNat 4294967295:=rfl;have f5:(Int.ofNat 4294967295).fdiv 2=Int.ofNat 2147483647:=rfl;have f6:G8 .u64 (Int.ofNat 2147483647+Int.ofNat 1)=Int.ofNat 2147483648:=rfl;have f7:4294967295/2+1=2147483648:=rfl;unfold a8h V7;unfold a5R at hm;cases T with
  |nil=>have u1:a0p []=[]:=rfl;have u2:a7h []=false:=rfl;have u3:beqBytes ([]:List UInt8) []=true:=rfl;have u4:decide (Int.ofNat 0<Int.ofNat ([]:List UInt8).length)=false:=rfl;rw[u1]at hm hlt⊢;rw[u2];generalize V9 []=q at*;obtain⟨n,o,k⟩:=q;cases k with|false=>simp(disch:=first|exact dy|fail)only[R4,hm,u3,f1,f2,f3,f4,f5,f6,E9,I1,J2,A4,D6,B9,A3,o9,m7,C3,C6,C4,J9,K7,E7,F8,E2,Int.reducePow,B5,w9,V.e3y,r9,x9,B7,A6,G1,F7,F9,D1,E5,E8,E6,V2,T4]|true=>cases o with|true=>simp(disch:=first|exact dy|fail)only[R4,hm,u3,f1,f2,f3,f4,f5,f6,vw,E9,I1,J2,A4,D6,B9,A3,o9,m7,C3,C6,C4,J9,K7,E7,F8,E2,Int.reducePow,B5,w9,V.e3y,r9,x9,B7,A6,G1,F7,F9,D1,E5,E8,E6,V2,T4]|false=>cases h:decide (4294967295<n)with|true=>simp(disch:=first|exact dy|fail)only[R4,hm,u3,P5,h,f1,f2,f3,f4,f5,f6,wZ,E9,I1,J2,A4,D6,B9,A3,o9,m7,C3,C6,C4,J9,K7,E7,F8,E2,Int.reducePow,B5,w9,V.e3y,r9,x9,B7,A6,G1,F7,F9,D1,E5,E8,E6,V2,T4]|false=>simp(disch:=first|exact dy|fail)only[R4,hm,u3,P5,h,f1,f2,f3,f4,f5,f6,wZ,E9,I1,J2,A4,D6,B9,A3,o9,m7,C3,C6,C4,J9,K7,E7,F8,E2,Int.reducePow,B5,w9,V.e3y,r9,x9,B7,A6,G1,F7,F9,D1,E5,E8,E6,V2,T4]
  |cons b l=>
   have i0:=a0n ⟨⟨b::l⟩⟩ 0 b rfl;have hlen1:1<=(b::l).length:=zu;have u3:beqBytes (b::l) []=false:=rfl;have u4:decide (Int.ofNat 0<Int.ofNat (b::l).length)=true:=by rw[P5];exact xL zu
   have u5:z7 (b::l) 1=l:=by rw[a5j,J7]
   cases h45:decide (b.toNat=45)with
    |true=>
     have u1:a0p (b::l)=l:=by show bcase (decide (b.toNat=45)||_) _ _=_;rw[h45,u5];rfl
     have u2:a7h (b::l)=true:=h45;rw[u1]at hm hlt⊢;rw[u2];generalize V9 l=q at*;obtain⟨n,o,k⟩:=q;simp only at hlt hm;have hng:=c6F n;cases k with
      |false=>simp(disch:=first|exact dy|fail)only[R4,hm,i0,u3,u5,deq,h45,P2,f1,f2,f3,f4,f5,f6,E9,I1,J2,A4,O3,D6,B9,A3,o9,m7,C3,C6,C4,J9,K7,S6,E7,F8,E2,Int.reducePow,B5,w9,V.e3y,r9,G0,x9,B7,A6,G1,F7,F9,D1,E5,E8,E6,V2,T4,B1]|true=>
       cases o with
        |true=>simp(disch:=first|exact dy|fail)only[R4,hm,i0,u3,u5,deq,h45,P2,f1,f2,f3,f4,f5,f6,vw,E9,I1,J2,A4,O3,D6,B9,A3,o9,m7,C3,C6,C4,J9,K7,S6,E7,F8,E2,Int.reducePow,B5,w9,V.e3y,r9,G0,x9,B7,A6,G1,F7,F9,D1,E5,E8,E6,V2,T4,B1]|false=>
         cases h:decide (2147483648<n)with
          |true=>cases hg:decide (4294967295<n)with|true=>simp(disch:=first|exact dy|fail)only[R4,hm,i0,u3,u5,deq,h45,P2,P5,h,f1,f2,f3,f4,f5,f6,wZ,E9,I1,J2,A4,O3,D6,B9,A3,o9,m7,C3,C6,C4,J9,K7,S6,E7,F8,E2,Int.reducePow,B5,w9,V.e3y,r9,G0,x9,B7,A6,G1,F7,F9,D1,E5,E8,E6,V2,T4,B1]|false=>simp(disch:=first|exact dy|fail)only[R4,hm,i0,u3,u5,deq,h45,P2,P5,h,f1,f2,f3,f4,f5,f6,wZ,E9,I1,J2,A4,O3,D6,B9,A3,o9,m7,C3,C6,C4,J9,K7,S6,E7,F8,E2,Int.reducePow,B5,w9,V.e3y,r9,G0,x9,B7,A6,G1,F7,F9,D1,E5,E8,E6,V2,T4,B1]
          |false=>
           have hg:decide (4294967295<n)=false:=by simp only[wu]at h⊢;omega
           simp(disch:=first|exact dy|fail)only[R4,hm,i0,u3,u5,deq,h45,P2,P5,h,hg,b5L,b0j,f1,f2,f3,f4,f5,f6,wZ,E9,I1,J2,A4,O3,D6,B9,A3,o9,m7,C3,C6,C4,J9,K7,S6,E7,F8,E2,Int.reducePow,B5,w9,V.e3y,r9,G0,x9,B7,A6,G1,F7,F9,D1,E5,E8,E6,V2,T4,B1]
    |false=>
     have u2:a7h (b::l)=false:=h45;cases h43:decide (b.toNat=43)with
      |true=>have u1:a0p (b::l)=l:=yE;rw[u1]at hm hlt⊢;rw[u2];generalize V9 l=q at*;obtain⟨n,o,k⟩:=q;cases k with|false=>simp(disch:=first|exact dy|fail)only[R4,hm,i0,u3,u5,deq,h45,h43,P2,f1,f2,f3,f4,f5,f6,E9,I1,J2,A4,D6,B9,A3,o9,m7,C3,C6,C4,J9,K7,S6,E7,a0h,F8,E2,Int.reducePow,B5,w9,V.e3y,r9,G0,x9,B7,A6,G1,F7,F9,D1,E5,E8,E6,T4,a1Q,B1]|true=>cases o with|true=>simp(disch:=first|exact dy|fail)only[R4,hm,i0,u3,u5,deq,h45,h43,P2,f1,f2,f3,f4,f5,f6,vw,E9,I1,J2,A4,D6,B9,A3,o9,m7,C3,C6,C4,J9,K7,S6,E7,a0h,F8,E2,Int.reducePow,B5,w9,V.e3y,r9,G0,x9,B7,A6,G1,F7,F9,D1,E5,E8,E6,V2,T4,a1Q,B1]|false=>cases h:decide (4294967295<n)with|true=>simp(disch:=first|exact dy|fail)only[R4,hm,i0,u3,u5,deq,h45,h43,P2,P5,h,f1,f2,f3,f4,f5,f6,wZ,E9,I1,J2,A4,D6,B9,A3,o9,m7,C3,C6,C4,J9,K7,S6,E7,a0h,F8,E2,Int.reducePow,B5,w9,V.e3y,r9,G0,x9,B7,A6,G1,F7,F9,D1,E5,E8,E6,V2,T4,a1Q,B1]|false=>simp(disch:=first|exact dy|fail)only[R4,hm,i0,u3,u5,deq,h45,h43,P2,P5,h,f1,f2,f3,f4,f5,f6,wZ,E9,I1,J2,A4,D6,B9,A3,o9,m7,C3,C6,C4,J9,K7,S6,E7,a0h,F8,E2,Int.reducePow,B5,w9,V.e3y,r9,G0,x9,B7,A6,G1,F7,F9,D1,E5,E8,E6,V2,T4,a1Q,B1]
      |false=>have u1:a0p (b::l)=b::l:=xh;rw[u1]at hm hlt⊢;rw[u2];generalize V9 (b::l)=q at*;obtain⟨n,o,k⟩:=q;cases k with|false=>simp(disch:=first|exact dy|fail)only[R4,hm,i0,u3,deq,h45,h43,f1,f2,f3,f4,f5,f6,E9,I1,J2,A4,D6,B9,A3,o9,m7,C3,C6,C4,J9,K7,S6,E7,a0h,F8,E2,Int.reducePow,B5,w9,V.e3y,r9,G0,x9,B7,A6,G1,F7,F9,D1,E5,E8,E6,T4,a1Q]|true=>cases o with|true=>simp(disch:=first|exact dy|fail)only[R4,hm,i0,u3,deq,h45,h43,f1,f2,f3,f4,f5,f6,vw,E9,I1,J2,A4,D6,B9,A3,o9,m7,C3,C6,C4,J9,K7,S6,E7,a0h,F8,E2,Int.reducePow,B5,w9,V.e3y,r9,G0,x9,B7,A6,G1,F7,F9,D1,E5,E8,E6,V2,T4,a1Q]|false=>cases h:decide (4294967295<n)with|true=>simp(disch:=first|exact dy|fail)only[R4,hm,i0,u3,deq,h45,h43,P5,h,f1,f2,f3,f4,f5,f6,wZ,E9,I1,J2,A4,D6,B9,A3,o9,m7,C3,C6,C4,J9,K7,S6,E7,a0h,F8,E2,Int.reducePow,B5,w9,V.e3y,r9,G0,x9,B7,A6,G1,F7,F9,D1,E5,E8,E6,V2,T4,a1Q]|false=>simp(disch:=first|exact dy|fail)only[R4,hm,i0,u3,deq,h45,h43,P5,h,f1,f2,f3,f4,f5,f6,wZ,E9,I1,J2,A4,D6,B9,A3,o9,m7,C3,C6,C4,J9,K7,S6,E7,a0h,F8,E2,Int.reducePow,B5,w9,V.e3y,r9,G0,x9,B7,A6,G1,F7,F9,D1,E5,E8,E6,V2,T4,a1Q]
theorem d2F (N call T)(hT:T.length<100000)(hm:call 118 [.string ⟨⟨a0p T⟩⟩]=M.pure (.ret (a5R (a0p T)))):b1G i7 N call (.string ⟨⟨T⟩⟩) (.int .i64 (.ofNat 64))=M.pure (.ret (a8h T 18446744073709551615)):=by
 have hlt:=b1H (a0p T);have hlenS:∀T:List UInt8,a7r (.string ⟨⟨T⟩⟩)=M.pure (.int .i64 (.ofNat T.length)):=λT=>a3d _;have f1:decide (Int.ofNat 64<Int.ofNat 1)=false:=rfl;have f2:decide (Int.ofNat 64<Int.ofNat 64)=false:=rfl;have f3:G8 .i64 (Int.ofNat 64-Int.ofNat 64)=Int.ofNat 0:=rfl;have f4:(Int.ofNat 18446744073709551615).fdiv 1=Int.ofNat 18446744073709551615:=rfl;have f5:(Int.ofNat 18446744073709551615).fdiv 2=Int.ofNat 9223372036854775807:=rfl;have f6:G8 .u64 (Int.ofNat 9223372036854775807+Int.ofNat 1)=Int.ofNat 9223372036854775808:=rfl;have f7:18446744073709551615/2+1=9223372036854775808:=rfl;unfold a8h V7;unfold a5R at hm;cases T with
  |nil=>have u1:a0p []=[]:=rfl;have u2:a7h []=false:=rfl;have u3:beqBytes ([]:List UInt8) []=true:=rfl;have u4:decide (Int.ofNat 0<Int.ofNat ([]:List UInt8).length)=false:=rfl;rw[u1]at hm hlt⊢;rw[u2];generalize V9 []=q at*;obtain⟨n,o,k⟩:=q;cases k with|false=>simp(disch:=first|exact dy|fail)only[R4,hm,u3,f1,f2,f3,f4,f5,f6,E9,I1,J2,A4,D6,B9,A3,o9,m7,C3,C6,C4,J9,K7,E7,F8,E2,Int.reducePow,B5,w9,V.e3y,r9,x9,B7,A6,G1,F7,F9,D1,E5,E8,E6,V2,T4]|true=>cases o with|true=>simp(disch:=first|exact dy|fail)only[R4,hm,u3,f1,f2,f3,f4,f5,f6,vw,E9,I1,J2,A4,D6,B9,A3,o9,m7,C3,C6,C4,J9,K7,E7,F8,E2,Int.reducePow,B5,w9,V.e3y,r9,x9,B7,A6,G1,F7,F9,D1,E5,E8,E6,V2,T4]|false=>cases h:decide (18446744073709551615<n)with|true=>simp(disch:=first|exact dy|fail)only[R4,hm,u3,P5,h,f1,f2,f3,f4,f5,f6,wZ,E9,I1,J2,A4,D6,B9,A3,o9,m7,C3,C6,C4,J9,K7,E7,F8,E2,Int.reducePow,B5,w9,V.e3y,r9,x9,B7,A6,G1,F7,F9,D1,E5,E8,E6,V2,T4]|false=>simp(disch:=first|exact dy|fail)only[R4,hm,u3,P5,h,f1,f2,f3,f4,f5,f6,wZ,E9,I1,J2,A4,D6,B9,A3,o9,m7,C3,C6,C4,J9,K7,E7,F8,E2,Int.reducePow,B5,w9,V.e3y,r9,x9,B7,A6,G1,F7,F9,D1,E5,E8,E6,V2,T4]
  |cons b l=>
   have i0:=a0n ⟨⟨b::l⟩⟩ 0 b rfl;have hlen1:1<=(b::l).length:=zu;have u3:beqBytes (b::l) []=false:=rfl;have u4:decide (Int.ofNat 0<Int.ofNat (b::l).length)=true:=by rw[P5];exact xL zu
   have u5:z7 (b::l) 1=l:=by rw[a5j,J7]
   cases h45:decide (b.toNat=45)with
    |true=>
     have u1:a0p (b::l)=l:=by show bcase (decide (b.toNat=45)||_) _ _=_;rw[h45,u5];rfl
     have u2:a7h (b::l)=true:=h45;rw[u1]at hm hlt⊢;rw[u2];generalize V9 l=q at*;obtain⟨n,o,k⟩:=q;simp only at hlt hm;have hng:=c6F n;cases k with
      |false=>simp(disch:=first|exact dy|fail)only[R4,hm,i0,u3,u5,deq,h45,P2,f1,f2,f3,f4,f5,f6,E9,I1,J2,A4,O3,D6,B9,A3,o9,m7,C3,C6,C4,J9,K7,S6,E7,F8,E2,Int.reducePow,B5,w9,V.e3y,r9,G0,x9,B7,A6,G1,F7,F9,D1,E5,E8,E6,V2,T4,B1]|true=>
       cases o with
        |true=>simp(disch:=first|exact dy|fail)only[R4,hm,i0,u3,u5,deq,h45,P2,f1,f2,f3,f4,f5,f6,vw,E9,I1,J2,A4,O3,D6,B9,A3,o9,m7,C3,C6,C4,J9,K7,S6,E7,F8,E2,Int.reducePow,B5,w9,V.e3y,r9,G0,x9,B7,A6,G1,F7,F9,D1,E5,E8,E6,V2,T4,B1]|false=>
         cases h:decide (9223372036854775808<n)with
          |true=>cases hg:decide (18446744073709551615<n)with|true=>simp(disch:=first|exact dy|fail)only[R4,hm,i0,u3,u5,deq,h45,P2,P5,h,f1,f2,f3,f4,f5,f6,wZ,E9,I1,J2,A4,O3,D6,B9,A3,o9,m7,C3,C6,C4,J9,K7,S6,E7,F8,E2,Int.reducePow,B5,w9,V.e3y,r9,G0,x9,B7,A6,G1,F7,F9,D1,E5,E8,E6,V2,T4,B1]|false=>simp(disch:=first|exact dy|fail)only[R4,hm,i0,u3,u5,deq,h45,P2,P5,h,f1,f2,f3,f4,f5,f6,wZ,E9,I1,J2,A4,O3,D6,B9,A3,o9,m7,C3,C6,C4,J9,K7,S6,E7,F8,E2,Int.reducePow,B5,w9,V.e3y,r9,G0,x9,B7,A6,G1,F7,F9,D1,E5,E8,E6,V2,T4,B1]
          |false=>
           have hg:decide (18446744073709551615<n)=false:=by simp only[wu]at h⊢;omega
           simp(disch:=first|exact dy|fail)only[R4,hm,i0,u3,u5,deq,h45,P2,P5,h,hg,b5L,b0j,f1,f2,f3,f4,f5,f6,wZ,E9,I1,J2,A4,O3,D6,B9,A3,o9,m7,C3,C6,C4,J9,K7,S6,E7,F8,E2,Int.reducePow,B5,w9,V.e3y,r9,G0,x9,B7,A6,G1,F7,F9,D1,E5,E8,E6,V2,T4,B1]
    |false=>
     have u2:a7h (b::l)=false:=h45;cases h43:decide (b.toNat=43)with
      |true=>have u1:a0p (b::l)=l:=yE;rw[u1]at hm hlt⊢;rw[u2];generalize V9 l=q at*;obtain⟨n,o,k⟩:=q;cases k with|false=>simp(disch:=first|exact dy|fail)only[R4,hm,i0,u3,u5,deq,h45,h43,P2,f1,f2,f3,f4,f5,f6,E9,I1,J2,A4,D6,B9,A3,o9,m7,C3,C6,C4,J9,K7,S6,E7,a0h,F8,E2,Int.reducePow,B5,w9,V.e3y,r9,G0,x9,B7,A6,G1,F7,F9,D1,E5,E8,E6,T4,a1Q,B1]|true=>cases o with|true=>simp(disch:=first|exact dy|fail)only[R4,hm,i0,u3,u5,deq,h45,h43,P2,f1,f2,f3,f4,f5,f6,vw,E9,I1,J2,A4,D6,B9,A3,o9,m7,C3,C6,C4,J9,K7,S6,E7,a0h,F8,E2,Int.reducePow,B5,w9,V.e3y,r9,G0,x9,B7,A6,G1,F7,F9,D1,E5,E8,E6,V2,T4,a1Q,B1]|false=>cases h:decide (18446744073709551615<n)with|true=>simp(disch:=first|exact dy|fail)only[R4,hm,i0,u3,u5,deq,h45,h43,P2,P5,h,f1,f2,f3,f4,f5,f6,wZ,E9,I1,J2,A4,D6,B9,A3,o9,m7,C3,C6,C4,J9,K7,S6,E7,a0h,F8,E2,Int.reducePow,B5,w9,V.e3y,r9,G0,x9,B7,A6,G1,F7,F9,D1,E5,E8,E6,V2,T4,a1Q,B1]|false=>simp(disch:=first|exact dy|fail)only[R4,hm,i0,u3,u5,deq,h45,h43,P2,P5,h,f1,f2,f3,f4,f5,f6,wZ,E9,I1,J2,A4,D6,B9,A3,o9,m7,C3,C6,C4,J9,K7,S6,E7,a0h,F8,E2,Int.reducePow,B5,w9,V.e3y,r9,G0,x9,B7,A6,G1,F7,F9,D1,E5,E8,E6,V2,T4,a1Q,B1]
      |false=>have u1:a0p (b::l)=b::l:=xh;rw[u1]at hm hlt⊢;rw[u2];generalize V9 (b::l)=q at*;obtain⟨n,o,k⟩:=q;cases k with|false=>simp(disch:=first|exact dy|fail)only[R4,hm,i0,u3,deq,h45,h43,f1,f2,f3,f4,f5,f6,E9,I1,J2,A4,D6,B9,A3,o9,m7,C3,C6,C4,J9,K7,S6,E7,a0h,F8,E2,Int.reducePow,B5,w9,V.e3y,r9,G0,x9,B7,A6,G1,F7,F9,D1,E5,E8,E6,T4,a1Q]|true=>cases o with|true=>simp(disch:=first|exact dy|fail)only[R4,hm,i0,u3,deq,h45,h43,f1,f2,f3,f4,f5,f6,vw,E9,I1,J2,A4,D6,B9,A3,o9,m7,C3,C6,C4,J9,K7,S6,E7,a0h,F8,E2,Int.reducePow,B5,w9,V.e3y,r9,G0,x9,B7,A6,G1,F7,F9,D1,E5,E8,E6,V2,T4,a1Q]|false=>cases h:decide (18446744073709551615<n)with|true=>simp(disch:=first|exact dy|fail)only[R4,hm,i0,u3,deq,h45,h43,P5,h,f1,f2,f3,f4,f5,f6,wZ,E9,I1,J2,A4,D6,B9,A3,o9,m7,C3,C6,C4,J9,K7,S6,E7,a0h,F8,E2,Int.reducePow,B5,w9,V.e3y,r9,G0,x9,B7,A6,G1,F7,F9,D1,E5,E8,E6,V2,T4,a1Q]|false=>simp(disch:=first|exact dy|fail)only[R4,hm,i0,u3,deq,h45,h43,P5,h,f1,f2,f3,f4,f5,f6,wZ,E9,I1,J2,A4,D6,B9,A3,o9,m7,C3,C6,C4,J9,K7,S6,E7,a0h,F8,E2,Int.reducePow,B5,w9,V.e3y,r9,G0,x9,B7,A6,G1,F7,F9,D1,E5,E8,E6,V2,T4,a1Q]
noncomputable def sgN (z:Nat):Bool:=Nat.ble 33 z&&Nat.ble z 126&& !(Nat.beq z 40||Nat.beq z 41||Nat.beq z 34||Nat.beq z 59||Nat.beq z 44)
noncomputable def b8J (r:Option (CR×S))(m:Int):Bool:=match r with
 |some x=>match x.1 with
  |.ret v=>match v with
   |.int k n=>Q7 k .i64&&(match n with
    |.ofNat j=>match m with|.ofNat i=>Nat.beq j i|.negSucc _=>false
    |.negSucc j=>match m with|.ofNat _=>false|.negSucc i=>Nat.beq j i)|_=>false
  |.pan _=>false
 |none=>false
theorem c4J {r m}(h:b8J r m=true):∃s,r=some (.ret (.int .i64 m),s):=by unfold b8J at h;split at h;rename_i x;split at h;rename_i v hv;split at h;rename_i k n;rw[xM]at h;obtain⟨y,s⟩:=x;obtain rfl:y=_:=hv;obtain rfl:=a2t h.1;have h2:=h.2;split at h2;split at h2;obtain rfl:=xS h2;exact⟨s,rfl⟩;cases h2;split at h2;cases h2;obtain rfl:=xS h2;exact⟨s,rfl⟩;cases h;cases h;cases h
noncomputable def b3L (r:Option (CR×S))(m:Bool):Bool:=match r with
 |some x=>match x.1 with
  |.ret v=>match v with|.bool b=>b==m|_=>false
  |.pan _=>false
 |none=>false
theorem b3b {r m}(h:b3L r m=true):∃s,r=some (.ret (.bool m),s):=by unfold b3L at h;split at h;rename_i x;split at h;rename_i v hv;split at h;rename_i b;obtain⟨y,s⟩:=x;obtain rfl:y=_:=hv;obtain rfl:=eq_of_beq h;exact⟨s,rfl⟩;cases h;cases h;cases h
noncomputable def upN (n:Nat):List Nat:=List.range n
noncomputable def a3b (q:Nat->Value)(z:Int):Option Value:=match z with|.ofNat m=>bcase (Nat.blt m 256) (some (q m)) none|.negSucc _=>none
theorem b1l {q z v}(h:a3b q z=some v):∃m,m<256/\z=.ofNat m/\v=q m:=by
 unfold a3b at h;split at h;rename_i m;cases hb:Nat.blt m 256 with|true=>rw[hb]at h;cases h;exact⟨m,by simpa using hb,rfl,rfl⟩|false=>rw[hb]at h;cases h
 cases h
theorem b2p (q)(b:UInt8):a3b q (.ofNat b.toNat)=some (q b.toNat):=by
 have h:Nat.blt b.toNat 256=true:=by have:=b.toNat_lt;simpa using this
 show bcase (Nat.blt b.toNat 256) _ _=_;rw[h];rfl
noncomputable def qDg (m:Nat):Value:=.int .i64 (dgI m)
noncomputable def qSg (m:Nat):Value:=.bool (sgN m)
theorem d8D (mL):A9 (λz=>b8J (j0 a4N 5 162 [.int .u8 (.ofNat z)] (Go.V.a1e (A2 mL))) (dgI z)) (upN 256)=true:=zw
theorem d4o:B6 Tryz.prog tab (A2 mL) 162 (X1 .u8 (a3b qDg)):=a6w λz v h=>by obtain⟨m,hm,rfl,rfl⟩:=b1l h;obtain⟨s,hr⟩:=c4J ((C9 _ _).1 (d8D mL) m (vd.2 hm));exact⟨rfl,a3B J6 D7 a4o a0O a3u b0f Tryz.func162 zw rfl rfl rfl hr⟩
theorem d6P (mL):A9 (λz=>b3L (j0 a4N 5 137 [.int .u8 (.ofNat z)] (Go.V.a1e (A2 mL))) (sgN z)) (upN 256)=true:=zw
theorem d6E:B6 Tryz.prog tab (A2 mL) 137 (X1 .u8 (a3b qSg)):=a6w λz v h=>by obtain⟨m,hm,rfl,rfl⟩:=b1l h;obtain⟨s,hr⟩:=b3b ((C9 _ _).1 (d6P mL) m (vd.2 hm));exact⟨rfl,a3B J6 D7 a4o a0O a3u b0f Tryz.func137 zw rfl rfl rfl hr⟩
theorem d7f (mL):A9 (λz=>b3L (j0 a4N 5 136 [.int .u8 (.ofNat z)] (Go.V.a1e (A2 mL))) (sgN z)) (upN 256)=true:=zw
theorem d4T:B6 Tryz.prog tab (A2 mL) 136 (X1 .u8 (a3b qSg)):=a6w λz v h=>by obtain⟨m,hm,rfl,rfl⟩:=b1l h;obtain⟨s,hr⟩:=b3b ((C9 _ _).1 (d7f mL) m (vd.2 hm));exact⟨rfl,a3B J6 D7 a4o a0O a3u b0f Tryz.func136 zw rfl rfl rfl hr⟩
noncomputable def a8v (l:List UInt8):Bool:=A9 (λb=>sgN b.toNat) l
noncomputable def a4q (T:List UInt8):Bool:=match T with|[]=>false|b::l=>match l with|[]=>false|_::_=>decide (b.toNat=36)&&a8v l
theorem e4j (N0 call)(hs:∀b:UInt8,call 137 [.int .u8 (.ofNat b.toNat)]=M.pure (.ret (.bool (sgN b.toNat))))(T)(hT:T.length<100000):∀(l) (i N) (g0 g1 g2 g3 g4 g5 g6 g7 g8 g9),T.drop i=l->l.length<N->∃x,I9 (c7M i7 N0 call (.int .i64 (.ofNat T.length)) (.string ⟨⟨T⟩⟩)) N [g0,g1,g2,g3,g4,g5,g6,g7,g8,g9,.int .i64 (.ofNat i)]=M.pure x/\bcase (a8v l) (x.1=.exit 0) (x.1=.ret/\r6 x.2 8=.bool false):=by
 have hlenS:a7r (.string ⟨⟨T⟩⟩)=M.pure (.int .i64 (.ofNat T.length)):=a3d _;intro l;induction l with
  |nil=>intro i N g0 g1 g2 g3 g4 g5 g6 g7 g8 g9 hd hN;obtain⟨N,rfl⟩:∃m,N=m+1:=⟨N-1,zy⟩;have hi:¬i<T.length:=xj;have h1:=b7M i T.length hi;rw[Q1];simp(disch:=first|exact dy|fail)only[b1y,h1,E9,J2,m7,J9,K7,B5,Y8,V.e3y,x9,A6];exact⟨_,rfl,rfl⟩|cons b l ih=>
   intro i N g0 g1 g2 g3 g4 g5 g6 g7 g8 g9 hd hN;obtain⟨N,rfl⟩:∃m,N=m+1:=⟨N-1,zy⟩;obtain⟨hb,hd',hi⟩:=c1D hd;have h1:=c1B i T.length hi;have hbT:(⟨⟨T⟩⟩:ByteArray).data.toList[i]?=some b:=hb;have h2:=a0n ⟨⟨T⟩⟩ i b hbT;have hsi:=c5p i zy;have hlen:l.length<N:=by simp at hN;omega
   have hsg:=hs b;have ha:a8v (b::l)=(sgN b.toNat&&a8v l):=I7 _ _ _;rw[ha];cases hq:sgN b.toNat with|true=>rw[hq]at hsg;rw[Q1,a8o];simp(disch:=first|exact dy|fail)only[b1y,h1,h2,hsi,hsg,V2,E9,J2,A4,o9,m7,J9,K7,B5,w9,V.e3y,x9,A6,F9];exact ih (i+1) N _ _ _ _ _ _ _ _ _ _ hd' hlen|false=>rw[hq]at hsg;rw[Q1,vg];simp(disch:=first|exact dy|fail)only[b1y,h1,h2,hsi,hsg,T4,E9,J2,A4,o9,m7,J9,K7,B5,a0Q,V.e3y,x9,A6,F9];exact⟨_,rfl,rfl,rfl⟩
theorem e5p (N call)(hs:∀b:UInt8,call 137 [.int .u8 (.ofNat b.toNat)]=M.pure (.ret (.bool (sgN b.toNat))))(T)(hT:T.length<N)(hT2:T.length<100000):b7E i7 N call (.string ⟨⟨T⟩⟩)=M.pure (.ret (.bool (a4q T))):=by
 have hlenS:∀T:List UInt8,a7r (.string ⟨⟨T⟩⟩)=M.pure (.int .i64 (.ofNat T.length)):=λT=>a3d _;have dlt2:∀a b:Nat,decide (Int.ofNat a<Int.ofNat b)=decide (a<b):=λa b=>yi;have deq2:∀a b:Nat,decide (Int.ofNat a=Int.ofNat b)=decide (a=b):=λa b=>yg;match T,hT,hT2 with
  |[],hT,hT2=>have h1:decide (([]:List UInt8).length<2)=true:=rfl;simp(disch:=first|exact dy|fail)only[b7F,hlenS,dlt2,h1,E9,I1,a4Z,A3,o9,m7,F8,B5,w9,V.e3y,x9,V2];rfl|[b],hT,hT2=>have h1:decide (([b]:List UInt8).length<2)=true:=rfl;simp(disch:=first|exact dy|fail)only[b7F,hlenS,dlt2,h1,E9,I1,a4Z,A3,o9,m7,F8,B5,w9,V.e3y,x9,V2];rfl|b::c::l,hT,hT2=>
   have h1:decide ((b::c::l).length<2)=false:=xO zu;have i0:=a0n ⟨⟨b::c::l⟩⟩ 0 b rfl;have hn:a4q (b::c::l)=(decide (b.toNat=36)&&a8v (c::l)):=rfl;rw[hn];cases h36:decide (b.toNat=36)with
    |false=>simp(disch:=first|exact dy|fail)only[b7F,hlenS,dlt2,deq2,h1,h36,i0,E9,I1,a4Z,A3,o9,C3,C6,C4,J9,K7,E2,B5,w9,V.e3y,a4V,x9,T4,vg]|true=>
     simp(disch:=first|exact dy|fail)only[b7F,hlenS,dlt2,deq2,h1,h36,i0,E9,I1,a4Z,A3,o9,m7,C3,C6,C4,J9,K7,E2,B5,w9,V.e3y,a4V,x9,V2,T4,a8o];obtain⟨x,hx,hm⟩:=e4j N call hs (b::c::l) hT2 (b::c::l) 0 N _ _ _ _ _ _ _ _ _ _ rfl hT;rw[hx,V.e3y];have h36':b.toNat=36:=wj h36;have hsb:a8v (b::c::l)=a8v (c::l):=by show A9 _ _=_;rw[I7,h36'];rfl
     rw[hsb]at hm;cases ha:a8v (c::l)with|true=>rw[ha]at hm;have hm:x.1=.exit 0:=hm;simp only[hm,Y8,I4,o9]|false=>rw[ha]at hm;obtain⟨q1,q2⟩:=(hm:x.1=.ret/\r6 x.2 8=.bool false);simp only[q1,q2,a0Q]
end Go.Proofs.YtmomonnlmbljoaaGreatDoor
end
section
namespace Go.Proofs
open Go.Shelf
def Tryz.lMul64_ren:Go.Shelf.Ren:=⟨λ|264=>130|n=>n,λ|53=>23|46=>145|n=>n,λ|n=>n⟩
theorem Tryz.lMul64:Go.Proofs.Lays.n264 Tryz.prog Tryz.lMul64_ren:={
 mixed:=zw
 f264:=Tryz.func130.trans (xC some zw)
 t46:=Tryz.underlying145
 a46:=Tryz.isAgg145
 z46:=Tryz.sizeOf145
 v46:=Tryz.zeroValue145
 t53:=Tryz.underlying23
 a53:=Tryz.isAgg23
 z53:=Tryz.sizeOf23
 v53:=Tryz.zeroValue23 }
end Go.Proofs
end
section
namespace Go.Proofs.YtmomonnlmbljoaaGreatDoor
open Go.V Go.RowKit Go.Shelf Go.Proofs
variable {mL:Int}
theorem c3V {bs v}(h:a8Y bs=some v):∃x y,bs=[.int .u64 (.ofNat x),.int .u64 (.ofNat y)]/\x<18446744073709551616/\y<18446744073709551616/\v=.tuple ⟨[.int .u64 (.ofNat (x*y/18446744073709551616)),.int .u64 (.ofNat (x*y%18446744073709551616))]⟩:=by
 unfold a8Y at h;split at h;rename_i x y;cases hb:Nat.blt x 18446744073709551616&&Nat.blt y 18446744073709551616 with|true=>rw[hb]at h;cases h;rw[xM]at hb;exact⟨x,y,rfl,by simpa using hb.1,by simpa using hb.2,rfl⟩|false=>rw[hb]at h;cases h
 cases h
theorem d7S:B6 Tryz.prog tab (A2 mL) 130 (λbs=>M.lift (a8Y bs)):=a1V λbs v h=>by obtain⟨x,y,rfl,hx,hy,rfl⟩:=c3V h;refine⟨rfl,rfl,λw hL=>⟨J5 Tryz.func130 zw rfl,?_⟩⟩;refine(Any.bits_Mul64 Tryz.lMul64 x y hx hy w).mono λe w' hq=>?_;obtain⟨rfl,rfl⟩:=hq;exact⟨rfl,uX _ _⟩
noncomputable def Q3 (T P:List UInt8):Bool:=decide (P.length<=T.length)&&beqBytes (Q2 T P.length) P
theorem dle (a b):decide (Int.ofNat a<=Int.ofNat b)=decide (a<=b):=by by_cases q:a<=b;rw[xL q];simp only[wa,wz];omega;rw[xO q];simp only[wu,wz];omega
theorem e4C (N call T P):b7z i7 N call (.string ⟨⟨T⟩⟩) (.string ⟨⟨P⟩⟩)=M.pure (.ret (.bool (Q3 T P))):=by have hlenS:∀T:List UInt8,a7r (.string ⟨⟨T⟩⟩)=M.pure (.int .i64 (.ofNat T.length)):=λT=>a3d _;unfold Q3;cases h:decide (P.length<=T.length)with|false=>simp(disch:=first|exact dy|fail)only[d0V,hlenS,dle,h,E9,I1,B9,m7,E2,w9,V.e3y,Z6,vg]|true=>have hl:P.length<=T.length:=wj h;simp(disch:=first|exact dy|fail)only[d0V,hlenS,dle,h,b8X,E9,I1,B9,o9,C3,C6,C4,J9,K7,F8,w9,V.e3y,Z6,a5m,a8o]
noncomputable def onS (q:List UInt8->Value)(bs:List Value):Option Value:=match bs with|[.string s]=>bcase (Nat.blt (j9 s.data.toList) 90000) (some (q s.data.toList)) none|_=>none
noncomputable def XS (q:List UInt8->Value):List Value->M Value:=λbs=>M.lift (onS q bs)
theorem c2i {q bs v}(h:onS q bs=some v):∃T,bs=[.string ⟨⟨T⟩⟩]/\T.length<90000/\v=q T:=by
 unfold onS at h;split at h;rename_i s;cases hb:Nat.blt (j9 s.data.toList) 90000 with|true=>rw[hb]at h;cases h;exact⟨s.data.toList,rfl,by rw[y9]at hb;simpa using hb,rfl⟩|false=>rw[hb]at h;cases h
 cases h
theorem b3R (q T)(h:T.length<90000):onS q [.string ⟨⟨T⟩⟩]=some (q T):=by
 have hb:Nat.blt (j9 T) 90000=true:=by rw[y9];exact A5 h
 show bcase (Nat.blt (j9 T) 90000) _ _=_;rw[hb];rfl
noncomputable def a9D (k:Nat)(q:List UInt8->Value)(bs:List Value):Option Value:=match bs with|[.string s,.int .i64 (.ofNat m)]=>bcase (Nat.blt (j9 s.data.toList) 90000&&Nat.beq m k) (some (q s.data.toList)) none|_=>none
noncomputable def XSI (k:Nat)(q:List UInt8->Value):List Value->M Value:=λbs=>M.lift (a9D k q bs)
theorem b2O {k q bs v}(h:a9D k q bs=some v):∃T,bs=[.string ⟨⟨T⟩⟩,.int .i64 (.ofNat k)]/\T.length<90000/\v=q T:=by
 unfold a9D at h;split at h;rename_i s m;cases hb:Nat.blt (j9 s.data.toList) 90000&&Nat.beq m k with|true=>rw[hb]at h;cases h;rw[xM]at hb;obtain rfl:=xS hb.2;exact⟨s.data.toList,rfl,by have:=hb.1;rw[y9]at this;simpa using this,rfl⟩|false=>rw[hb]at h;cases h
 cases h
theorem b1M (k q T)(h:T.length<90000):a9D k q [.string ⟨⟨T⟩⟩,.int .i64 (.ofNat k)]=some (q T):=by
 have hb:(Nat.blt (j9 T) 90000&&Nat.beq k k)=true:=by rw[y9,A5 h,I4];rfl
 show bcase (Nat.blt (j9 T) 90000&&Nat.beq k k) _ _=_;rw[hb];rfl
noncomputable def orX (q1 q2:List Value->Option Value)(bs:List Value):Option Value:=match q1 bs with|some v=>some v|none=>q2 bs
theorem U1.pureE {m:M CR}{v}(h:m=M.pure (.ret v)):∀c hh r w,d8 (go m ⟨c,hh,r,w⟩) λx s2=>x=.ret v/\∀i,i<c->s2.h.get i=hh.get i:=U1.pure h
noncomputable def pe1:Nat->Option (List Value->M Value):=(C8 (C8 (C8 (C8 a4D 162 (X1 .u8 (a3b qDg))) 137 (X1 .u8 (a3b qSg))) 136 (X1 .u8 (a3b qSg))) 130 (λbs=>M.lift (a8Y bs)))
noncomputable def ps1:a0g:=(I3 (I3 (I3 (I3 a4N 162 (X1 .u8 (a3b qDg))) 137 (X1 .u8 (a3b qSg))) 136 (X1 .u8 (a3b qSg))) 130 (λbs=>M.lift (a8Y bs)))
theorem pL1:Shelf' Tryz.prog tab (A2 mL) NN pe1 ps1:=((((((⟨a3u,b0f⟩:Shelf' Tryz.prog tab (A2 mL) NN a4D a4N).add d4o)).add d6E)).add d4T).add d7S
theorem d3k (n):MagC (j0 ps1 (n+1)) where
 dg b:=U7 (q:=a3b qDg) zw n (b2p qDg b)
 mul x y hx hy:=by
  have h1:Nat.blt x 18446744073709551616=true:=A5 hx
  have h2:Nat.blt y 18446744073709551616=true:=A5 hy
  refine K6 ps1 n 130 _ (g:=a8Y) zw ?_
  show bcase (Nat.blt x 18446744073709551616 && Nat.blt y 18446744073709551616) _ _=_
  rw [h1,h2]; rfl
 add x y:=K6 ps1 n 163 _ (g:=b0J) zw rfl
theorem d5S:B6 Tryz.prog tab (A2 mL) 118 (XS a5R):=Z3 J6 D7 (pL1 (mL:=mL)).e (pL1 (mL:=mL)).s Tryz.func118 zw rfl λbs v h=>by obtain⟨T,rfl,hT,rfl⟩:=c2i h;refine⟨rfl,λc hh r w=>⟨2,U1.pureE ?_ c hh r w⟩⟩;rw[O0 (q:=b7G) (N:=NN) zw 1];exact e4M NN _ (d3k 0) T (vF hT zv) (vF hT zv)
theorem d6c:B6 Tryz.prog tab (A2 mL) 107 (XS λT=>.bool (a4q T)):=Z3 J6 D7 (pL1 (mL:=mL)).e (pL1 (mL:=mL)).s Tryz.func107 zw rfl λbs v h=>by obtain⟨T,rfl,hT,rfl⟩:=c2i h;refine⟨rfl,λc hh r w=>⟨2,U1.pureE ?_ c hh r w⟩⟩;rw[O0 (q:=b7E) (N:=NN) zw 1];exact e5p NN _ (λb=>U7 (q:=a3b qSg) zw 0 (b2p qSg b)) T (vF hT zv) (vF hT zv)
noncomputable def pe2:Nat->Option (List Value->M Value):=(C8 (C8 pe1 118 (XS a5R)) 107 (XS λT=>.bool (a4q T)))
noncomputable def ps2:a0g:=(I3 (I3 ps1 118 (XS a5R)) 107 (XS λT=>.bool (a4q T)))
theorem pL2:Shelf' Tryz.prog tab (A2 mL) NN pe2 ps2:=(((pL1.add d5S)).add d6c)
theorem e1D:B6 Tryz.prog tab (A2 mL) 81 (XSI 4294967295 a4A):=Z3 J6 D7 (pL2 (mL:=mL)).e (pL2 (mL:=mL)).s Tryz.func81 zw rfl λbs v h=>by obtain⟨T,rfl,hT,rfl⟩:=b2O h;refine⟨rfl,λc hh r w=>⟨2,U1.pureE ?_ c hh r w⟩⟩;rw[Z9 (q:=c4w) (N:=NN) zw 1];exact n81 NN _ T (K6 ps2 0 118 _ (g:=onS a5R) zw (b3R _ _ hT))
theorem b9p (T):(a0p T).length<=T.length:=by unfold a0p;cases c4A T with|true=>show(z7 T 1).length<=_;rw[Q8,wM];omega|false=>exact xR _
noncomputable def a8n (bs:List Value):Option Value:=orX (a9D 32 λT=>a8h T 4294967295) (a9D 64 λT=>a8h T 18446744073709551615) bs
theorem c9p {bs v}(h:a8n bs=some v):∃T,T.length<90000/\((bs=[.string ⟨⟨T⟩⟩,.int .i64 (.ofNat 32)]/\v=a8h T 4294967295)\/(bs=[.string ⟨⟨T⟩⟩,.int .i64 (.ofNat 64)]/\v=a8h T 18446744073709551615)):=by unfold a8n orX at h;split at h;rename_i u hu;obtain⟨T,e1,e2,e3⟩:=b2O hu;cases h;exact⟨T,e2,Or.inl ⟨e1,e3⟩⟩;obtain⟨T,e1,e2,e3⟩:=b2O h;exact⟨T,e2,Or.inr ⟨e1,e3⟩⟩
theorem d2g (T)(h:T.length<90000):a8n [.string ⟨⟨T⟩⟩,.int .i64 (.ofNat 32)]=some (a8h T 4294967295):=by unfold a8n orX;rw[b1M 32 _ T h]
theorem d3S (T)(h:T.length<90000):a8n [.string ⟨⟨T⟩⟩,.int .i64 (.ofNat 64)]=some (a8h T 18446744073709551615):=by
 unfold a8n orX;have e:a9D 32 (λT=>a8h T 4294967295) [.string ⟨⟨T⟩⟩,.int .i64 (.ofNat 64)]=none:=by show bcase (Nat.blt (j9 T) 90000&&Nat.beq 64 32) _ _=_;rw[show Nat.beq 64 32=false from rfl,vM];rfl
 rw[e,b1M 64 _ T h]
theorem d6I:B6 Tryz.prog tab (A2 mL) 186 (λbs=>M.lift (a8n bs)):=Z3 J6 D7 (pL2 (mL:=mL)).e (pL2 (mL:=mL)).s Tryz.func186 zw rfl λbs v h=>by obtain⟨T,hT,⟨rfl,rfl⟩|⟨rfl,rfl⟩⟩:=c9p h;refine⟨rfl,λc hh r w=>⟨2,U1.pureE ?_ c hh r w⟩⟩;rw[Z9 (q:=b1G) (N:=NN) zw 1];exact d3J NN _ T (vF hT zv) (K6 ps2 0 118 _ (g:=onS a5R) zw (b3R _ _ (vq (b9p T) hT)));refine⟨rfl,λc hh r w=>⟨2,U1.pureE ?_ c hh r w⟩⟩;rw[Z9 (q:=b1G) (N:=NN) zw 1];exact d2F NN _ T (vF hT zv) (K6 ps2 0 118 _ (g:=onS a5R) zw (b3R _ _ (vq (b9p T) hT)))
abbrev L5:=@b7X
abbrev F79:=@d5b
abbrev F80:=@e4D
abbrev b9F:=@e2h
abbrev b9x:=@c2g
abbrev b9m:=@e1T
abbrev c9T:=@d9V
abbrev c8C:=@d9R
abbrev c0o:=@e2P
abbrev F32:=And.intro @e4d<| @B1
abbrev L32:=@c6i
abbrev bY:=And.intro @E9<|And.intro @I1<|And.intro @J2<|And.intro @a4Z<|And.intro @B4<|And.intro @B2<|And.intro @b0m<|And.intro @N2<|And.intro @b4v<|And.intro @a7E<|And.intro @A4<|And.intro @a0q<|And.intro @a3C<|And.intro @O3<|And.intro @a2j<|And.intro @V8<|And.intro @D6<|And.intro @a8D<|And.intro @b4o<|And.intro @b9s<|And.intro @a2w<|And.intro @a2T<|And.intro @B9<|And.intro @A3<|And.intro @o9<|And.intro @m7<|And.intro @C3<|And.intro @C6<|And.intro @C4<|And.intro @a2D<|And.intro @J9<|And.intro @K7<|And.intro @S6<|And.intro @E7<|And.intro @a0h<|And.intro @c4o<|And.intro @c3b<|And.intro @c3E<|And.intro @b2t<|And.intro @b2M<|And.intro @b2V<|And.intro @a7Z<|And.intro @F8<|And.intro @E2<|And.intro @b1j<|And.intro @a5L<|And.intro @a0B<|And.intro @a7H<|And.intro @B5<|And.intro @w9<|And.intro @Y8<|And.intro @a0Q<|And.intro @V.e3y<|And.intro @r9<|And.intro @F6<|And.intro @b1k<|And.intro @a5B<|And.intro @a8Z<|And.intro @b8a<|And.intro @a6m<|And.intro @G0<|And.intro @a4V<|And.intro @x9<|And.intro @a4c<|And.intro @B7<|And.intro @Z6<|And.intro @A6<|And.intro @G1<|And.intro @b2L<|And.intro @b2m<|And.intro @a9z<|And.intro @a5a<|And.intro @F7<|And.intro @F9<|And.intro @a5m<|And.intro @D1<|And.intro @X9<|And.intro @a3z<|And.intro @b2u<|And.intro @I5<|And.intro @b9M<|And.intro @c0b<|And.intro @E5<|And.intro @E8<|And.intro @E6<|And.intro @a9w<|And.intro @S8<|And.intro @a0d<|And.intro @a3d<|And.intro @a0n<|And.intro @a3h<|And.intro @a5y<|And.intro @a5s<|And.intro @a1I<|And.intro @a4r<|And.intro @a2A<|And.intro @a1Z<|And.intro @a3f<|And.intro @a0w<|And.intro @a2m<|And.intro @a6O<|And.intro @a7C<|And.intro @a9A<|And.intro @b2C<|And.intro @a5Q<|And.intro @a4U<|And.intro @I7<|And.intro @a5d<|And.intro @a7G<|And.intro @a6s<|And.intro @a3n<|And.intro @a5l<|And.intro @a3v<|And.intro @a6o<|And.intro @vz<|And.intro @a1t<|And.intro @a1f<|And.intro @a2W<|And.intro @a3U<|And.intro @a8g<|And.intro @Y4<|And.intro @a4n<|And.intro @O4<|And.intro @U8<|And.intro @a2V<|And.intro @A5<|And.intro @d9<|And.intro @a9O<|And.intro @c9<|And.intro @a1z<|And.intro @a2z<|And.intro @J7<|And.intro @a5j<|And.intro @W5<|And.intro @I6<|And.intro @a4X<|And.intro @wt<|And.intro @wV<|And.intro @a2h<|And.intro @a9B<|And.intro @a0e<|And.intro @a0u<|And.intro @b4K<| @a9W
abbrev bX:=And.intro @E9<|And.intro @I1<|And.intro @J2<|And.intro @a4Z<|And.intro @B4<|And.intro @B2<|And.intro @b0m<|And.intro @N2<|And.intro @b4v<|And.intro @a7E<|And.intro @A4<|And.intro @a0q<|And.intro @a3C<|And.intro @O3<|And.intro @a2j<|And.intro @V8<|And.intro @D6<|And.intro @a8D<|And.intro @b4o<|And.intro @b9s<|And.intro @a2w<|And.intro @a2T<|And.intro @B9<|And.intro @A3<|And.intro @o9<|And.intro @m7<|And.intro @C3<|And.intro @C6<|And.intro @C4<|And.intro @a2D<|And.intro @J9<|And.intro @K7<|And.intro @S6<|And.intro @E7<|And.intro @a0h<|And.intro @c4o<|And.intro @c3b<|And.intro @c3E<|And.intro @b2t<|And.intro @b2M<|And.intro @b2V<|And.intro @a7Z<|And.intro @F8<|And.intro @E2<|And.intro @b1j<|And.intro @a5L<|And.intro @a0B<|And.intro @a7H<|And.intro @B5<|And.intro @w9<|And.intro @Y8<|And.intro @a0Q<|And.intro @V.e3y<|And.intro @r9<|And.intro @F6<|And.intro @b1k<|And.intro @a5B<|And.intro @a8Z<|And.intro @b8a<|And.intro @a6m<|And.intro @G0<|And.intro @a4V<|And.intro @x9<|And.intro @a4c<|And.intro @B7<|And.intro @Z6<|And.intro @A6<|And.intro @G1<|And.intro @b2L<|And.intro @b2m<|And.intro @a9z<|And.intro @a5a<|And.intro @F7<|And.intro @F9<|And.intro @a5m<|And.intro @D1<|And.intro @X9<|And.intro @a3z<|And.intro @b2u<|And.intro @I5<|And.intro @b9M<|And.intro @c0b<|And.intro @E5<|And.intro @E8<|And.intro @E6<|And.intro @a9w<|And.intro @S8<|And.intro @a0d<|And.intro @a3d<|And.intro @a0n<|And.intro @a3h<|And.intro @a5y<|And.intro @a5s<|And.intro @a1I<|And.intro @a4r<|And.intro @a2A<|And.intro @a1Z<|And.intro @a3f<|And.intro @a0w<|And.intro @a2m<|And.intro @a6O<|And.intro @a7C<|And.intro @a9A<|And.intro @b2C<|And.intro @a5Q<|And.intro @a4U<|And.intro @I7<|And.intro @a5d<|And.intro @a7G<|And.intro @a6s<|And.intro @a3n<|And.intro @a5l<|And.intro @a3v<|And.intro @a6o<|And.intro @vz<|And.intro @a1t<|And.intro @a1f<|And.intro @a2W<|And.intro @a3U<|And.intro @a8g<|And.intro @Y4<|And.intro @a4n<|And.intro @O4<|And.intro @U8<|And.intro @a2V<|And.intro @A5<|And.intro @d9<|And.intro @a9O<|And.intro @c9<|And.intro @a1z<|And.intro @a2z<|And.intro @J7<|And.intro @a5j<|And.intro @W5<|And.intro @I6<|And.intro @a4X<|And.intro @wt<|And.intro @wV<|And.intro @a2h<|And.intro @a9B<|And.intro @a0e<| @a0u
abbrev bT:=And.intro @d5j<|And.intro @d5m<|And.intro @d8Z<|And.intro @d4n<|And.intro @d7R<|And.intro @d8y<|And.intro @d8B<|And.intro @d5z<|And.intro @d4S<|And.intro @d7Q<|And.intro @d8s<|And.intro @d8b<|And.intro @d5a<|And.intro @d9f<|And.intro @d9g<|And.intro @d8Q<|And.intro @d5p<|And.intro @d5M<|And.intro @d0M<|And.intro @d1n<|And.intro @d1i<|And.intro @d1g<|And.intro @d1N<|And.intro @d0N<|And.intro @d1e<|And.intro @d1o<|And.intro @d1J<|And.intro @d0T<|And.intro @b1Y<|And.intro @b0s<|And.intro @I7<|And.intro @a5d<|And.intro @a7G<|And.intro @a6s<|And.intro @a3n<|And.intro @a5l<|And.intro @a3v<|And.intro @a6o<|And.intro @vt<|And.intro @ut<|And.intro @uu<|And.intro @vj<|And.intro @vz<|And.intro @W3<|And.intro @a4W<|And.intro @wt<|And.intro @I4<|And.intro @a4X<|And.intro @E8<|And.intro @E6<|And.intro @a5s<|And.intro @a1I<|And.intro @a4r<|And.intro @a2A<|And.intro @a1Z<|And.intro @a3f<|And.intro @a0w<|And.intro @a1E<|And.intro @b3B<|And.intro @b3k<|And.intro @b4b<|And.intro @b8Q<|And.intro @b8S<|And.intro @a4f<|And.intro @a3g<|And.intro @a8G<|And.intro @a2e<|And.intro @a3t<|And.intro @J4<|And.intro @a7U<|And.intro @a6R<|And.intro @P1<|And.intro @a2w<| @a2T
theorem dz {p:Prop}(h:p:=by first|assumption|omega|(simp only[bT,a1s,IntKind.bits,a0l,Nat.reduceMul,Nat.reduceLT,Nat.reduceAdd,Nat.reduceBEq]<;>omega)):p:=h
abbrev gT:=And.intro @ut<|And.intro @vt<|And.intro @vj<|And.intro @vg<|And.intro @uu<|And.intro @vM<|And.intro @vw<|And.intro @wZ<|And.intro @sq<|And.intro @Bool.or_false<|And.intro @vU @vP
end Go.Proofs.YtmomonnlmbljoaaGreatDoor
end
