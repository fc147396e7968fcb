import Derived.Test.YtmomonnlmbljoaaGreatDoorProg
import Derived.Test.YtmomonnlmbljoaaGreatDoorKag
import Derived.Test.YtmomonnlmbljoaaGreatDoorKas
set_option maxRecDepth 1000000
set_option maxHeartbeats 4000000
set_option linter.unusedVariables false
set_option linter.unusedSimpArgs false
noncomputable section
namespace Go.Proofs.YtmomonnlmbljoaaGreatDoor
open Go.V Go.RowKit Go.Shelf Go.Proofs
variable {mL:Int}
def dgN (z:Nat):Option Nat:=bcase (Nat.ble 48 z&&Nat.ble z 57) (some (z-48)) (bcase (Nat.ble 97 z&&Nat.ble z 102) (some (z-87)) (bcase (Nat.ble 65 z&&Nat.ble z 70) (some (z-55)) none))
def dgI (z:Nat):Int:=match dgN z with|some d=>.ofNat d|none=>.negSucc 0
theorem e2i {z d}(h:dgN z=some d):d<16:=by unfold dgN at h;cases h1:Nat.ble 48 z&&Nat.ble z 57 with|true=>rw[h1]at h;simp only[wI,Nat.ble_eq]at h1;cases h;omega|false=>rw[h1]at h;cases h2:Nat.ble 97 z&&Nat.ble z 102 with|true=>rw[h2]at h;simp only[wI,Nat.ble_eq]at h2;cases h;omega|false=>rw[h2]at h;cases h3:Nat.ble 65 z&&Nat.ble z 70 with|true=>rw[h3]at h;simp only[wI,Nat.ble_eq]at h3;cases h;omega|false=>rw[h3]at h;cases h
def dig (B:Nat):List UInt8->Nat->Bool->Bool->Option (Nat×Bool×Bool)|[],n,ov,bt=>some (n,ov,bt)|b::l,n,ov,bt=>bcase (decide (b.toNat=95)&&bt) (dig B l n ov false) (match dgN b.toNat with|some d=>bcase (decide (d<B)) (dig B l ((n*B+d)%18446744073709551616) (ov||decide (18446744073709551616<=n*B+d)) true) none|none=>none)
theorem w64 (n)(h:n<18446744073709551616):Q0 .u64 (Int.ofNat n)=Int.ofNat n:=b0k .u64 n h
theorem b5L (n)(h:n<9223372036854775808):Q0 .i64 (Int.ofNat n)=Int.ofNat n:=b0k .i64 n h
theorem b8F (i n)(h:i<n):decide (Int.ofNat i<Int.ofNat n)=true:=zn
theorem b5X (i n)(h:¬i<n):decide (Int.ofNat i<Int.ofNat n)=false:=zn
theorem c1U (i)(h:i<2000000):Q0 .i64 (Int.ofNat i+Int.ofNat 1)=Int.ofNat (i+1):=by have:(Int.ofNat i+Int.ofNat 1)=Int.ofNat (i+1):=rfl;rw[this];exact b5L _ zy
theorem b8p {α:Type}{T:List α}{i b l}(h:T.drop i=b::l):T[i]?=some b/\T.drop (i+1)=l/\i<T.length:=by
 have h1:(T.drop i)[0]?=some b:=by rw[h];rfl
 rw[uG,vC]at h1;refine⟨h1,?_,(wM.1 h1).1⟩;rw[show i+1=i+1 by rfl,<-oz,h];rfl
def b1s (bs:List Value):Option Value:=match bs with|[.int .u64 (.ofNat x),.int .u64 (.ofNat y)]=>bcase (Nat.blt x 18446744073709551616&&Nat.blt y 18446744073709551616) (some (.tuple ⟨[.int .u64 (.ofNat (x*y/18446744073709551616)),.int .u64 (.ofNat (x*y%18446744073709551616))]⟩)) none|_=>none
structure MagC (call:J4):Prop where
 dg:∀ b:UInt8,call 162 [.int .u8 (.ofNat b.toNat)]=M.pure (.ret (.int .i64 (dgI b.toNat)))
 mul:∀ x y:Nat,x<18446744073709551616→y<18446744073709551616→call 130 [.int .u64 (.ofNat x),.int .u64 (.ofNat y)]=M.pure (.ret (.tuple ⟨[.int .u64 (.ofNat (x * y / 18446744073709551616)),.int .u64 (.ofNat (x * y % 18446744073709551616))]⟩))
 add:∀ x y:Nat,call 163 [.int .u64 (.ofNat x),.int .u64 (.ofNat y),.int .u64 (.ofNat 0)]=M.pure (.ret (.tuple ⟨[.int .u64 (.ofNat ((x+y) % 18446744073709551616)),.int .u64 (.ofNat ((x+y) / 18446744073709551616))]⟩))
theorem d3R (X d):X/18446744073709551616+(X%18446744073709551616+d)/18446744073709551616=(X+d)/18446744073709551616/\(X%18446744073709551616+d)%18446744073709551616=(X+d)%18446744073709551616:=zy
theorem d6P (Y)(h:Y<18446744073709551616*100):(!(decide (Int.ofNat (Y/18446744073709551616)=Int.ofNat 0)))=decide (18446744073709551616<=Y):=zo
theorem d1K (N0:Nat)(call:J4)(C:MagC call)(T:List UInt8)(hT:T.length<2000000)(B:Nat)(hB:B=10\/B=16)(u0 u1 u2 u3 u4 u5 u6 u7 u8 u9:Value):∀(l:List UInt8) (i N n:Nat) (ov bt:Bool) (g0 g1 g2 g3 g4 g5 g6 g7 g8 g9 g10 g11 g12 g13 g14 g15 g16 g17 g18 g19 g20 g21 g22 g23 g24 g25 g26 g27 g28 g29 g30 g31 g32 g33 g34 g35 g36 g37 g38 g39 g40 g41 g42 g43 g44 g45 g46 g47 g48 g49 g51 g54:Value),T.drop i=l->l.length<N->n<18446744073709551616->∃x:Xc×List Value,R7 (c5m o8 N0 call (.int .i64 (.ofNat T.length)) [u0,u1,u2,u3,u4,u5,u6,u7,u8,u9,.int .u64 (.ofNat B),.string ⟨⟨T⟩⟩]) N [g0,g1,g2,g3,g4,g5,g6,g7,g8,g9,g10,g11,g12,g13,g14,g15,g16,g17,g18,g19,g20,g21,g22,g23,g24,g25,g26,g27,g28,g29,g30,g31,g32,g33,g34,g35,g36,g37,g38,g39,g40,g41,g42,g43,g44,g45,g46,g47,g48,g49,.bool ov,g51,.int .u64 (.ofNat n),.bool bt,g54,.int .i64 (.ofNat i)]=M.pure x/\match dig B l n ov bt with|some q=>x.1=.exit 0/\D5 x.2 52=.int .u64 (.ofNat q.1)/\D5 x.2 50=.bool q.2.1/\D5 x.2 53=.bool q.2.2|none=>x.1=.ret/\D5 x.2 23=.int .u64 (.ofNat 0)/\D5 x.2 24=.bool false/\D5 x.2 25=.bool false:=by
 intro l;induction l with
  |nil=>intro i N n ov bt g0 g1 g2 g3 g4 g5 g6 g7 g8 g9 g10 g11 g12 g13 g14 g15 g16 g17 g18 g19 g20 g21 g22 g23 g24 g25 g26 g27 g28 g29 g30 g31 g32 g33 g34 g35 g36 g37 g38 g39 g40 g41 g42 g43 g44 g45 g46 g47 g48 g49 g51 g54 hd hN hn;obtain⟨N,rfl⟩:∃m,N=m+1:=⟨N-1,zy⟩;have hi:¬i<T.length:=wm;have h1:=b5X i T.length hi;rw[Z5];simp(disch:=first|exact dy|fail)only[a8S,h1,O5,U0,V6,I7,A8,L8,K8,K9,a4U,X3,Y0,J9,G5,a1s,V.e8n,G6,J6];exact⟨_,rfl,rfl,rfl,rfl,rfl⟩|cons b l ih=>
   intro i N n ov bt g0 g1 g2 g3 g4 g5 g6 g7 g8 g9 g10 g11 g12 g13 g14 g15 g16 g17 g18 g19 g20 g21 g22 g23 g24 g25 g26 g27 g28 g29 g30 g31 g32 g33 g34 g35 g36 g37 g38 g39 g40 g41 g42 g43 g44 g45 g46 g47 g48 g49 g51 g54 hd hN hn;obtain⟨N,rfl⟩:∃m,N=m+1:=⟨N-1,zy⟩;obtain⟨hb,hd',hi⟩:=b8p hd;have h1:=b8F i T.length hi;have hbT:(⟨⟨T⟩⟩:ByteArray).data.toList[i]?=some b:=hb;have h2:=a1L ⟨⟨T⟩⟩ i b hbT;have hs:=c1U i zy;have hlen:l.length<N:=zo;have e95:decide (Int.ofNat b.toNat=Int.ofNat 95)=decide (b.toNat=95):=zo;cases hc:decide (b.toNat=95)&&bt with
    |true=>
     rw[wI]at hc;obtain⟨hc1,rfl⟩:=hc;have hdig:dig B (b::l) n ov true=dig B l n ov false:=by show bcase (decide (b.toNat=95)&&true) _ _=_;rw[hc1];rfl
     rw[hdig];rw[Z5];simp(disch:=first|exact dy|fail)only[a8S,h1,h2,hs,e95,hc1,O5,U0,V6,M4,I7,D8,L8,K8,K9,a4U,X3,Y0,Q7,J9,G5,V.e8n,R9,G6,J6];exact ih (i+1) N n ov false _ _ _ _ _ _ _ _ _ _ _ _ _ _ _ _ _ _ _ _ _ _ _ _ _ _ _ _ _ _ _ _ _ _ _ _ _ _ _ _ _ _ _ _ _ _ _ _ _ _ _ _ hd' hlen hn|false=>
     have hdig:dig B (b::l) n ov bt=(match dgN b.toNat with|some d=>bcase (decide (d<B)) (dig B l ((n*B+d)%18446744073709551616) (ov||decide (18446744073709551616<=n*B+d)) true) none|none=>none):=by show bcase (decide (b.toNat=95)&&bt) _ _=_;rw[hc];rfl
     have hpick:a4u (.bool (decide (b.toNat=95))) (bcase (decide (b.toNat=95)) (.bool bt) undef) (.bool false)=M.pure (.bool false):=by rw[a2s,hc]
     have hdg:=C.dg b;cases hq:dgN b.toNat with
      |none=>
       have e1:dgI b.toNat=.negSucc 0:=by grind[dgI]
       rw[e1]at hdg;have e2:decide (Int.negSucc 0<Int.ofNat 0)=true:=rfl;have hd2:dig B (b::l) n ov bt=none:=by rw[hdig,hq]
       rw[hd2,Z5];simp(disch:=first|exact dy|fail)only[a8S,h1,h2,e95,hpick,hdg,e2,O5,U0,V6,I8,M4,I7,D8,A8,L8,K8,K9,a4U,X3,Y0,Q7,J9,G5,a2l,V.e8n,R9,G6,a1C,J6,a0Q];exact⟨_,rfl,rfl,rfl,rfl,rfl⟩|some d=>
       have hd16:=e2i hq;have e1:dgI b.toNat=.ofNat d:=by grind[dgI]
       rw[e1]at hdg;have e2:decide (Int.ofNat d<Int.ofNat 0)=false:=za;have e3:Q0 .u64 (Int.ofNat d)=Int.ofNat d:=w64 d zy;cases hdB:decide (d<B)with
        |false=>
         have e4:decide (Int.ofNat B<=Int.ofNat d)=true:=zo;have hd2:dig B (b::l) n ov bt=none:=by rw[hdig,hq];show bcase (decide (d<B)) _ _=_;rw[hdB];rfl
         rw[hd2,Z5];simp(disch:=first|exact dy|fail)only[a8S,h1,h2,e95,hpick,hdg,e2,e3,e4,O5,U0,V6,I8,M4,I7,D8,A8,L8,K8,K9,a4U,X3,Y0,O9,J9,G5,a2l,V.e8n,R9,G6,a1C,J6,a0Q];exact⟨_,rfl,rfl,rfl,rfl,rfl⟩|true=>
         have e4:decide (Int.ofNat B<=Int.ofNat d)=false:=zo;have hB2:B<18446744073709551616:=zy;have hm:=C.mul n B hn hB2;obtain⟨c1,c2⟩:=d3R (n*B) d;have ha:=C.add (n*B%18446744073709551616) d;rw[c2]at ha;have hX:n*B<=n*16:=Nat.mul_le_mul_left n zy;have hY:n*B+d<18446744073709551616*100:=zy;have hw:Q0 .u64 (Int.ofNat (n*B/18446744073709551616)+Int.ofNat ((n*B%18446744073709551616+d)/18446744073709551616))=Int.ofNat ((n*B+d)/18446744073709551616):=by have:Int.ofNat (n*B/18446744073709551616)+Int.ofNat ((n*B%18446744073709551616+d)/18446744073709551616)=Int.ofNat (n*B/18446744073709551616+(n*B%18446744073709551616+d)/18446744073709551616):=rfl;rw[this,c1];grind[w64]
         have hov:=d6P _ hY;have hd2:dig B (b::l) n ov bt=dig B l ((n*B+d)%18446744073709551616) (ov||decide (18446744073709551616<=n*B+d)) true:=by rw[hdig,hq];show bcase (decide (d<B)) _ _=_;rw[hdB];rfl
         have hpo:a4u (.bool ov) (.bool true) (bcase ov undef (.bool (decide (18446744073709551616<=n*B+d))))=M.pure (.bool (ov||decide (18446744073709551616<=n*B+d))):=b0g _ _;rw[hd2,Z5];simp(disch:=first|exact dy|fail)only[a8S,h1,h2,hs,e95,hpick,hdg,e2,e3,e4,hm,ha,hw,hov,hpo,O5,U0,V6,I8,M4,I7,D8,A8,L8,K8,K9,a4U,X3,Y0,O9,J9,G5,V.e8n,F6,R9,a4G,G6,a1C,J6,Q4,P7,P6,a0Q];exact ih (i+1) N ((n*B+d)%18446744073709551616) (ov||decide (18446744073709551616<=n*B+d)) true _ _ _ _ _ _ _ _ _ _ _ _ _ _ _ _ _ _ _ _ _ _ _ _ _ _ _ _ _ _ _ _ _ _ _ _ _ _ _ _ _ _ _ _ _ _ _ _ _ _ _ _ hd' hlen (Nat.mod_lt _ zu)
def c2t (T:List UInt8):Bool:=decide (Int.ofNat 2<Int.ofNat T.length)&&beqBytes (a0B T 2) [48,120]
def a1A (T:List UInt8):Nat×Bool×Bool:=match bcase (c2t T) (dig 16 (G7 T 2) 0 false false) (dig 10 T 0 false false)with|some q=>q|none=>(0,false,false)
def a8i (T:List UInt8):Value:=.tuple ⟨[.int .u64 (.ofNat (a1A T).1),.bool (a1A T).2.1,.bool (a1A T).2.2]⟩
theorem c1S (T k n)(h:n<=T.length):a5H (.string ⟨⟨T⟩⟩) none (some (.int k (.ofNat n)))=M.pure (.string ⟨⟨a0B T n⟩⟩):=by
 show a7Y ⟨⟨T⟩⟩ _ _=_;unfold a7Y;have h':Nat.ble n (z8 T)=true:=by rw[G8];simp_all
 have h0:Nat.ble 0 n=true:=a1N (vH _);simp only[a3n,a9D,F6,h',h0,a8w,P8,Y3,a0f,ql]
theorem a0P (T k n)(h:n<=T.length):a5H (.string ⟨⟨T⟩⟩) (some (.int k (.ofNat n))) none=M.pure (.string ⟨⟨G7 T n⟩⟩):=by
 rw[a6g _ _ _ (by rw[G8];exact h)];have:a0B (G7 T n) (z8 T-n)=G7 T n:=by rw[a2w,a0z,G8];grind[List.length_drop]
 simp_all
theorem e8D (N call)(C:MagC call)(T)(hT:T.length<N)(hT2:T.length<2000000):c0F o8 N call (.string ⟨⟨T⟩⟩)=M.pure (.ret (a8i T)):=by
 have hlenS:∀T:List UInt8,a7T (.string ⟨⟨T⟩⟩)=M.pure (.int .i64 (.ofNat T.length)):=λT=>a3W _;unfold a8i a1A c2t;have h0:T.drop 0=T:=rfl;cases h1:decide (Int.ofNat 2<Int.ofNat T.length)with
  |false=>simp(disch:=first|exact dy|fail)only[c7F,hlenS,h1,uR,O5,U0,a6s,a0q,P5,M4,A8,X3,Y0,O9,J9,G5,V.e8n,M6];obtain⟨x,hx,hm⟩:=d1K N call C T hT2 10 (Or.inl rfl) _ _ _ _ _ _ _ _ _ _ T 0 N 0 false false _ _ _ _ _ _ _ _ _ _ _ _ _ _ _ _ _ _ _ _ _ _ _ _ _ _ _ _ _ _ _ _ _ _ _ _ _ _ _ _ _ _ _ _ _ _ _ _ _ _ _ _ rfl hT zu;rw[hx,V.e8n];cases hd:dig 10 T 0 false false<;>first|rfl|grind[a2l,a1s,P9,D8]
  |true=>
   have hl:2<=T.length:=zo;cases h2:beqBytes (a0B T 2) [48,120]with
    |false=>simp(disch:=first|exact dy|fail)only[c7F,hlenS,h1,h2,a8D,c1S,a0P,O5,U0,a6s,a0q,P5,M4,D8,A8,L8,K8,K9,X3,Y0,Q7,J9,G5,V.e8n,M6,a7P,I9];obtain⟨x,hx,hm⟩:=d1K N call C T hT2 10 (Or.inl rfl) _ _ _ _ _ _ _ _ _ _ T 0 N 0 false false _ _ _ _ _ _ _ _ _ _ _ _ _ _ _ _ _ _ _ _ _ _ _ _ _ _ _ _ _ _ _ _ _ _ _ _ _ _ _ _ _ _ _ _ _ _ _ _ _ _ _ _ rfl hT zu;rw[hx,V.e8n];cases hd:dig 10 T 0 false false<;>first|rfl|grind[a2l,a1s,P9,D8]
    |true=>
     have hl2:(G7 T 2).length=T.length-2:=by rw[a0z,uw]
     simp(disch:=first|exact dy|fail)only[c7F,hlenS,h1,h2,c1S,a0P,O5,U0,a6s,a0q,P5,M4,D8,L8,K8,K9,X3,Y0,Q7,J9,G5,V.e8n,M6,a7P,a8w,I9];obtain⟨x,hx,hm⟩:=d1K N call C (G7 T 2) zy 16 (Or.inr rfl) _ _ _ _ _ _ _ _ _ _ (G7 T 2) 0 N 0 false false _ _ _ _ _ _ _ _ _ _ _ _ _ _ _ _ _ _ _ _ _ _ _ _ _ _ _ _ _ _ _ _ _ _ _ _ _ _ _ _ _ _ _ _ _ _ _ _ _ _ _ _ rfl zy zu;rw[hx,V.e8n];cases hd:dig 16 (G7 T 2) 0 false false<;>first|rfl|grind[a2l,a1s,P9,D8]
theorem c8t (B):∀(l) (n) (ov bt) (q),n<18446744073709551616->dig B l n ov bt=some q->q.1<18446744073709551616:=by intro l;induction l with|nil=>intro n ov bt q hn h;cases h;exact hn|cons b l ih=>intro n ov bt q hn h;have h':bcase (decide (b.toNat=95)&&bt) (dig B l n ov false) (match dgN b.toNat with|some d=>bcase (decide (d<B)) (dig B l ((n*B+d)%18446744073709551616) (ov||decide (18446744073709551616<=n*B+d)) true) none|none=>none)=some q:=h;cases hc:decide (b.toNat=95)&&bt<;>first|rfl|grind[decide,D8,A8]
theorem b4O (T):(a1A T).1<18446744073709551616:=by
 unfold a1A;split;rename_i q h;cases hx:c2t T with|true=>rw[hx]at h;exact c8t _ _ _ _ _ _ zu h|false=>rw[hx]at h;exact c8t _ _ _ _ _ _ zu h
 decide
def a4O (T:List UInt8):Nat×Nat:=bcase (a1A T).2.2 (bcase ((a1A T).2.1||decide (4294967295<(a1A T).1)) (0,6) ((a1A T).1,0)) (0,4)
def a6T (T:List UInt8):Value:=.tuple ⟨[.int .i64 (.ofNat (a4O T).1),.int .i64 (.ofNat (a4O T).2)]⟩
theorem dlt (a b):decide (Int.ofNat a<Int.ofNat b)=decide (a<b):=zn
theorem deq (a b):decide (Int.ofNat a=Int.ofNat b)=decide (a=b):=zo
theorem n81 (N call T)(hm:call 118 [.string ⟨⟨T⟩⟩]=M.pure (.ret (a8i T))):c6o o8 N call (.string ⟨⟨T⟩⟩) (.int .i64 (.ofNat 4294967295))=M.pure (.ret (a6T T)):=by have hlt:=b4O T;unfold a6T a4O;unfold a8i at hm;generalize a1A T=q at*;obtain⟨n,o,k⟩:=q;have e1:decide (Int.ofNat 4294967295<Int.ofNat 0)=false:=rfl;have e2:Q0 .u64 (Int.ofNat 4294967295)=Int.ofNat 4294967295:=rfl;cases k with|false=>simp(disch:=first|exact dy|fail)only[c6E,hm,O5,U0,V6,I8,A8,L8,K8,K9,a4U,X3,Y0,J9,G5,V.e8n,F6,G6,Q6,Q4,P7,P6,a0Q]|true=>cases o with|true=>simp(disch:=first|exact dy|fail)only[c6E,hm,uV,O5,U0,V6,I8,I7,D8,L8,K8,K9,a4U,X3,Y0,Q7,J9,G5,V.e8n,F6,G6,Q6,Q4,P7,P6,a0Q]|false=>cases h:decide (4294967295<n)with|true=>simp(disch:=first|exact dy|fail)only[c6E,hm,e1,e2,dlt,h,vE,O5,U0,V6,I8,I7,D8,A8,L8,K8,K9,a4U,X3,Y0,O9,J9,G5,V.e8n,F6,G6,M6,Q6,Q4,P7,P6,a0Q]|false=>have hn:n<=4294967295:=zn;have e3:Q0 .i64 (Int.ofNat n)=Int.ofNat n:=b5L n zy;simp(disch:=first|exact dy|fail)only[c6E,hm,e1,e2,e3,dlt,h,vE,O5,U0,V6,I8,I7,D8,A8,L8,K8,K9,a4U,X3,Y0,O9,J9,G5,V.e8n,F6,G6,M6,Q6,Q4,P7,P6,a0Q]
def c7k (T:List UInt8):Bool:=match T with|[]=>false|b::_=>decide (b.toNat=45)||decide (b.toNat=43)
def a9I (T:List UInt8):Bool:=match T with|[]=>false|b::_=>decide (b.toNat=45)
def a2B (T:List UInt8):List UInt8:=bcase (c7k T) (G7 T 1) T
def a8t (n:Nat):Nat:=(18446744073709551616-n)%18446744073709551616
def a1G (T:List UInt8)(gr:Nat):Nat×Nat:=bcase (a1A (a2B T)).2.2 (bcase ((a1A (a2B T)).2.1||bcase (a9I T) (decide (gr/2+1<(a1A (a2B T)).1)) (decide (gr<(a1A (a2B T)).1))) (0,6) (bcase (a9I T) (Nat.land (a8t (a1A (a2B T)).1) gr,0) ((a1A (a2B T)).1,0))) (0,4)
def b0J (T:List UInt8)(gr:Nat):Value:=.tuple ⟨[.int .u64 (.ofNat (a1G T gr).1),.int .i64 (.ofNat (a1G T gr).2)]⟩
theorem b9o (p n)(h:n<18446744073709551616):xUn p .neg (.int .u64 (.ofNat n))=M.pure (.int .u64 (.ofNat (a8t n))):=by
 have e:xUn p .neg (.int .u64 (.ofNat n))=M.pure (.int .u64 (IntKind.u64.wrap (0-(Int.ofNat n)))):=za;rw[e,IntKind.wrap_u64];have:(0-(Int.ofNat n))%18446744073709551616=Int.ofNat (a8t n):=by grind[a8t]
 rw[this]
theorem b1Z (p T t x y n m)(h1:n<18446744073709551616)(h2:m<18446744073709551616):a0L p T .and t x y (.int .u64 (.ofNat n)) (.int .u64 (.ofNat m))=M.pure (.int .u64 (.ofNat (Nat.land n m))):=b2K p T t x y .u64 n m rfl h1 h2
theorem d1a (n):a8t n<18446744073709551616:=Nat.mod_lt _ zu
theorem d6K (N call T)(hT:T.length<2000000)(hm:call 118 [.string ⟨⟨a2B T⟩⟩]=M.pure (.ret (a8i (a2B T)))):b4w o8 N call (.string ⟨⟨T⟩⟩) (.int .i64 (.ofNat 32))=M.pure (.ret (b0J T 4294967295)):=by
 have hlt:=b4O (a2B T);have hlenS:∀T:List UInt8,a7T (.string ⟨⟨T⟩⟩)=M.pure (.int .i64 (.ofNat T.length)):=λT=>a3W _;have f1:decide (Int.ofNat 32<Int.ofNat 1)=false:=rfl;have f2:decide (Int.ofNat 64<Int.ofNat 32)=false:=rfl;have f3:Q0 .i64 (Int.ofNat 64-Int.ofNat 32)=Int.ofNat 32:=rfl;have f4:(Int.ofNat 18446744073709551615).fdiv 4294967296=Int.ofNat 4294967295:=rfl;have f5:(Int.ofNat 4294967295).fdiv 2=Int.ofNat 2147483647:=rfl;have f6:Q0 .u64 (Int.ofNat 2147483647+Int.ofNat 1)=Int.ofNat 2147483648:=rfl;have f7:4294967295/2+1=2147483648:=rfl;unfold b0J a1G;unfold a8i at hm;cases T with
  |nil=>have u1:a2B []=[]:=rfl;have u2:a9I []=false:=rfl;have u3:beqBytes ([]:List UInt8) []=true:=rfl;have u4:decide (Int.ofNat 0<Int.ofNat ([]:List UInt8).length)=false:=rfl;rw[u1]at hm hlt⊢;rw[u2];generalize a1A []=q at*;obtain⟨n,o,k⟩:=q;cases k with|false=>simp(disch:=first|exact dy|fail)only[a1j,hm,u3,f1,f2,f3,f4,f5,f6,O5,U0,V6,I8,P5,M4,I7,D8,A8,L8,K8,K9,X3,Y0,R4,Q7,O9,Int.reducePow,J9,G5,V.e8n,F6,G6,M6,J6,S9,R8,Q6,O6,Q4,P7,P6,a1o,a0M]|true=>cases o with|true=>simp(disch:=first|exact dy|fail)only[a1j,hm,u3,f1,f2,f3,f4,f5,f6,uV,O5,U0,V6,I8,P5,M4,I7,D8,A8,L8,K8,K9,X3,Y0,R4,Q7,O9,Int.reducePow,J9,G5,V.e8n,F6,G6,M6,J6,S9,R8,Q6,O6,Q4,P7,P6,a1o,a0M]|false=>cases h:decide (4294967295<n)with|true=>simp(disch:=first|exact dy|fail)only[a1j,hm,u3,dlt,h,f1,f2,f3,f4,f5,f6,vE,O5,U0,V6,I8,P5,M4,I7,D8,A8,L8,K8,K9,X3,Y0,R4,Q7,O9,Int.reducePow,J9,G5,V.e8n,F6,G6,M6,J6,S9,R8,Q6,O6,Q4,P7,P6,a1o,a0M]|false=>simp(disch:=first|exact dy|fail)only[a1j,hm,u3,dlt,h,f1,f2,f3,f4,f5,f6,vE,O5,U0,V6,I8,P5,M4,I7,D8,A8,L8,K8,K9,X3,Y0,R4,Q7,O9,Int.reducePow,J9,G5,V.e8n,F6,G6,M6,J6,S9,R8,Q6,O6,Q4,P7,P6,a1o,a0M]
  |cons b l=>
   have i0:=a1L ⟨⟨b::l⟩⟩ 0 b rfl;have hlen1:1<=(b::l).length:=zq;have u3:beqBytes (b::l) []=false:=rfl;have u4:decide (Int.ofNat 0<Int.ofNat (b::l).length)=true:=by rw[dlt];rfl
   have u5:G7 (b::l) 1=l:=by rw[a7G,a0f]
   cases h45:decide (b.toNat=45)with
    |true=>
     have u1:a2B (b::l)=l:=by show bcase (decide (b.toNat=45)||_) _ _=_;rw[h45,u5];rfl
     have u2:a9I (b::l)=true:=h45;rw[u1]at hm hlt⊢;rw[u2];generalize a1A l=q at*;obtain⟨n,o,k⟩:=q;simp only at hlt hm;have hng:=d1a n;cases k with
      |false=>simp(disch:=first|exact dy|fail)only[a1j,hm,i0,u3,u5,deq,h45,a0P,f1,f2,f3,f4,f5,f6,O5,U0,V6,I8,a0q,P5,M4,I7,D8,A8,L8,K8,K9,X3,Y0,a1i,R4,Q7,O9,Int.reducePow,J9,G5,V.e8n,F6,R9,G6,M6,J6,S9,R8,Q6,O6,Q4,P7,P6,a1o,a0M,I9]|true=>
       cases o with
        |true=>simp(disch:=first|exact dy|fail)only[a1j,hm,i0,u3,u5,deq,h45,a0P,f1,f2,f3,f4,f5,f6,uV,O5,U0,V6,I8,a0q,P5,M4,I7,D8,A8,L8,K8,K9,X3,Y0,a1i,R4,Q7,O9,Int.reducePow,J9,G5,V.e8n,F6,R9,G6,M6,J6,S9,R8,Q6,O6,Q4,P7,P6,a1o,a0M,I9]|false=>
         cases h:decide (2147483648<n)with
          |true=>cases hg:decide (4294967295<n)with|true=>simp(disch:=first|exact dy|fail)only[a1j,hm,i0,u3,u5,deq,h45,a0P,dlt,h,f1,f2,f3,f4,f5,f6,vE,O5,U0,V6,I8,a0q,P5,M4,I7,D8,A8,L8,K8,K9,X3,Y0,a1i,R4,Q7,O9,Int.reducePow,J9,G5,V.e8n,F6,R9,G6,M6,J6,S9,R8,Q6,O6,Q4,P7,P6,a1o,a0M,I9]|false=>simp(disch:=first|exact dy|fail)only[a1j,hm,i0,u3,u5,deq,h45,a0P,dlt,h,f1,f2,f3,f4,f5,f6,vE,O5,U0,V6,I8,a0q,P5,M4,I7,D8,A8,L8,K8,K9,X3,Y0,a1i,R4,Q7,O9,Int.reducePow,J9,G5,V.e8n,F6,R9,G6,M6,J6,S9,R8,Q6,O6,Q4,P7,P6,a1o,a0M,I9]
          |false=>have hg:decide (4294967295<n)=false:=zo;simp(disch:=first|exact dy|fail)only[a1j,hm,i0,u3,u5,deq,h45,a0P,dlt,h,hg,b9o,b1Z,f1,f2,f3,f4,f5,f6,vE,O5,U0,V6,I8,a0q,P5,M4,I7,D8,A8,L8,K8,K9,X3,Y0,a1i,R4,Q7,O9,Int.reducePow,J9,G5,V.e8n,F6,R9,G6,M6,J6,S9,R8,Q6,O6,Q4,P7,P6,a1o,a0M,I9]
    |false=>
     have u2:a9I (b::l)=false:=h45;cases h43:decide (b.toNat=43)with
      |true=>have u1:a2B (b::l)=l:=xE;rw[u1]at hm hlt⊢;rw[u2];generalize a1A l=q at*;obtain⟨n,o,k⟩:=q;cases k with|false=>simp(disch:=first|exact dy|fail)only[a1j,hm,i0,u3,u5,deq,h45,h43,a0P,f1,f2,f3,f4,f5,f6,O5,U0,V6,I8,P5,M4,I7,D8,A8,L8,K8,K9,X3,Y0,a1i,R4,a2K,Q7,O9,Int.reducePow,J9,G5,V.e8n,F6,R9,G6,M6,J6,S9,R8,Q6,O6,Q4,P7,P6,a0M,a3Z,I9]|true=>cases o with|true=>simp(disch:=first|exact dy|fail)only[a1j,hm,i0,u3,u5,deq,h45,h43,a0P,f1,f2,f3,f4,f5,f6,uV,O5,U0,V6,I8,P5,M4,I7,D8,A8,L8,K8,K9,X3,Y0,a1i,R4,a2K,Q7,O9,Int.reducePow,J9,G5,V.e8n,F6,R9,G6,M6,J6,S9,R8,Q6,O6,Q4,P7,P6,a1o,a0M,a3Z,I9]|false=>cases h:decide (4294967295<n)with|true=>simp(disch:=first|exact dy|fail)only[a1j,hm,i0,u3,u5,deq,h45,h43,a0P,dlt,h,f1,f2,f3,f4,f5,f6,vE,O5,U0,V6,I8,P5,M4,I7,D8,A8,L8,K8,K9,X3,Y0,a1i,R4,a2K,Q7,O9,Int.reducePow,J9,G5,V.e8n,F6,R9,G6,M6,J6,S9,R8,Q6,O6,Q4,P7,P6,a1o,a0M,a3Z,I9]|false=>simp(disch:=first|exact dy|fail)only[a1j,hm,i0,u3,u5,deq,h45,h43,a0P,dlt,h,f1,f2,f3,f4,f5,f6,vE,O5,U0,V6,I8,P5,M4,I7,D8,A8,L8,K8,K9,X3,Y0,a1i,R4,a2K,Q7,O9,Int.reducePow,J9,G5,V.e8n,F6,R9,G6,M6,J6,S9,R8,Q6,O6,Q4,P7,P6,a1o,a0M,a3Z,I9]
      |false=>have u1:a2B (b::l)=b::l:=wz;rw[u1]at hm hlt⊢;rw[u2];generalize a1A (b::l)=q at*;obtain⟨n,o,k⟩:=q;cases k with|false=>simp(disch:=first|exact dy|fail)only[a1j,hm,i0,u3,deq,h45,h43,f1,f2,f3,f4,f5,f6,O5,U0,V6,I8,P5,M4,I7,D8,A8,L8,K8,K9,X3,Y0,a1i,R4,a2K,Q7,O9,Int.reducePow,J9,G5,V.e8n,F6,R9,G6,M6,J6,S9,R8,Q6,O6,Q4,P7,P6,a0M,a3Z]|true=>cases o with|true=>simp(disch:=first|exact dy|fail)only[a1j,hm,i0,u3,deq,h45,h43,f1,f2,f3,f4,f5,f6,uV,O5,U0,V6,I8,P5,M4,I7,D8,A8,L8,K8,K9,X3,Y0,a1i,R4,a2K,Q7,O9,Int.reducePow,J9,G5,V.e8n,F6,R9,G6,M6,J6,S9,R8,Q6,O6,Q4,P7,P6,a1o,a0M,a3Z]|false=>cases h:decide (4294967295<n)with|true=>simp(disch:=first|exact dy|fail)only[a1j,hm,i0,u3,deq,h45,h43,dlt,h,f1,f2,f3,f4,f5,f6,vE,O5,U0,V6,I8,P5,M4,I7,D8,A8,L8,K8,K9,X3,Y0,a1i,R4,a2K,Q7,O9,Int.reducePow,J9,G5,V.e8n,F6,R9,G6,M6,J6,S9,R8,Q6,O6,Q4,P7,P6,a1o,a0M,a3Z]|false=>simp(disch:=first|exact dy|fail)only[a1j,hm,i0,u3,deq,h45,h43,dlt,h,f1,f2,f3,f4,f5,f6,vE,O5,U0,V6,I8,P5,M4,I7,D8,A8,L8,K8,K9,X3,Y0,a1i,R4,a2K,Q7,O9,Int.reducePow,J9,G5,V.e8n,F6,R9,G6,M6,J6,S9,R8,Q6,O6,Q4,P7,P6,a1o,a0M,a3Z]
theorem d7I (N call T)(hT:T.length<2000000)(hm:call 118 [.string ⟨⟨a2B T⟩⟩]=M.pure (.ret (a8i (a2B T)))):b4w o8 N call (.string ⟨⟨T⟩⟩) (.int .i64 (.ofNat 64))=M.pure (.ret (b0J T 18446744073709551615)):=by
 have hlt:=b4O (a2B T);have hlenS:∀T:List UInt8,a7T (.string ⟨⟨T⟩⟩)=M.pure (.int .i64 (.ofNat T.length)):=λT=>a3W _;have f1:decide (Int.ofNat 64<Int.ofNat 1)=false:=rfl;have f2:decide (Int.ofNat 64<Int.ofNat 64)=false:=rfl;have f3:Q0 .i64 (Int.ofNat 64-Int.ofNat 64)=Int.ofNat 0:=rfl;have f4:(Int.ofNat 18446744073709551615).fdiv 1=Int.ofNat 18446744073709551615:=rfl;have f5:(Int.ofNat 18446744073709551615).fdiv 2=Int.ofNat 9223372036854775807:=rfl;have f6:Q0 .u64 (Int.ofNat 9223372036854775807+Int.ofNat 1)=Int.ofNat 9223372036854775808:=rfl;have f7:18446744073709551615/2+1=9223372036854775808:=rfl;unfold b0J a1G;unfold a8i at hm;cases T with
  |nil=>have u1:a2B []=[]:=rfl;have u2:a9I []=false:=rfl;have u3:beqBytes ([]:List UInt8) []=true:=rfl;have u4:decide (Int.ofNat 0<Int.ofNat ([]:List UInt8).length)=false:=rfl;rw[u1]at hm hlt⊢;rw[u2];generalize a1A []=q at*;obtain⟨n,o,k⟩:=q;cases k with|false=>simp(disch:=first|exact dy|fail)only[a1j,hm,u3,f1,f2,f3,f4,f5,f6,O5,U0,V6,I8,P5,M4,I7,D8,A8,L8,K8,K9,X3,Y0,R4,Q7,O9,Int.reducePow,J9,G5,V.e8n,F6,G6,M6,J6,S9,R8,Q6,O6,Q4,P7,P6,a1o,a0M]|true=>cases o with|true=>simp(disch:=first|exact dy|fail)only[a1j,hm,u3,f1,f2,f3,f4,f5,f6,uV,O5,U0,V6,I8,P5,M4,I7,D8,A8,L8,K8,K9,X3,Y0,R4,Q7,O9,Int.reducePow,J9,G5,V.e8n,F6,G6,M6,J6,S9,R8,Q6,O6,Q4,P7,P6,a1o,a0M]|false=>cases h:decide (18446744073709551615<n)with|true=>grind|false=>simp(disch:=first|exact dy|fail)only[a1j,hm,u3,dlt,h,f1,f2,f3,f4,f5,f6,vE,O5,U0,V6,I8,P5,M4,I7,D8,A8,L8,K8,K9,X3,Y0,R4,Q7,O9,Int.reducePow,J9,G5,V.e8n,F6,G6,M6,J6,S9,R8,Q6,O6,Q4,P7,P6,a1o,a0M]
  |cons b l=>
   have i0:=a1L ⟨⟨b::l⟩⟩ 0 b rfl;have hlen1:1<=(b::l).length:=zq;have u3:beqBytes (b::l) []=false:=rfl;have u4:decide (Int.ofNat 0<Int.ofNat (b::l).length)=true:=by rw[dlt];rfl
   have u5:G7 (b::l) 1=l:=by rw[a7G,a0f]
   cases h45:decide (b.toNat=45)with
    |true=>
     have u1:a2B (b::l)=l:=by show bcase (decide (b.toNat=45)||_) _ _=_;rw[h45,u5];rfl
     have u2:a9I (b::l)=true:=h45;rw[u1]at hm hlt⊢;rw[u2];generalize a1A l=q at*;obtain⟨n,o,k⟩:=q;simp only at hlt hm;have hng:=d1a n;cases k with
      |false=>simp(disch:=first|exact dy|fail)only[a1j,hm,i0,u3,u5,deq,h45,a0P,f1,f2,f3,f4,f5,f6,O5,U0,V6,I8,a0q,P5,M4,I7,D8,A8,L8,K8,K9,X3,Y0,a1i,R4,Q7,O9,Int.reducePow,J9,G5,V.e8n,F6,R9,G6,M6,J6,S9,R8,Q6,O6,Q4,P7,P6,a1o,a0M,I9]|true=>
       cases o with
        |true=>simp(disch:=first|exact dy|fail)only[a1j,hm,i0,u3,u5,deq,h45,a0P,f1,f2,f3,f4,f5,f6,uV,O5,U0,V6,I8,a0q,P5,M4,I7,D8,A8,L8,K8,K9,X3,Y0,a1i,R4,Q7,O9,Int.reducePow,J9,G5,V.e8n,F6,R9,G6,M6,J6,S9,R8,Q6,O6,Q4,P7,P6,a1o,a0M,I9]|false=>
         cases h:decide (9223372036854775808<n)with
          |true=>cases hg:decide (18446744073709551615<n)with|true=>grind|false=>simp(disch:=first|exact dy|fail)only[a1j,hm,i0,u3,u5,deq,h45,a0P,dlt,h,f1,f2,f3,f4,f5,f6,vE,O5,U0,V6,I8,a0q,P5,M4,I7,D8,A8,L8,K8,K9,X3,Y0,a1i,R4,Q7,O9,Int.reducePow,J9,G5,V.e8n,F6,R9,G6,M6,J6,S9,R8,Q6,O6,Q4,P7,P6,a1o,a0M,I9]
          |false=>have hg:decide (18446744073709551615<n)=false:=zo;simp(disch:=first|exact dy|fail)only[a1j,hm,i0,u3,u5,deq,h45,a0P,dlt,h,hg,b9o,b1Z,f1,f2,f3,f4,f5,f6,vE,O5,U0,V6,I8,a0q,P5,M4,I7,D8,A8,L8,K8,K9,X3,Y0,a1i,R4,Q7,O9,Int.reducePow,J9,G5,V.e8n,F6,R9,G6,M6,J6,S9,R8,Q6,O6,Q4,P7,P6,a1o,a0M,I9]
    |false=>
     have u2:a9I (b::l)=false:=h45;cases h43:decide (b.toNat=43)with
      |true=>have u1:a2B (b::l)=l:=xE;rw[u1]at hm hlt⊢;rw[u2];generalize a1A l=q at*;obtain⟨n,o,k⟩:=q;cases k with|false=>simp(disch:=first|exact dy|fail)only[a1j,hm,i0,u3,u5,deq,h45,h43,a0P,f1,f2,f3,f4,f5,f6,O5,U0,V6,I8,P5,M4,I7,D8,A8,L8,K8,K9,X3,Y0,a1i,R4,a2K,Q7,O9,Int.reducePow,J9,G5,V.e8n,F6,R9,G6,M6,J6,S9,R8,Q6,O6,Q4,P7,P6,a0M,a3Z,I9]|true=>cases o with|true=>simp(disch:=first|exact dy|fail)only[a1j,hm,i0,u3,u5,deq,h45,h43,a0P,f1,f2,f3,f4,f5,f6,uV,O5,U0,V6,I8,P5,M4,I7,D8,A8,L8,K8,K9,X3,Y0,a1i,R4,a2K,Q7,O9,Int.reducePow,J9,G5,V.e8n,F6,R9,G6,M6,J6,S9,R8,Q6,O6,Q4,P7,P6,a1o,a0M,a3Z,I9]|false=>cases h:decide (18446744073709551615<n)with|true=>grind|false=>simp(disch:=first|exact dy|fail)only[a1j,hm,i0,u3,u5,deq,h45,h43,a0P,dlt,h,f1,f2,f3,f4,f5,f6,vE,O5,U0,V6,I8,P5,M4,I7,D8,A8,L8,K8,K9,X3,Y0,a1i,R4,a2K,Q7,O9,Int.reducePow,J9,G5,V.e8n,F6,R9,G6,M6,J6,S9,R8,Q6,O6,Q4,P7,P6,a1o,a0M,a3Z,I9]
      |false=>have u1:a2B (b::l)=b::l:=wz;rw[u1]at hm hlt⊢;rw[u2];generalize a1A (b::l)=q at*;obtain⟨n,o,k⟩:=q;cases k with|false=>simp(disch:=first|exact dy|fail)only[a1j,hm,i0,u3,deq,h45,h43,f1,f2,f3,f4,f5,f6,O5,U0,V6,I8,P5,M4,I7,D8,A8,L8,K8,K9,X3,Y0,a1i,R4,a2K,Q7,O9,Int.reducePow,J9,G5,V.e8n,F6,R9,G6,M6,J6,S9,R8,Q6,O6,Q4,P7,P6,a0M,a3Z]|true=>cases o with|true=>simp(disch:=first|exact dy|fail)only[a1j,hm,i0,u3,deq,h45,h43,f1,f2,f3,f4,f5,f6,uV,O5,U0,V6,I8,P5,M4,I7,D8,A8,L8,K8,K9,X3,Y0,a1i,R4,a2K,Q7,O9,Int.reducePow,J9,G5,V.e8n,F6,R9,G6,M6,J6,S9,R8,Q6,O6,Q4,P7,P6,a1o,a0M,a3Z]|false=>cases h:decide (18446744073709551615<n)with|true=>grind|false=>simp(disch:=first|exact dy|fail)only[a1j,hm,i0,u3,deq,h45,h43,dlt,h,f1,f2,f3,f4,f5,f6,vE,O5,U0,V6,I8,P5,M4,I7,D8,A8,L8,K8,K9,X3,Y0,a1i,R4,a2K,Q7,O9,Int.reducePow,J9,G5,V.e8n,F6,R9,G6,M6,J6,S9,R8,Q6,O6,Q4,P7,P6,a1o,a0M,a3Z]
def sgN (z:Nat):Bool:=Nat.ble 33 z&&Nat.ble z 126&& !(Nat.beq z 40||Nat.beq z 41||Nat.beq z 34||Nat.beq z 59||Nat.beq z 44)
def c1y (r:Option (CR×S))(m:Int):Bool:=match r with
 |some x=>match x.1 with
  |.ret v=>match v with
   |.int k n=>a0A k .i64&&(match n with
    |.ofNat j=>match m with|.ofNat i=>Nat.beq j i|.negSucc _=>false
    |.negSucc j=>match m with|.ofNat _=>false|.negSucc i=>Nat.beq j i)|_=>false
  |.pan _=>false
 |none=>false
theorem c7x {r m}(h:c1y r m=true):∃s,r=some (.ret (.int .i64 m),s):=by unfold c1y at h;split at h;rename_i x;split at h;rename_i v hv;split at h;rename_i k n;rw[wI]at h;obtain⟨y,s⟩:=x;obtain rfl:y=_:=hv;obtain rfl:=a4D h.1;have h2:=h.2;split at h2;split at h2;simp_all;cases h2;split at h2;cases h2;simp_all;cases h;cases h;cases h
def b6d (r:Option (CR×S))(m:Bool):Bool:=match r with
 |some x=>match x.1 with
  |.ret v=>match v with|.bool b=>b==m|_=>false
  |.pan _=>false
 |none=>false
theorem b7I {r m}(h:b6d r m=true):∃s,r=some (.ret (.bool m),s):=by unfold b6d at h;grind
def upN (n:Nat):List Nat:=List.range n
def a5p (q:Nat->Value)(z:Int):Option Value:=match z with|.ofNat m=>bcase (Nat.blt m 256) (some (q m)) none|.negSucc _=>none
theorem b3t {q z v}(h:a5p q z=some v):∃m,m<256/\z=.ofNat m/\v=q m:=by
 unfold a5p at h;split at h;rename_i m;cases hb:Nat.blt m 256 with|true=>rw[hb]at h;cases h;exact⟨m,by simpa using hb,rfl,rfl⟩|false=>rw[hb]at h;cases h
 cases h
theorem b5l (q)(b:UInt8):a5p q (.ofNat b.toNat)=some (q b.toNat):=by
 have h:Nat.blt b.toNat 256=true:=by have:=b.toNat_lt;simp_all
 show bcase (Nat.blt b.toNat 256) _ _=_;rw[h];rfl
def qDg (m:Nat):Value:=.int .i64 (dgI m)
def qSg (m:Nat):Value:=.bool (sgN m)
theorem e1G (mL):J7 (λz=>c1y (o9 a7m 5 162 [.int .u8 (.ofNat z)] (Go.V.a3p (I5 mL))) (dgI z)) (upN 256)=true:=zw
theorem e1D:K3 Tryz.prog tab (I5 mL) 162 (X1 .u8 (a5p qDg)):=a8K λz v h=>by obtain⟨m,hm,rfl,rfl⟩:=b3t h;obtain⟨s,hr⟩:=c7x ((M5 _ _).1 (e1G mL) m (uH.2 hm));exact⟨rfl,a5D V7 M9 a6G a3e a5M b2H Tryz.func162 zw rfl rfl rfl hr⟩
theorem e0P (mL):J7 (λz=>b6d (o9 a7m 5 137 [.int .u8 (.ofNat z)] (Go.V.a3p (I5 mL))) (sgN z)) (upN 256)=true:=zw
theorem d8K:K3 Tryz.prog tab (I5 mL) 137 (X1 .u8 (a5p qSg)):=a8K λz v h=>by obtain⟨m,hm,rfl,rfl⟩:=b3t h;obtain⟨s,hr⟩:=b7I ((M5 _ _).1 (e0P mL) m (uH.2 hm));exact⟨rfl,a5D V7 M9 a6G a3e a5M b2H Tryz.func137 zw rfl rfl rfl hr⟩
theorem e0V (mL):J7 (λz=>b6d (o9 a7m 5 136 [.int .u8 (.ofNat z)] (Go.V.a3p (I5 mL))) (sgN z)) (upN 256)=true:=zw
theorem e0S:K3 Tryz.prog tab (I5 mL) 136 (X1 .u8 (a5p qSg)):=a8K λz v h=>by obtain⟨m,hm,rfl,rfl⟩:=b3t h;obtain⟨s,hr⟩:=b7I ((M5 _ _).1 (e0V mL) m (uH.2 hm));exact⟨rfl,a5D V7 M9 a6G a3e a5M b2H Tryz.func136 zw rfl rfl rfl hr⟩
def a6Q (l:List UInt8):Bool:=J7 (λb=>sgN b.toNat) l
def a0n (T:List UInt8):Bool:=match T with|[]=>false|b::l=>match l with|[]=>false|_::_=>decide (b.toNat=36)&&a6Q l
theorem f0o (N0 call)(hs:∀b:UInt8,call 137 [.int .u8 (.ofNat b.toNat)]=M.pure (.ret (.bool (sgN b.toNat))))(T)(hT:T.length<2000000):∀(l) (i N) (g0 g1 g2 g3 g4 g5 g6 g7 g8 g9),T.drop i=l->l.length<N->∃x,R7 (c9M o8 N0 call (.int .i64 (.ofNat T.length)) (.string ⟨⟨T⟩⟩)) N [g0,g1,g2,g3,g4,g5,g6,g7,g8,g9,.int .i64 (.ofNat i)]=M.pure x/\bcase (a6Q l) (x.1=.exit 0) (x.1=.ret/\D5 x.2 8=.bool false):=by have hlenS:a7T (.string ⟨⟨T⟩⟩)=M.pure (.int .i64 (.ofNat T.length)):=a3W _;intro l;induction l with|nil=>intro i N g0 g1 g2 g3 g4 g5 g6 g7 g8 g9 hd hN;obtain⟨N,rfl⟩:∃m,N=m+1:=⟨N-1,zy⟩;have hi:¬i<T.length:=wm;have h1:=b5X i T.length hi;rw[Z5];simp(disch:=first|exact dy|fail)only[b4E,h1,O5,V6,A8,X3,Y0,J9,a1s,V.e8n,G6,J6];exact⟨_,rfl,rfl⟩|cons b l ih=>intro i N g0 g1 g2 g3 g4 g5 g6 g7 g8 g9 hd hN;obtain⟨N,rfl⟩:∃m,N=m+1:=⟨N-1,zy⟩;obtain⟨hb,hd',hi⟩:=b8p hd;have h1:=b8F i T.length hi;have hbT:(⟨⟨T⟩⟩:ByteArray).data.toList[i]?=some b:=hb;have h2:=a1L ⟨⟨T⟩⟩ i b hbT;have hsi:=c1U i zy;have hlen:l.length<N:=zn;have hsg:=hs b;have ha:a6Q (b::l)=(sgN b.toNat&&a6Q l):=U5 _ _ _;rw[ha];cases hq:sgN b.toNat with|true=>rw[hq]at hsg;rw[Z5,a8D];simp(disch:=first|exact dy|fail)only[b4E,h1,h2,hsi,hsg,a1o,O5,V6,I8,D8,A8,X3,Y0,J9,G5,V.e8n,G6,J6,Q6];exact ih (i+1) N _ _ _ _ _ _ _ _ _ _ hd' hlen|false=>rw[hq]at hsg;rw[Z5,uR];simp(disch:=first|exact dy|fail)only[b4E,h1,h2,hsi,hsg,a0M,O5,V6,I8,D8,A8,X3,Y0,J9,a2l,V.e8n,G6,J6,Q6];exact⟨_,rfl,rfl,rfl⟩
theorem f0k (N call)(hs:∀b:UInt8,call 137 [.int .u8 (.ofNat b.toNat)]=M.pure (.ret (.bool (sgN b.toNat))))(T)(hT:T.length<N)(hT2:T.length<2000000):c0x o8 N call (.string ⟨⟨T⟩⟩)=M.pure (.ret (.bool (a0n T))):=by
 have hlenS:∀T:List UInt8,a7T (.string ⟨⟨T⟩⟩)=M.pure (.int .i64 (.ofNat T.length)):=λT=>a3W _;have dlt2:∀a b:Nat,decide (Int.ofNat a<Int.ofNat b)=decide (a<b):=λa b=>zn;have deq2:∀a b:Nat,decide (Int.ofNat a=Int.ofNat b)=decide (a=b):=λa b=>zo;match T,hT,hT2 with
  |[],hT,hT2=>have h1:decide (([]:List UInt8).length<2)=true:=rfl;rfl|[b],hT,hT2=>have h1:decide (([b]:List UInt8).length<2)=true:=rfl;rfl|b::c::l,hT,hT2=>
   have h1:decide ((b::c::l).length<2)=false:=wL zq;have i0:=a1L ⟨⟨b::c::l⟩⟩ 0 b rfl;have hn:a0n (b::c::l)=(decide (b.toNat=36)&&a6Q (c::l)):=rfl;rw[hn];cases h36:decide (b.toNat=36)with
    |false=>simp(disch:=first|exact dy|fail)only[d5F,hlenS,dlt2,deq2,h1,h36,i0,O5,U0,a6s,I7,D8,L8,K8,K9,X3,Y0,O9,J9,G5,V.e8n,a4G,G6,a0M,uR]|true=>
     simp(disch:=first|exact dy|fail)only[d5F,hlenS,dlt2,deq2,h1,h36,i0,O5,U0,a6s,I7,D8,A8,L8,K8,K9,X3,Y0,O9,J9,G5,V.e8n,a4G,G6,a1o,a0M,a8D];obtain⟨x,hx,hm⟩:=f0o N call hs (b::c::l) hT2 (b::c::l) 0 N _ _ _ _ _ _ _ _ _ _ rfl hT;rw[hx,V.e8n];have h36':b.toNat=36:=vS h36;have hsb:a6Q (b::c::l)=a6Q (c::l):=by show J7 _ _=_;rw[U5,h36'];rfl
     rw[hsb]at hm;cases ha:a6Q (c::l)with|true=>rw[ha]at hm;have hm:x.1=.exit 0:=hm;grind[a1s,P9,D8]|false=>rw[ha]at hm;obtain⟨q1,q2⟩:=(hm:x.1=.ret/\D5 x.2 8=.bool false);grind[a2l]
end Go.Proofs.YtmomonnlmbljoaaGreatDoor
section
namespace Go.Proofs
open Go.Shelf
def Tryz.lMul64_ren:Go.Shelf.Ren:=⟨λ|264=>130|n=>n,λ|53=>23|46=>145|n=>n,λ|n=>n⟩
theorem Tryz.lMul64:Go.Proofs.Lays.n264 Tryz.prog Tryz.lMul64_ren:={
 mixed:=zw
 f264:=Tryz.func130.trans (vw some zw)
 t46:=sU
 a46:=qx
 z46:=rJ
 v46:=sN
 t53:=sM
 a53:=oC
 z53:=oP
 v53:=qH }
end Go.Proofs
end
namespace Go.Proofs.YtmomonnlmbljoaaGreatDoor
open Go.V Go.RowKit Go.Shelf Go.Proofs
variable {mL:Int}
theorem c5X {bs v}(h:b1s bs=some v):∃x y,bs=[.int .u64 (.ofNat x),.int .u64 (.ofNat y)]/\x<18446744073709551616/\y<18446744073709551616/\v=.tuple ⟨[.int .u64 (.ofNat (x*y/18446744073709551616)),.int .u64 (.ofNat (x*y%18446744073709551616))]⟩:=by
 unfold b1s at h;split at h;rename_i x y;cases hb:Nat.blt x 18446744073709551616&&Nat.blt y 18446744073709551616 with|true=>rw[hb]at h;cases h;rw[wI]at hb;exact⟨x,y,rfl,by simpa using hb.1,by simpa using hb.2,rfl⟩|false=>rw[hb]at h;cases h
 cases h
theorem d9V:K3 Tryz.prog tab (I5 mL) 130 (λbs=>M.lift (b1s bs)):=a4j λbs v h=>by obtain⟨x,y,rfl,hx,hy,rfl⟩:=c5X h;refine⟨rfl,rfl,λw hL=>⟨V5 Tryz.func130 zw rfl,?_⟩⟩;refine(Any.bits_Mul64 Tryz.lMul64 x y hx hy w).mono λe w' hq=>?_;obtain⟨rfl,rfl⟩:=hq;exact⟨rfl,rZ _ _⟩
def a0u (T P:List UInt8):Bool:=decide (P.length<=T.length)&&beqBytes (a0B T P.length) P
theorem dle (a b):decide (Int.ofNat a<=Int.ofNat b)=decide (a<=b):=by by_cases q:a<=b;rw[wJ q];simp only[vF,vB];omega;rw[wL q];simp only[uz,vB];omega
theorem e9i (N call T P):c0O o8 N call (.string ⟨⟨T⟩⟩) (.string ⟨⟨P⟩⟩)=M.pure (.ret (.bool (a0u T P))):=by have hlenS:∀T:List UInt8,a7T (.string ⟨⟨T⟩⟩)=M.pure (.int .i64 (.ofNat T.length)):=λT=>a3W _;unfold a0u;cases h:decide (P.length<=T.length)with|false=>simp(disch:=first|exact dy|fail)only[d5S,hlenS,dle,h,O5,U0,M4,A8,O9,G5,V.e8n,a1C,uR]|true=>have hl:P.length<=T.length:=vS h;simp(disch:=first|exact dy|fail)only[d5S,hlenS,dle,h,c1S,O5,U0,M4,D8,L8,K8,K9,X3,Y0,Q7,G5,V.e8n,a1C,a7P,a8D]
def onS (q:List UInt8->Value)(bs:List Value):Option Value:=match bs with|[.string s]=>bcase (Nat.blt (z8 s.data.toList) 1800000) (some (q s.data.toList)) none|_=>none
def XS (q:List UInt8->Value):List Value->M Value:=λbs=>M.lift (onS q bs)
theorem c4s {q bs v}(h:onS q bs=some v):∃T,bs=[.string ⟨⟨T⟩⟩]/\T.length<1800000/\v=q T:=by
 unfold onS at h;split at h;rename_i s;cases hb:Nat.blt (z8 s.data.toList) 1800000 with|true=>rw[hb]at h;cases h;exact⟨s.data.toList,rfl,by rw[G8]at hb;simpa using hb,rfl⟩|false=>rw[hb]at h;cases h
 cases h
theorem b6l (q T)(h:T.length<1800000):onS q [.string ⟨⟨T⟩⟩]=some (q T):=by
 have hb:Nat.blt (z8 T) 1800000=true:=by rw[G8];exact I1 h
 show bcase (Nat.blt (z8 T) 1800000) _ _=_;rw[hb];rfl
def b2L (k:Nat)(q:List UInt8->Value)(bs:List Value):Option Value:=match bs with|[.string s,.int .i64 (.ofNat m)]=>bcase (Nat.blt (z8 s.data.toList) 1800000&&Nat.beq m k) (some (q s.data.toList)) none|_=>none
def XSI (k:Nat)(q:List UInt8->Value):List Value->M Value:=λbs=>M.lift (b2L k q bs)
theorem b5B {k q bs v}(h:b2L k q bs=some v):∃T,bs=[.string ⟨⟨T⟩⟩,.int .i64 (.ofNat k)]/\T.length<1800000/\v=q T:=by
 unfold b2L at h;split at h;rename_i s m;cases hb:Nat.blt (z8 s.data.toList) 1800000&&Nat.beq m k with|true=>rw[hb]at h;cases h;rw[wI]at hb;obtain rfl:=wK hb.2;exact⟨s.data.toList,rfl,by have:=hb.1;rw[G8]at this;simpa using this,rfl⟩|false=>rw[hb]at h;cases h
 cases h
theorem b4D (k q T)(h:T.length<1800000):b2L k q [.string ⟨⟨T⟩⟩,.int .i64 (.ofNat k)]=some (q T):=by
 have hb:(Nat.blt (z8 T) 1800000&&Nat.beq k k)=true:=by rw[G8,I1 h,P9];rfl
 show bcase (Nat.blt (z8 T) 1800000&&Nat.beq k k) _ _=_;rw[hb];rfl
def orX (q1 q2:List Value->Option Value)(bs:List Value):Option Value:=match q1 bs with|some v=>some v|none=>q2 bs
theorem a1a.pureE {m:M CR}{v}(h:m=M.pure (.ret v)):∀c hh r w,l9 (go m ⟨c,hh,r,w⟩) λx s2=>x=.ret v/\∀i,i<c->s2.h.get i=hh.get i:=a1a.pure h
def pe1:Nat->Option (List Value->M Value):=(M7 (M7 (M7 (M7 a6Y 162 (X1 .u8 (a5p qDg))) 137 (X1 .u8 (a5p qSg))) 136 (X1 .u8 (a5p qSg))) 130 (λbs=>M.lift (b1s bs)))
def ps1:a2x:=(U7 (U7 (U7 (U7 a7m 162 (X1 .u8 (a5p qDg))) 137 (X1 .u8 (a5p qSg))) 136 (X1 .u8 (a5p qSg))) 130 (λbs=>M.lift (b1s bs)))
theorem pL1:Shelf' Tryz.prog tab (I5 mL) NN pe1 ps1:=((((((⟨a5M,b2H⟩:Shelf' Tryz.prog tab (I5 mL) NN a6Y a7m).add e1D)).add d8K)).add e0S).add d9V
theorem d7T (n):MagC (o9 ps1 (n+1)) where
 dg b:=a1h (q:=a5p qDg) zw n (b5l qDg b)
 mul x y hx hy:=by
  have h1:Nat.blt x 18446744073709551616=true:=I1 hx
  have h2:Nat.blt y 18446744073709551616=true:=I1 hy
  refine V9 ps1 n 130 _ (g:=b1s) zw ?_
  show bcase (Nat.blt x 18446744073709551616 && Nat.blt y 18446744073709551616) _ _=_
  rw [h1,h2]; rfl
 add x y:=V9 ps1 n 163 _ (g:=b3v) zw rfl
theorem e3H:K3 Tryz.prog tab (I5 mL) 118 (XS a8i):=a2c V7 M9 (pL1 (mL:=mL)).e (pL1 (mL:=mL)).s Tryz.func118 zw rfl λbs v h=>by obtain⟨T,rfl,hT,rfl⟩:=c4s h;refine⟨rfl,λc hh r w=>⟨2,a1a.pureE ?_ c hh r w⟩⟩;rw[Y7 (q:=c0F) (N:=NN) zw 1];exact e8D NN _ (d7T 0) T (sG hT zu) (sG hT zu)
theorem e0U:K3 Tryz.prog tab (I5 mL) 107 (XS λT=>.bool (a0n T)):=a2c V7 M9 (pL1 (mL:=mL)).e (pL1 (mL:=mL)).s Tryz.func107 zw rfl λbs v h=>by obtain⟨T,rfl,hT,rfl⟩:=c4s h;refine⟨rfl,λc hh r w=>⟨2,a1a.pureE ?_ c hh r w⟩⟩;rw[Y7 (q:=c0x) (N:=NN) zw 1];exact f0k NN _ (λb=>a1h (q:=a5p qSg) zw 0 (b5l qSg b)) T (sG hT zu) (sG hT zu)
def pe2:Nat->Option (List Value->M Value):=(M7 (M7 pe1 118 (XS a8i)) 107 (XS λT=>.bool (a0n T)))
def ps2:a2x:=(U7 (U7 ps1 118 (XS a8i)) 107 (XS λT=>.bool (a0n T)))
theorem pL2:Shelf' Tryz.prog tab (I5 mL) NN pe2 ps2:=(((pL1.add e3H)).add e0U)
theorem e4v:K3 Tryz.prog tab (I5 mL) 81 (XSI 4294967295 a6T):=a2c V7 M9 (pL2 (mL:=mL)).e (pL2 (mL:=mL)).s Tryz.func81 zw rfl λbs v h=>by obtain⟨T,rfl,hT,rfl⟩:=b5B h;refine⟨rfl,λc hh r w=>⟨2,a1a.pureE ?_ c hh r w⟩⟩;rw[a1H (q:=c6o) (N:=NN) zw 1];exact n81 NN _ T (V9 ps2 0 118 _ (g:=onS a8i) zw (b6l _ _ hT))
theorem c3p (T):(a2B T).length<=T.length:=by unfold a2B;cases c7k T with|true=>show(G7 T 1).length<=_;rw[a0z,uw];omega|false=>exact wP _
def b0r (bs:List Value):Option Value:=orX (b2L 32 λT=>b0J T 4294967295) (b2L 64 λT=>b0J T 18446744073709551615) bs
theorem d2y {bs v}(h:b0r bs=some v):∃T,T.length<1800000/\((bs=[.string ⟨⟨T⟩⟩,.int .i64 (.ofNat 32)]/\v=b0J T 4294967295)\/(bs=[.string ⟨⟨T⟩⟩,.int .i64 (.ofNat 64)]/\v=b0J T 18446744073709551615)):=by unfold b0r orX at h;split at h;rename_i u hu;obtain⟨T,e1,e2,e3⟩:=b5B hu;cases h;exact⟨T,e2,Or.inl ⟨e1,e3⟩⟩;obtain⟨T,e1,e2,e3⟩:=b5B h;exact⟨T,e2,Or.inr ⟨e1,e3⟩⟩
theorem d7Z (T)(h:T.length<1800000):b0r [.string ⟨⟨T⟩⟩,.int .i64 (.ofNat 32)]=some (b0J T 4294967295):=by unfold b0r orX;rw[b4D 32 _ T h]
theorem d7l (T)(h:T.length<1800000):b0r [.string ⟨⟨T⟩⟩,.int .i64 (.ofNat 64)]=some (b0J T 18446744073709551615):=by
 unfold b0r orX;have e:b2L 32 (λT=>b0J T 4294967295) [.string ⟨⟨T⟩⟩,.int .i64 (.ofNat 64)]=none:=by show bcase (Nat.blt (z8 T) 1800000&&Nat.beq 64 32) _ _=_;rw[show Nat.beq 64 32=false from rfl,uJ];rfl
 rw[e,b4D 64 _ T h]
theorem e1H:K3 Tryz.prog tab (I5 mL) 186 (λbs=>M.lift (b0r bs)):=a2c V7 M9 (pL2 (mL:=mL)).e (pL2 (mL:=mL)).s Tryz.func186 zw rfl λbs v h=>by obtain⟨T,hT,⟨rfl,rfl⟩|⟨rfl,rfl⟩⟩:=d2y h;refine⟨rfl,λc hh r w=>⟨2,a1a.pureE ?_ c hh r w⟩⟩;rw[a1H (q:=b4w) (N:=NN) zw 1];exact d6K NN _ T (sG hT zu) (V9 ps2 0 118 _ (g:=onS a8i) zw (b6l _ _ (uF (c3p T) hT)));refine⟨rfl,λc hh r w=>⟨2,a1a.pureE ?_ c hh r w⟩⟩;rw[a1H (q:=b4w) (N:=NN) zw 1];exact d7I NN _ T (sG hT zu) (V9 ps2 0 118 _ (g:=onS a8i) zw (b6l _ _ (uF (c3p T) hT)))
abbrev F79:=@e1z
abbrev F80:=@e8I
abbrev c2h:=@e4i
abbrev c3i:=@c5h
abbrev c0Y:=@e3L
abbrev d3x:=@e7l
abbrev d2w:=@d6h
abbrev c2J:=@e7U
abbrev F32:=mr @f0C<| @I9
abbrev L32:=@d0Q
abbrev bY:=mr @O5<|mr @U0<|mr @V6<|mr @a6s<|mr @J8<|mr @J5<|mr @b1S<|mr @Z8<|mr @b8t<|mr @b0d<|mr @I8<|mr @a2z<|mr @a5G<|mr @a0q<|mr @a3G<|mr @a1n<|mr @P5<|mr @b0X<|mr @b7K<|mr @c1e<|mr @a4M<|mr @a5e<|mr @M4<|mr @I7<|mr @D8<|mr @A8<|mr @L8<|mr @K8<|mr @K9<|mr @a4U<|mr @X3<|mr @Y0<|mr @a1i<|mr @R4<|mr @a2K<|mr @c7G<|mr @c7J<|mr @c7X<|mr @b5N<|mr @b5C<|mr @b5s<|mr @b0F<|mr @Q7<|mr @O9<|mr @b3z<|mr @a8d<|mr @a2s<|mr @b0g<|mr @J9<|mr @G5<|mr @a1s<|mr @a2l<|mr @V.e8n<|mr @F6<|mr @P8<|mr @b3m<|mr @a7R<|mr @b1q<|mr @c2G<|mr @a8U<|mr @R9<|mr @a4G<|mr @G6<|mr @a5o<|mr @M6<|mr @a1C<|mr @J6<|mr @S9<|mr @b5S<|mr @b5I<|mr @b2K<|mr @a7u<|mr @R8<|mr @Q6<|mr @a7P<|mr @O6<|mr @a2j<|mr @a5E<|mr @b5z<|mr @Q8<|mr @c1Q<|mr @c1E<|mr @Q4<|mr @P7<|mr @P6<|mr @b1V<|mr @a0Q<|mr @a1x<|mr @a3W<|mr @a1L<|mr @a5l<|mr @a6g<|mr @a7I<|mr @a3S<|mr @a6E<|mr @a4P<|mr @a4p<|mr @a5r<|mr @a2G<|mr @a4r<|mr @a9y<|mr @a9S<|mr @b2i<|mr @b5x<|mr @a8p<|mr @a7k<|mr @U5<|mr @a7t<|mr @b0h<|mr @a8P<|mr @a5j<|mr @a7y<|mr @a5B<|mr @a8O<|mr @uX<|mr @a1F<|mr @a2A<|mr @a6A<|mr @a3U<|mr @b0q<|mr @a1U<|mr @a9P<|mr @a0c<|mr @a1I<|mr @a4C<|mr @I1<|mr @o7<|mr @b2c<|mr @d9<|mr @a3K<|mr @a4L<|mr @a0f<|mr @a7G<|mr @a1E<|mr @a0e<|mr @a7v<|mr @vY<|mr @vC<|mr @a4x<|mr @b2G<|mr @a2i<|mr @a2F<|mr @b8h<| @b2s
abbrev bX:=mr @O5<|mr @U0<|mr @V6<|mr @a6s<|mr @J8<|mr @J5<|mr @b1S<|mr @Z8<|mr @b8t<|mr @b0d<|mr @I8<|mr @a2z<|mr @a5G<|mr @a0q<|mr @a3G<|mr @a1n<|mr @P5<|mr @b0X<|mr @b7K<|mr @c1e<|mr @a4M<|mr @a5e<|mr @M4<|mr @I7<|mr @D8<|mr @A8<|mr @L8<|mr @K8<|mr @K9<|mr @a4U<|mr @X3<|mr @Y0<|mr @a1i<|mr @R4<|mr @a2K<|mr @c7G<|mr @c7J<|mr @c7X<|mr @b5N<|mr @b5C<|mr @b5s<|mr @b0F<|mr @Q7<|mr @O9<|mr @b3z<|mr @a8d<|mr @a2s<|mr @b0g<|mr @J9<|mr @G5<|mr @a1s<|mr @a2l<|mr @V.e8n<|mr @F6<|mr @P8<|mr @b3m<|mr @a7R<|mr @b1q<|mr @c2G<|mr @a8U<|mr @R9<|mr @a4G<|mr @G6<|mr @a5o<|mr @M6<|mr @a1C<|mr @J6<|mr @S9<|mr @b5S<|mr @b5I<|mr @b2K<|mr @a7u<|mr @R8<|mr @Q6<|mr @a7P<|mr @O6<|mr @a2j<|mr @a5E<|mr @b5z<|mr @Q8<|mr @c1Q<|mr @c1E<|mr @Q4<|mr @P7<|mr @P6<|mr @b1V<|mr @a0Q<|mr @a1x<|mr @a3W<|mr @a1L<|mr @a5l<|mr @a6g<|mr @a7I<|mr @a3S<|mr @a6E<|mr @a4P<|mr @a4p<|mr @a5r<|mr @a2G<|mr @a4r<|mr @a9y<|mr @a9S<|mr @b2i<|mr @b5x<|mr @a8p<|mr @a7k<|mr @U5<|mr @a7t<|mr @b0h<|mr @a8P<|mr @a5j<|mr @a7y<|mr @a5B<|mr @a8O<|mr @uX<|mr @a1F<|mr @a2A<|mr @a6A<|mr @a3U<|mr @b0q<|mr @a1U<|mr @a9P<|mr @a0c<|mr @a1I<|mr @a4C<|mr @I1<|mr @o7<|mr @b2c<|mr @d9<|mr @a3K<|mr @a4L<|mr @a0f<|mr @a7G<|mr @a1E<|mr @a0e<|mr @a7v<|mr @vY<|mr @vC<|mr @a4x<|mr @b2G<|mr @a2i<| @a2F
abbrev bT:=mr @e0u<|mr @d9N<|mr @d8M<|mr @e3C<|mr @e0K<|mr @d8H<|mr @e3d<|mr @d9X<|mr @d9W<|mr @e0E<|mr @d9Z<|mr @d8L<|mr @e3a<|mr @d9B<|mr @d8N<|mr @e1b<|mr @e3D<|mr @e0W<|mr @d4U<|mr @d5B<|mr @d5q<|mr @d5a<|mr @d4M<|mr @d5I<|mr @d4u<|mr @d5G<|mr @d6g<|mr @d6f<|mr @b5h<|mr @b3d<|mr @U5<|mr @a7t<|mr @b0h<|mr @a8P<|mr @a5j<|mr @a7y<|mr @a5B<|mr @a8O<|mr @uS<|mr @rz<|mr @sP<|mr @uK<|mr @uX<|mr @a0Y<|mr @a6v<|mr @vY<|mr @P9<|mr @a7v<|mr @P7<|mr @P6<|mr @a7I<|mr @a3S<|mr @a6E<|mr @a4P<|mr @a4p<|mr @a5r<|mr @a2G<|mr @a6l<|mr @b7j<|mr @b7e<|mr @b6k<|mr @c1Y<|mr @c3f<|mr @a3H<|mr @a3a<|mr @b0Q<|mr @a2r<|mr @a5J<|mr @T9<|mr @b0G<|mr @a9m<|mr @a0g<|mr @a4M<| @a5e
theorem dz {p:Prop}(h:p:=by first|assumption|omega|(simp only[bT,a3D,IntKind.bits,a2W,Nat.reduceMul,Nat.reduceLT,Nat.reduceAdd,Nat.reduceBEq]<;>omega)):p:=h
abbrev gT:=mr @rz<|mr @uS<|mr @uK<|mr @uR<|mr @sP<|mr @uJ<|mr @uV<|mr @vE<|mr @pW<|mr @Bool.or_false<|mr @tY @tQ
section
attribute [local congr] y8 x9 C8 A9 C9
theorem a3M {α b}{x:α}{v}(h:bcase b (some x) none=some v):b=true/\v=x:=by cases b with|true=>cases h;exact⟨rfl,rfl⟩|false=>cases h
def O0:List (Nat×List UInt8×Nat):=[(0,[117,110,114,101,97,99,104,97,98,108,101],0),(1,[110,111,112],0),(2,[98,108,111,99,107],1),(3,[108,111,111,112],1),(4,[105,102],1),(5,[101,108,115,101],0),(11,[101,110,100],0),(12,[98,114],2),(13,[98,114,95,105,102],2),(14,[98,114,95,116,97,98,108,101],3),(15,[114,101,116,117,114,110],0),(16,[99,97,108,108],4),(17,[99,97,108,108,95,105,110,100,105,114,101,99,116],5),(26,[100,114,111,112],0),(27,[115,101,108,101,99,116],0),(28,[115,101,108,101,99,116],6),(32,[108,111,99,97,108,46,103,101,116],7),(33,[108,111,99,97,108,46,115,101,116],7),(34,[108,111,99,97,108,46,116,101,101],7),(35,[103,108,111,98,97,108,46,103,101,116],8),(36,[103,108,111,98,97,108,46,115,101,116],8),(37,[116,97,98,108,101,46,103,101,116],9),(38,[116,97,98,108,101,46,115,101,116],9),(40,[105,51,50,46,108,111,97,100],17),(41,[105,54,52,46,108,111,97,100],17),(44,[105,51,50,46,108,111,97,100,56,95,115],17),(45,[105,51,50,46,108,111,97,100,56,95,117],17),(46,[105,51,50,46,108,111,97,100,49,54,95,115],17),(47,[105,51,50,46,108,111,97,100,49,54,95,117],17),(48,[105,54,52,46,108,111,97,100,56,95,115],17),(49,[105,54,52,46,108,111,97,100,56,95,117],17),(50,[105,54,52,46,108,111,97,100,49,54,95,115],17),(51,[105,54,52,46,108,111,97,100,49,54,95,117],17),(52,[105,54,52,46,108,111,97,100,51,50,95,115],17),(53,[105,54,52,46,108,111,97,100,51,50,95,117],17),(54,[105,51,50,46,115,116,111,114,101],17),(55,[105,54,52,46,115,116,111,114,101],17),(58,[105,51,50,46,115,116,111,114,101,56],17),(59,[105,51,50,46,115,116,111,114,101,49,54],17),(60,[105,54,52,46,115,116,111,114,101,56],17),(61,[105,54,52,46,115,116,111,114,101,49,54],17),(62,[105,54,52,46,115,116,111,114,101,51,50],17),(63,[109,101,109,111,114,121,46,115,105,122,101],13),(64,[109,101,109,111,114,121,46,103,114,111,119],13),(65,[105,51,50,46,99,111,110,115,116],18),(66,[105,54,52,46,99,111,110,115,116],19),(69,[105,51,50,46,101,113,122],0),(70,[105,51,50,46,101,113],0),(71,[105,51,50,46,110,101],0),(72,[105,51,50,46,108,116,95,115],0),(73,[105,51,50,46,108,116,95,117],0),(74,[105,51,50,46,103,116,95,115],0),(75,[105,51,50,46,103,116,95,117],0),(76,[105,51,50,46,108,101,95,115],0),(77,[105,51,50,46,108,101,95,117],0),(78,[105,51,50,46,103,101,95,115],0),(79,[105,51,50,46,103,101,95,117],0),(80,[105,54,52,46,101,113,122],0),(81,[105,54,52,46,101,113],0),(82,[105,54,52,46,110,101],0),(83,[105,54,52,46,108,116,95,115],0),(84,[105,54,52,46,108,116,95,117],0),(85,[105,54,52,46,103,116,95,115],0),(86,[105,54,52,46,103,116,95,117],0),(87,[105,54,52,46,108,101,95,115],0),(88,[105,54,52,46,108,101,95,117],0),(89,[105,54,52,46,103,101,95,115],0),(90,[105,54,52,46,103,101,95,117],0),(103,[105,51,50,46,99,108,122],0),(104,[105,51,50,46,99,116,122],0),(105,[105,51,50,46,112,111,112,99,110,116],0),(106,[105,51,50,46,97,100,100],0),(107,[105,51,50,46,115,117,98],0),(108,[105,51,50,46,109,117,108],0),(109,[105,51,50,46,100,105,118,95,115],0),(110,[105,51,50,46,100,105,118,95,117],0),(111,[105,51,50,46,114,101,109,95,115],0),(112,[105,51,50,46,114,101,109,95,117],0),(113,[105,51,50,46,97,110,100],0),(114,[105,51,50,46,111,114],0),(115,[105,51,50,46,120,111,114],0),(116,[105,51,50,46,115,104,108],0),(117,[105,51,50,46,115,104,114,95,115],0),(118,[105,51,50,46,115,104,114,95,117],0),(119,[105,51,50,46,114,111,116,108],0),(120,[105,51,50,46,114,111,116,114],0),(121,[105,54,52,46,99,108,122],0),(122,[105,54,52,46,99,116,122],0),(123,[105,54,52,46,112,111,112,99,110,116],0),(124,[105,54,52,46,97,100,100],0),(125,[105,54,52,46,115,117,98],0),(126,[105,54,52,46,109,117,108],0),(127,[105,54,52,46,100,105,118,95,115],0),(128,[105,54,52,46,100,105,118,95,117],0),(129,[105,54,52,46,114,101,109,95,115],0),(130,[105,54,52,46,114,101,109,95,117],0),(131,[105,54,52,46,97,110,100],0),(132,[105,54,52,46,111,114],0),(133,[105,54,52,46,120,111,114],0),(134,[105,54,52,46,115,104,108],0),(135,[105,54,52,46,115,104,114,95,115],0),(136,[105,54,52,46,115,104,114,95,117],0),(137,[105,54,52,46,114,111,116,108],0),(138,[105,54,52,46,114,111,116,114],0),(167,[105,51,50,46,119,114,97,112,95,105,54,52],0),(172,[105,54,52,46,101,120,116,101,110,100,95,105,51,50,95,115],0),(173,[105,54,52,46,101,120,116,101,110,100,95,105,51,50,95,117],0),(192,[105,51,50,46,101,120,116,101,110,100,56,95,115],0),(193,[105,51,50,46,101,120,116,101,110,100,49,54,95,115],0),(194,[105,54,52,46,101,120,116,101,110,100,56,95,115],0),(195,[105,54,52,46,101,120,116,101,110,100,49,54,95,115],0),(196,[105,54,52,46,101,120,116,101,110,100,51,50,95,115],0),(208,[114,101,102,46,110,117,108,108],20),(209,[114,101,102,46,105,115,95,110,117,108,108],0),(210,[114,101,102,46,102,117,110,99],4),(64520,[109,101,109,111,114,121,46,105,110,105,116],15),(64521,[100,97,116,97,46,100,114,111,112],16),(64522,[109,101,109,111,114,121,46,99,111,112,121],14),(64523,[109,101,109,111,114,121,46,102,105,108,108],13),(64524,[116,97,98,108,101,46,105,110,105,116],11),(64525,[101,108,101,109,46,100,114,111,112],12),(64526,[116,97,98,108,101,46,99,111,112,121],10),(64527,[116,97,98,108,101,46,103,114,111,119],9),(64528,[116,97,98,108,101,46,115,105,122,101],9),(64529,[116,97,98,108,101,46,102,105,108,108],9)]
abbrev a4h:=Nat×List UInt8×Nat
def b5Q (x:a4h):List Value:=[.int .i64 (.ofNat x.1),.string ⟨⟨x.2.1⟩⟩,.int .i64 (.ofNat x.2.2)]
def a1M (l:List a4h):List Value:=List.rec (motive:=λ_=>List Value) [] (λx _ ih=>.int .i64 (.ofNat x.1)::.string ⟨⟨x.2.1⟩⟩::.int .i64 (.ofNat x.2.2)::ih) l
def d3s (r:Option (CR×S)):Option (Nat×Nat×List Value×Bool):=match r with
 |some x=>match x.1 with
  |.ret v=>match v with
   |.slice a n e=>match a with
    |some a=>match a.spot with
     |some g=>match Nat.beq a.off 0 with
      |true=>match x.2.h.get a.block with|some (.cells cs _ ro)=>some (n,e,K4 (·.1) cs,J7 (λx=>plain x.1&&Nat.ble x.2 g) cs&& !ro)|_=>none
      |false=>none
     |none=>none
    |none=>none
   |_=>none
  |_=>none
 |none=>none
theorem d3B {r n e vs}(h:d3s r=some (n,e,vs,true)):∃b2 g2 s2 cs cur,r=some (.ret (.slice (some ⟨b2,0,some g2⟩) n e),s2)/\s2.h.get b2=some (.cells cs cur false)/\K4 (·.1) cs=vs/\J7 (λx=>plain x.1&&Nat.ble x.2 g2) cs=true:=by
 unfold d3s at h;split at h;rename_i x;split at h;rename_i v hv;split at h;rename_i a n' e';split at h;rename_i a;split at h;rename_i g hg;split at h;rename_i ho;split at h;rename_i cs cur ro hc;have h':=sQ h;simp only[Prod.mk.injEq,wI]at h';obtain⟨rfl,rfl,rfl,h4,h5⟩:=h';obtain⟨b,off,sp⟩:=a;obtain rfl:off=0:=wK ho;obtain rfl:sp=some g:=hg;obtain rfl:ro=false:=by simpa using h5
 obtain⟨x1,x2⟩:=x;obtain rfl:x1=.ret (.slice (some ⟨b,0,some g⟩) n' e'):=hv;exact⟨b,g,x2,cs,cur,rfl,hc,rfl,h4⟩;cases h;cases h;cases h;cases h;cases h;cases h;cases h
theorem d4l (mL):d3s (o9 a7m 400 127 [] (Go.V.a3p (I5 mL)))=some (125,3,a1M O0,true):=zw
theorem d3o:K3 Tryz.prog tab (I5 mL) 127 (b1D (a1M O0) 125 3):=by obtain⟨b2,g2,s2,cs,cur,h1,h2,h3,h4⟩:=d3B (d4l mL);rw[<-h3];exact c2l V7 M9 a6G a3e a5M b2H Tryz.func127 zw rfl h1 h2 h4
theorem a7H (k n)(h:n<a3D k):Q0 k (.ofNat n)=.ofNat n:=by
 unfold Q0;have:Nat.blt n (a3D k)=true:=by simpa[uZ]using h
 simp only[this]
theorem J2 (i)(h:i<4294967296):Q0 .i64 (Int.ofNat i+Int.ofNat 1)=Int.ofNat (i+1):=a7H .i64 (i+1) (by show i+1<9223372036854775808;omega)
theorem a2L (i n):decide (Int.ofNat i<Int.ofNat n)=Nat.blt i n:=by
 cases h:Nat.blt i n with
  |true=>
   have:i<n:=by simpa[uZ]using h
   simp only[vF,vB];omega|false=>
   have:¬i<n:=λq=>by rw[I1 q]at h;cases h
   simp only[uz,vB];omega
def R5 (n:Int):List a4h->Option a4h|[]=>none|r::l=>bcase (decide (Int.ofNat r.1=n)) (some r) (R5 n l)
def c5V:List Value:=[.int .i64 (.ofNat 0),.string ⟨⟨[]⟩⟩,.int .i64 (.ofNat 0)]
def a9K (o:Option a4h):Value:=match o with|some r=>.tuple ⟨[.agg ⟨b5Q r⟩,.bool true]⟩|none=>.tuple ⟨[.agg ⟨c5V⟩,.bool false]⟩
theorem c8B (rows):∀(i),G7 (K4 (λv=>(v,0)) (a1M rows)) (i*3)=K4 (λv=>(v,0)) (a1M (rows.drop i)):=by induction rows with|nil=>intro i;rw[a0z];simp[a1M,K4]|cons r l ih=>intro i;cases i with|zero=>rw[rH,a0f];rfl|succ i=>rw[show(i+1)*3=i*3+1+1+1 by omega];exact ih i
theorem d2B (N:Nat)(call:J4)(b0 b1 len:Nat)(n:Int)(rows:List a4h)(hlen:len=rows.length)(hsm:rows.length<4294967296)(x0 x1 x2:Value)(c:Nat)(h:Trie VObj)(hb0:b0<c)(hb1:b1<c)(h0:h.get b0=some (.cells [(x0,0),(x1,0),(x2,0)] 0 false))(h1:h.get b1=some (.cells (K4 (λv=>(v,0)) (a1M rows)) 0 false)):∀(l:List a4h) (i k:Nat) (g0 g1 g2 g3 g4 g5 g6 g7 g8 g9 g10 g11 g12 g13 g14 g16 g17:Value) (r w:List Nat),rows.drop i=l->l.length<k->l9 (go (R7 (d4P o8 N call (.slice (some ⟨b1,0,some 0⟩) len 3) (.int .i64 n) (.pointer (some ⟨b0,0,some 0⟩))) k [g0,g1,g2,g3,g4,g5,g6,g7,g8,g9,g10,g11,g12,g13,g14,.bool false,g16,g17,.int .i64 (.ofNat i)]) ⟨c,h,r,w⟩) λx s=>s.c=c/\match R5 n l with|some q=>x.1=.ret/\D5 x.2 15=.bool true/\s.h=upd h b0 (.cells [(.int .i64 (.ofNat q.1),0),(.string ⟨⟨q.2.1⟩⟩,0),(.int .i64 (.ofNat q.2.2),0)] 0 false)|none=>x.1=.exit 0/\s.h=h:=by
 intro l;induction l with
  |nil=>
   intro i k g0 g1 g2 g3 g4 g5 g6 g7 g8 g9 g10 g11 g12 g13 g14 g16 g17 r w hd hk;obtain⟨k,rfl⟩:∃m,k=m+1:=⟨k-1,zT⟩;have hi:Nat.blt i len=false:=by have:rows.length<=i:=yY;cases q:Nat.blt i len with|false=>rfl|true=>have:i<len:=yH;omega
   simp(disch:=first|exact dx|fail)only[Y8,c2Y,a2L,hi,O5,J5,Z8,A8,X3,Y0,J9,a1s,V.e8n,G6,J6,Q8];exact l9.done ⟨rfl,rfl,rfl⟩|cons q l ih=>
   intro i k g0 g1 g2 g3 g4 g5 g6 g7 g8 g9 g10 g11 g12 g13 g14 g16 g17 r w hd hk;obtain⟨k,rfl⟩:∃m,k=m+1:=⟨k-1,zT⟩;have hil:i<len:=yf;have hi:Nat.blt i len=true:=I1 hil;have hd':rows.drop (i+1)=l:=zJ;have hdr:G7 (K4 (λv=>(v,0)) (a1M rows)) (i*3)=(.int .i64 (.ofNat q.1),0)::(.string ⟨⟨q.2.1⟩⟩,0)::(.int .i64 (.ofNat q.2.2),0)::K4 (λv=>(v,0)) (a1M l):=by rw[c8B,hd];rfl
   have hinc:=J2 i zy;simp(disch:=first|exact dx|fail)only[Y8,c2Y,a2L,hi,hdr,h1,O5,J8,J5,Z8,a2z,D8,X3,Y0,J9,V.e8n,R9,G6,J6,a5E,Q8,a1x,a2G,a2A,a6A,a3U,a0c,a1I,I1,a1E,a0e,a8Q,vC];rw[c3Z];refine l9.cases (λhb=>?_) (λhb=>?_);simp(disch:=first|exact dx|fail)only[h0,J5,Z8,a2l,a1I,a4C,a4x,a2i,a2F];refine l9.done ⟨rfl,?_⟩;have e:R5 n (q::l)=some q:=by unfold R5;rw[hb];rfl
   rw[e];exact⟨rfl,rfl,rfl⟩;simp(disch:=first|exact dx|fail)only[hinc,J5,G5];have e:R5 n (q::l)=R5 n l:=by show bcase (decide (Int.ofNat q.1=n)) (some q) (R5 n l)=_;rw[hb];rfl
   rw[e];exact ih (i+1) k _ _ _ _ _ _ _ _ _ _ _ _ _ _ _ _ _ _ _ hd' zT
theorem t97 (N)(hN:1000<N)(call)(hc:∀c h r w,go (call 127 []) ⟨c,h,r,w⟩=some (.ret (.slice (some ⟨c,0,some 0⟩) 125 3),⟨c+1,upd h c (.cells (K4 (λv=>(v,0)) (a1M O0)) 0 false),r,c::w⟩))(n c h r w):l9 (go (c7D o8 N call (.int .i64 n)) ⟨c,h,r,w⟩) λx s=>x=.ret (a9K (R5 n O0))/\∀i,i<c->s.h.get i=h.get i:=by simp(disch:=first|exact dx|fail)only[f1m,hc,O5,U0,V6,a6s,J8,J5,I8,a3G,V.e8n,F6,a4r,a9y,b0q,a3K,a4L];refine l9.bindS (d2B N call c (c+1) 125 n O0 rfl zu _ _ _ (c+1+1) _ zy zy (by rw[d9 zy,o7]) (by rw[o7]) O0 0 N _ _ _ _ _ _ _ _ _ _ _ _ _ _ _ _ _ _ _ rfl (by show 125<N;omega)) λx s hq=>?_;obtain⟨x1,x2⟩:=x;obtain⟨c',h',r',w'⟩:=s;obtain⟨rfl,hq⟩:=hq;cases hf:R5 n O0 with|none=>rw[hf]at hq;obtain⟨rfl,rfl⟩:=hq;simp(disch:=first|exact dx|fail)only[J8,J5,Z8,a1n,D8,a1s,a2G,a3U,a0c,a1I,a4C,I1,o7,d9,a0f,a1E,a0e,a4x,a2i,a2F,P9];refine l9.done ⟨rfl,λi hi=>?_⟩;simp(disch:=first|exact dx|fail)only[d9]|some q=>rw[hf]at hq;obtain⟨rfl,e15,rfl⟩:=hq;simp only at e15;simp(disch:=first|exact dx|fail)only[J8,J5,Z8,a1n,a2l,a0c,a1I,I1,o7,a0f,a1E,a0e,e15];refine l9.done ⟨rfl,λi hi=>?_⟩;simp(disch:=first|exact dx|fail)only[d9]
def a1g (a:Int):Bool:=decide (1<=a)&&decide (a<=4)
def U6 (a:Int):List UInt8:=bcase (decide (a=1)) [105,51,50] (bcase (decide (a=2)) [105,54,52] (bcase (decide (a=3)) [102,117,110,99,114,101,102] (bcase (decide (a=4)) [101,120,116,101,114,110,114,101,102] [])))
theorem t40 (N call a):c3q o8 N call (.int .i64 a)=M.pure (.ret (.string ⟨⟨U6 a⟩⟩)):=by simp only[f0H,O5,L8,J9,V.e8n,a7R,b1q,R9];rfl
def J3 (z:Int):Bool:=match R5 z O0 with|some _=>true|none=>false
def F7 (z:Int):Nat:=match R5 z O0 with|some r=>r.2.2|none=>0
theorem a3L (z):∀(l) (r),R5 z l=some r->r∈l/\z=Int.ofNat r.1:=by intro l;induction l with|nil=>intro r h;cases h|cons q l ih=>intro r h;have h':bcase (decide (Int.ofNat q.1=z)) (some q) (R5 z l)=some r:=h;by_cases hq:Int.ofNat q.1=z;rw[wJ hq]at h';cases h';exact⟨um,hq.symm⟩;rw[wL hq]at h';obtain⟨h1,h2⟩:=ih r h';exact⟨vJ _ h1,h2⟩
theorem t46 (N call)(h97:∀n,call 97 [.int .i64 n]=M.pure (.ret (a9K (R5 n O0))))(z):a1a (c7o o8 N call (.int .i64 z)) (.int .i64 (.ofNat (F7 z))):=by intro c h r w;unfold F7;have e:=h97 z;cases hf:R5 z O0 with|none=>rw[hf]at e;simp(disch:=first|exact dx|fail)only[d9Y,e,a9K,c5V,O5,V6,J8,J5,Z8,I8,X3,V.e8n,F6,a5E,Q4,P7,P6,a2G,a2A,a3U,b0q,a0c,a1I,a4C,I1,o7,a3K,a4L,a0f,a7G,a1E,a0e,a8Q,a4x,a2i,a2F];exact l9.done ⟨rfl,λj hj=>by simp(disch:=first|exact dx|fail)only[d9]⟩|some q=>rw[hf]at e;simp(disch:=first|exact dx|fail)only[d9Y,e,a9K,b5Q,O5,V6,J8,J5,Z8,I8,X3,V.e8n,F6,a5E,Q4,P7,P6,a2G,a2A,a3U,b0q,a0c,a1I,a4C,I1,o7,a3K,a4L,a0f,a7G,a1E,a0e,a8Q,a4x,a2i,a2F];exact l9.done ⟨rfl,λj hj=>by simp(disch:=first|exact dx|fail)only[d9]⟩
theorem e0B (mL):J7 (λr:a4h=>b3H (o9 a7m 400 39 [.int .i64 (.ofNat r.1)] (Go.V.a3p (I5 mL))) r.2.2) O0=true:=zw
theorem d0J:K3 Tryz.prog tab (I5 mL) 39 (X1 .i64 λz=>bcase (J3 z) (some (.int .i64 (.ofNat (F7 z)))) none):=a8K λz v h=>by obtain⟨h1,rfl⟩:=a3M h;unfold J3 at h1;unfold F7;cases hf:R5 z O0 with|none=>rw[hf]at h1;cases h1|some r=>obtain⟨hm,rfl⟩:=a3L z O0 r hf;obtain⟨s,hr⟩:=b2y ((M5 _ _).1 (e0B mL) r hm);exact⟨rfl,a5D V7 M9 a6G a3e a5M b2H Tryz.func39 zw rfl rfl rfl hr⟩
def a0H:List (Nat×Nat):=[(40,2),(41,3),(44,0),(45,0),(46,1),(47,1),(48,0),(49,0),(50,1),(51,1),(52,2),(53,2),(54,2),(55,3),(58,0),(59,1),(60,0),(61,1),(62,2)]
def Z9 (l:List (Nat×Nat))(z:Int):Option Nat:=List.rec (motive:=λ_=>Option Nat) none (λx _ ih=>bcase (decide (z=Int.ofNat x.1)) (some x.2) ih) l
theorem c4d (z):∀(l) (a),Z9 l z=some a->∃x∈l,z=Int.ofNat x.1/\a=x.2:=by intro l;induction l with|nil=>intro a h;cases h|cons q l ih=>intro a h;have h':bcase (decide (z=Int.ofNat q.1)) (some q.2) (Z9 l z)=some a:=h;by_cases hq:z=Int.ofNat q.1;rw[wJ hq]at h';cases h';exact⟨q,um,hq,rfl⟩;rw[wL hq]at h';obtain⟨x,h1,h2⟩:=ih a h';exact⟨x,vJ _ h1,h2⟩
def a7i (z:Int):Option Value:=match Z9 a0H z with|some a=>some (.int .i64 (.ofNat a))|none=>none
theorem d0S (mL):J7 (λx=>b3H (o9 a7m 400 94 [.int .i64 (.ofNat x.1)] (Go.V.a3p (I5 mL))) x.2) a0H=true:=zw
theorem d4E:K3 Tryz.prog tab (I5 mL) 94 (X1 .i64 a7i):=a8K λz v h=>by unfold a7i at h;split at h;rename_i a ha;cases h;obtain⟨x,hm,rfl,rfl⟩:=c4d z a0H a ha;obtain⟨s,hr⟩:=b2y ((M5 _ _).1 (d0S mL) x hm);exact⟨rfl,a5D V7 M9 a6G a3e a5M b2H Tryz.func94 zw rfl rfl rfl hr⟩;cases h
end
section
attribute [local congr] y8 x9 C8 A9 C9 A7 E8
def b0j (q:List UInt8->List UInt8->Value)(bs:List Value):Option Value:=match bs with|[.string s,.string s']=>some (q s.data.toList s'.data.toList)|_=>none
theorem c1w {q bs v}(h:b0j q bs=some v):∃T P,bs=[.string ⟨⟨T⟩⟩,.string ⟨⟨P⟩⟩]/\v=q T P:=by unfold b0j at h;split at h;rename_i s s';cases h;exact⟨s.data.toList,s'.data.toList,rfl,rfl⟩;cases h
def b2o (T P:List UInt8):Value:=.bool (a0u T P)
theorem e0k:K3 Tryz.prog tab (I5 mL) 117 (λbs=>M.lift (b0j b2o bs)):=a2c V7 M9 (pL2 (mL:=mL)).e (pL2 (mL:=mL)).s Tryz.func117 zw rfl λbs v h=>by obtain⟨T,P,rfl,rfl⟩:=c1w h;refine⟨rfl,λc hh r w=>⟨2,a1a.pureE ?_ c hh r w⟩⟩;rw[a1H (q:=c0O) (N:=NN) zw 1];exact e9i NN _ T P
theorem c8e:K3 Tryz.prog tab (I5 mL) 40 (X1 .i64 λz=>some (.string ⟨⟨U6 z⟩⟩)):=a8x V7 M9 pL2 Tryz.func40 zw rfl λz v h=>by cases h;exact⟨rfl,2,by rw[Y7 (q:=c3q) (N:=NN) zw 1];exact a1a.pure (t40 _ _ z)⟩
def pe3:Nat->Option (List Value->M Value):=(M7 (M7 (M7 (M7 (M7 (M7 pe2 81 (XSI 4294967295 a6T)) 186 (λbs=>M.lift (b0r bs))) 117 (λbs=>M.lift (b0j b2o bs))) 40 (X1 .i64 λz=>some (.string ⟨⟨U6 z⟩⟩))) 39 (X1 .i64 λz=>bcase (J3 z) (some (.int .i64 (.ofNat (F7 z)))) none)) 94 (X1 .i64 a7i))
def ps3:a2x:=(U7 (U7 (U7 (U7 (U7 (U7 ps2 81 (XSI 4294967295 a6T)) 186 (λbs=>M.lift (b0r bs))) 117 (λbs=>M.lift (b0j b2o bs))) 40 (X1 .i64 λz=>some (.string ⟨⟨U6 z⟩⟩))) 39 (X1 .i64 λz=>bcase (J3 z) (some (.int .i64 (.ofNat (F7 z)))) none)) 94 (X1 .i64 a7i))
theorem pL3:Shelf' Tryz.prog tab (I5 mL) NN pe3 ps3:=(((((((((((pL2.add e4v)).add e1H)).add e0k).add c8e)).add d0J).add d4E)))
theorem e1T (n T P):o9 ps3 (n+1) 117 [.string ⟨⟨T⟩⟩,.string ⟨⟨P⟩⟩]=M.pure (.ret (.bool (a0u T P))):=V9 ps3 n 117 _ (g:=b0j b2o) zw rfl
theorem e4N (n z):o9 ps3 (n+1) 40 [.int .i64 z]=M.pure (.ret (.string ⟨⟨U6 z⟩⟩)):=a1h (q:=λz=>some (.string ⟨⟨U6 z⟩⟩)) zw n rfl
theorem e4d:K3 Tryz.prog tab (I5 mL) 80 (λbs=>M.lift (b0j b2o bs)):=a2c V7 M9 (pL3 (mL:=mL)).e (pL3 (mL:=mL)).s Tryz.func80 zw rfl λbs v h=>by obtain⟨T,P,rfl,rfl⟩:=c1w h;refine⟨rfl,λc hh r w=>⟨2,a1a.pureE ?_ c hh r w⟩⟩;rw[a1H (q:=d1H) (N:=NN) zw 1];simp(disch:=first|exact dz|fail)only[F80,e1T,bX];rfl
def a8y (T:List UInt8):Option Nat:=bcase (beqBytes [105,51,50] T) (some 1) (bcase (beqBytes [105,54,52] T) (some 2) (bcase (beqBytes [102,117,110,99,114,101,102] T) (some 3) (bcase (beqBytes [101,120,116,101,114,110,114,101,102] T) (some 4) none)))
def a2R (T:List UInt8):Value:=match a8y T with|some k=>.tuple ⟨[.int .i64 (.ofNat k),.bool true]⟩|none=>.tuple ⟨[.int .i64 (.ofNat 0),.bool false]⟩
theorem vn1:U6 (Int.ofNat 1)=[105,51,50]:=wH rfl rfl
theorem vn2:U6 (Int.ofNat 2)=[105,54,52]:=wH rfl rfl
theorem vn3:U6 (Int.ofNat 3)=[102,117,110,99,114,101,102]:=wH rfl rfl
theorem vn4:U6 (Int.ofNat 4)=[101,120,116,101,114,110,114,101,102]:=wH rfl rfl
theorem e8O (call)(hc:∀z,call 40 [.int .i64 z]=M.pure (.ret (.string ⟨⟨U6 z⟩⟩)))(T c h r w):l9 (go (c0i o8 NN call (.string ⟨⟨T⟩⟩)) ⟨c,h,r,w⟩) λx s=>x=.ret (a2R T)/\∀i,i<c->s.h.get i=h.get i:=by have d1:decide (Int.ofNat 1<=Int.ofNat 4)=true:=rfl;have d2:decide (Int.ofNat 2<=Int.ofNat 4)=true:=rfl;have d3:decide (Int.ofNat 3<=Int.ofNat 4)=true:=rfl;have d4:decide (Int.ofNat 4<=Int.ofNat 4)=true:=rfl;have d5:decide (Int.ofNat 5<=Int.ofNat 4)=false:=rfl;have i1:Q0 .i64 (Int.ofNat 1+Int.ofNat 1)=Int.ofNat 2:=rfl;have i2:Q0 .i64 (Int.ofNat 2+Int.ofNat 1)=Int.ofNat 3:=rfl;have i3:Q0 .i64 (Int.ofNat 3+Int.ofNat 1)=Int.ofNat 4:=rfl;have i4:Q0 .i64 (Int.ofNat 4+Int.ofNat 1)=Int.ofNat 5:=rfl;obtain⟨k,hN⟩:∃k,NN=k+6:=⟨NN-6,zu⟩;rw[hN];unfold a2R a8y;cases q1:beqBytes [105,51,50] T with|true=>simp(disch:=first|exact dz|fail)only[c2h,c3i,Y8,hc,vn1,d1,q1,bY];exact l9.done ⟨rfl,λi hi=>rfl⟩|false=>cases q2:beqBytes [105,54,52] T with|true=>simp(disch:=first|exact dz|fail)only[c2h,c3i,Y8,hc,vn1,vn2,d1,d2,i1,q1,q2,bY];exact l9.done ⟨rfl,λi hi=>rfl⟩|false=>cases q3:beqBytes [102,117,110,99,114,101,102] T with|true=>simp(disch:=first|exact dz|fail)only[c2h,c3i,Y8,hc,vn1,vn2,vn3,d1,d2,d3,i1,i2,q1,q2,q3,bY];exact l9.done ⟨rfl,λi hi=>rfl⟩|false=>cases q4:beqBytes [101,120,116,101,114,110,114,101,102] T with|true=>simp(disch:=first|exact dz|fail)only[c2h,c3i,Y8,hc,vn1,vn2,vn3,vn4,d1,d2,d3,d4,i1,i2,i3,q1,q2,q3,q4,bY];exact l9.done ⟨rfl,λi hi=>rfl⟩|false=>simp(disch:=first|exact dz|fail)only[c2h,c3i,Y8,hc,vn1,vn2,vn3,vn4,d1,d2,d3,d4,d5,i1,i2,i3,i4,q1,q2,q3,q4,bY];exact l9.done ⟨rfl,λi hi=>rfl⟩
def XT (q:List UInt8->Value)(bs:List Value):Option Value:=match bs with|[.string s]=>some (q s.data.toList)|_=>none
theorem e2J {q bs v}(h:XT q bs=some v):∃T,bs=[.string ⟨⟨T⟩⟩]/\v=q T:=by unfold XT at h;split at h;rename_i s;cases h;exact⟨s.data.toList,rfl,rfl⟩;cases h
theorem b8e (T):K5 8 (a2R T)=true:=by unfold a2R;cases a8y T<;>rfl
theorem e0R:K3 Tryz.prog tab (I5 mL) 182 (λbs=>M.lift (XT a2R bs)):=a2c V7 M9 (pL3 (mL:=mL)).e (pL3 (mL:=mL)).s Tryz.func182 zw rfl λbs v h=>by obtain⟨T,rfl,rfl⟩:=e2J h;refine⟨b8e T,λc hh r w=>⟨2,?_⟩⟩;rw[Y7 (q:=c0i) (N:=NN) zw 1];exact e8O _ (e4N 0) T c hh r w
def c7u (b:UInt8):Bool:=decide (b.toNat=36)||(decide (48<=b.toNat)&&decide (b.toNat<=57))
def b8d (T:List UInt8):Bool:=match T with|[]=>false|b::_=>c7u b
def Y6 (k:Nat)(T:List UInt8):Bool:=decide (k=2)&&b8d T
theorem X6 (a b):decide (Int.ofNat a=Int.ofNat b)=decide (a=b):=by by_cases q:a=b;rw[wJ q,q,wJ rfl];rw[wL q];simp only[uz,vB];omega
theorem c6H (b T):b6W (.string ⟨⟨b::T⟩⟩) (.int .i64 (.ofNat 0))=M.pure (.int .u8 (.ofNat b.toNat)):=rfl
theorem c1W (b T):beqBytes (b::T) []=false:=wH rfl rfl
theorem d8k:beqBytes [] []=true:=wH rfl rfl
theorem e8X (N call k p T a n e c h r w):l9 (go (c0R o8 N call (.agg ⟨[.int .i64 (.ofNat k),.int .i64 (.ofNat p),.string ⟨⟨T⟩⟩,.slice a n e]⟩)) ⟨c,h,r,w⟩) λx s=>x=.ret (.bool (Y6 k T))/\∀i,i<c->s.h.get i=h.get i:=by unfold Y6;have hf:∀i,i<c->i≠c:=λi hi=>zy;cases q1:decide (k=2)with|false=>simp(disch:=first|exact dz|fail)only[c0Y,X6,q1,bY];exact l9.done ⟨rfl,λi hi=>yD⟩|true=>cases T with|nil=>simp(disch:=first|exact dz|fail)only[c0Y,X6,q1,d8k,b8d,bY];exact l9.done ⟨rfl,λi hi=>yD⟩|cons b T=>unfold b8d c7u;cases q2:decide (b.toNat=36)with|true=>simp(disch:=first|exact dz|fail)only[c0Y,X6,q1,q2,c1W,c6H,bY];exact l9.done ⟨rfl,λi hi=>yD⟩|false=>cases q3:decide (48<=b.toNat)with|false=>simp(disch:=first|exact dz|fail)only[c0Y,X6,dle,q1,q2,q3,c1W,c6H,bY];exact l9.done ⟨rfl,λi hi=>yD⟩|true=>simp(disch:=first|exact dz|fail)only[c0Y,X6,dle,q1,q2,q3,c1W,c6H,bY];exact l9.done ⟨rfl,λi hi=>yD⟩
def XN (q:Nat->List UInt8->Value)(bs:List Value):Option Value:=match bs with|[.agg ⟨[.int .i64 (.ofNat k),.int .i64 (.ofNat _),.string s,.slice _ _ _]⟩]=>some (q k s.data.toList)|_=>none
theorem e1r {q bs v}(h:XN q bs=some v):∃k p T a n e,bs=[.agg ⟨[.int .i64 (.ofNat k),.int .i64 (.ofNat p),.string ⟨⟨T⟩⟩,.slice a n e]⟩]/\v=q k T:=by unfold XN at h;split at h;cases h;exact⟨_,_,_,_,_,_,rfl,rfl⟩;cases h
def c6S (k:Nat)(T:List UInt8):Value:=.bool (Y6 k T)
theorem e1Q:K3 Tryz.prog tab (I5 mL) 184 (λbs=>M.lift (XN c6S bs)):=a2c V7 M9 (pL3 (mL:=mL)).e (pL3 (mL:=mL)).s Tryz.func184 zw rfl λbs v h=>by obtain⟨k,p,T,a,n,e,rfl,rfl⟩:=e1r h;refine⟨rfl,λc hh r w=>⟨2,?_⟩⟩;rw[Y7 (q:=c0R) (N:=NN) zw 1];exact e8X _ _ k p T a n e c hh r w
structure Sl where
 a:Option Addr
 n:Nat
 e:Nat
inductive Nd where
 | mk (k p:Nat) (t:List UInt8) (l:List Nd)
def Nd.k:Nd->Nat|.mk k _ _ _=>k
def Nd.p:Nd->Nat|.mk _ p _ _=>p
def Nd.t:Nd->List UInt8|.mk _ _ t _=>t
def Nd.l:Nd->List Nd|.mk _ _ _ l=>l
def ndV (n:Nd)(v:Sl):Value:=.agg ⟨[.int .i64 (.ofNat n.k),.int .i64 (.ofNat n.p),.string ⟨⟨n.t⟩⟩,.slice v.a v.n v.e]⟩
inductive NdL (U:Nat→Prop) (h:Trie VObj):Sl→List Nd→Prop
 | nil:NdL U h ⟨none, 0, 0⟩ []
 | row {b o g cur:Nat} {cs:List (Value×Nat)} {ro:Bool} {l:List Nd} (vs:Nat→Sl):U b→h.get b=some (.cells cs cur ro)→l.length<1800000 →
  (∀ (i:Nat) n,l[i]?=some n→n.t.length<1800000∧q9 g (G7 cs (o+i * 4)) 4=some [.int .i64 (.ofNat n.k),.int .i64 (.ofNat n.p),.string ⟨⟨n.t⟩⟩,.slice (vs i).a (vs i).n (vs i).e]) →
  (∀ (i:Nat) n,l[i]?=some n→NdL U h (vs i) n.l)→NdL U h ⟨some ⟨b,o,some g⟩,l.length, 4⟩ l
theorem NdL.mono {U U' h h' v l}(H:NdL U h v l)(hu:∀i,U i->U' i/\h'.get i=h.get i):NdL U' h' v l:=by induction H with|nil=>exact .nil|row vs h1 h2 h3 h4 _ ih=>exact .row vs (hu _ h1).1 ((hu _ h1).2.trans h2) h3 h4 ih
theorem NdL.len {U h v l}(H:NdL U h v l):v.n=l.length/\l.length<1800000:=by cases H<;>simp_all
theorem NdL.get {U h v l}(H:NdL U h v l){i n}(hi:l[i]?=some n):∃b q g cs cur ro lv,U b/\h.get b=some (.cells cs cur ro)/\NdL U h lv n.l/\n.t.length<1800000/\(∀k,a6U 4 (.slice v.a v.n v.e) (.int k (.ofNat i))=M.pure (.pointer (some ⟨b,q,some g⟩)))/\q9 g (G7 cs q) 4=some [.int .i64 (.ofNat n.k),.int .i64 (.ofNat n.p),.string ⟨⟨n.t⟩⟩,.slice lv.a lv.n lv.e]/\q9 g (G7 cs q) 1=some [.int .i64 (.ofNat n.k)]/\q9 g (G7 cs (q+1)) 1=some [.int .i64 (.ofNat n.p)]/\q9 g (G7 cs (q+2)) 1=some [.string ⟨⟨n.t⟩⟩]/\q9 g (G7 cs (q+3)) 1=some [.slice lv.a lv.n lv.e]:=by
 cases H with
  |nil=>cases hi| @row b o g cur cs ro _ vs h1 h2 h3 h4 h5=>
   have hl:i<l.length:=(wM.1 hi).1;obtain⟨ht,h6⟩:=h4 i n hi;have one:∀(j:Nat) (y:Value),([.int .i64 (.ofNat n.k),.int .i64 (.ofNat n.p),.string ⟨⟨n.t⟩⟩,.slice (vs i).a (vs i).n (vs i).e]:List Value)[j]?=some y->q9 g (G7 cs (o+i*4+j)) 1=some [y]:=by grind[a4z,a1k]
   exact⟨b,o+i*4,g,cs,cur,ro,vs i,h1,h2,h5 i n hi,ht,λk=>a1x 4 i l.length k b o (some g) hl zu,h6,one 0 _ rfl,one 1 _ rfl,one 2 _ rfl,one 3 _ rfl⟩
structure RV where
 i:Nat
 op:Nat
 A:Nat
 B:Nat
 N:Nat
 k:Nat
 v:Nat
 bi:Nat
 ts:Sl
 ls:Sl
 nm:List UInt8
structure PV where
 out:Sl
 lb:Nat
 p:Nat
 e:Nat
def a2I (R:RV):List Value:=[.int .i64 (.ofNat R.op),.int .i64 (.ofNat R.A),.int .i64 (.ofNat R.B),.int .u64 (.ofNat R.N),.int .i64 (.ofNat R.k),.int .i64 (.ofNat R.v),.int .i64 (.ofNat R.bi),.slice R.ts.a R.ts.n R.ts.e,.slice R.ls.a R.ls.n R.ls.e]
def I6 (ap:Nat)(lv:Sl)(q:Nat)(R:RV):List (Value×Nat):=[(.pointer (some ⟨ap,0,some 0⟩),0),(.slice lv.a lv.n lv.e,0),(.int .i64 (.ofNat R.i),0),(.int .i64 (.ofNat q),0),(.int .i64 (.ofNat R.op),0),(.int .i64 (.ofNat R.A),0),(.int .i64 (.ofNat R.B),0),(.int .u64 (.ofNat R.N),0),(.int .i64 (.ofNat R.k),0),(.int .i64 (.ofNat R.v),0),(.int .i64 (.ofNat R.bi),0),(.slice R.ts.a R.ts.n R.ts.e,0),(.slice R.ls.a R.ls.n R.ls.e,0),(.string ⟨⟨R.nm⟩⟩,0)]
def H7 (sv fo:Value)(P:PV):List (Value×Nat):=[(sv,0),(.slice P.out.a P.out.n P.out.e,0),(.int .i64 (.ofNat P.lb),0),(.int .i64 (.ofNat P.p),0),(.int .i64 (.ofNat P.e),0),(fo,0)]
structure At (U:Nat→Prop) (h0:Trie VObj) (sv fo:Value) (ar ap:Nat) (lv:Sl) (q c:Nat) (h:Trie VObj) (R:RV) (P:PV):Prop where
 u:∀ i,U i→i<c∧i≠ar∧i≠ap∧h.get i=h0.get i
 r:ar<c
 p:ap<c
 ne:ar≠ap
 hr:h.get ar=some (.cells (I6 ap lv q R) 0 false)
 hp:h.get ap=some (.cells (H7 sv fo P) 0 false)
inductive Rs where
 | ok (R:RV)
 | er (p e:Nat)
def Rs.P (P:PV):Rs->PV|.ok _=>P|.er p e=>{P with p:=p,e:=e}
def Rs.b:Rs->Bool|.ok _=>true|.er _ _=>false
structure Fin (U:Nat→Prop) (h0:Trie VObj) (sv fo:Value) (ar ap:Nat) (lv:Sl) (q c:Nat) (h:Trie VObj) (P:PV) (rs:Rs) (s:V.S):Prop where
 le:c≤s.c
 same:∀ i,i<c→i≠ar→i≠ap→s.h.get i=h.get i
 at':∃ R',At U h0 sv fo ar ap lv q s.c s.h R' (rs.P P)∧∀ R1,rs=.ok R1→R'=R1
end
end Go.Proofs.YtmomonnlmbljoaaGreatDoor
