import Derived.Test.YtmomonnlmbljoaaGreatDoorKbg
set_option maxRecDepth 1000000
set_option maxHeartbeats 4000000
set_option linter.unusedVariables false
set_option linter.unusedSimpArgs false
noncomputable section
namespace Go.Proofs.YtmomonnlmbljoaaGreatDoor
open Go.V Go.RowKit Go.Shelf Go.Proofs
variable {mL:Int}
section
attribute [local congr] y8 x9 C8 A9 C9 A7 E8 F9 F8
theorem c2j (i)(h:i<4294967296):Q0 .i64 (Int.ofNat i+Int.ofNat 2)=Int.ofNat (i+2):=a7H .i64 (i+2) (by show i+2<9223372036854775808;omega)
theorem dL (a b):decide (Int.ofNat a<Int.ofNat b)=decide (a<b):=qz.2 uk
theorem dE (a b):decide (Int.ofNat a<=Int.ofNat b)=decide (a<=b):=qz.2 tZ
def b1Y:Nat->List UInt8->Nat->Option Nat|0,_,_=>none|k+1,t,d=>match t with|b0::b1::t'=>bcase (beqBytes [b0,b1] [40,59]) ((b1Y k t' (d+1)).map (2+·)) (bcase (beqBytes [b0,b1] [59,41]) (bcase (decide (d=1)) (some 2) ((b1Y k t' (d-1)).map (2+·))) ((b1Y k (b1::t') d).map (1+·)))|_=>none
def d3S:List UInt8->Bool|[]=>false|b::_=>decide (32<=b.toNat)&& !decide (b.toNat=127)
def a2n (q:Nat):Nat->List UInt8->Nat->Nat×Nat|0,_,_=>(q,3)|k+1,t,a=>match t with|[]=>(q,3)|b::t=>bcase (decide (b.toNat<32)||decide (b.toNat=127)) (a,4) (bcase (decide (b.toNat=34)) (a+1,0) (bcase (decide (b.toNat=92)&&d3S t) (a2n q k t.tail (a+2)) (a2n q k t (a+1))))
theorem d8J (n a b):o9 D7 (n+1) 134 [a,b]=c0E o8 NN (o9 D7 n) a b:=a1H (q:=c0E) (N:=NN) zw n a b
theorem e0T (n a b):o9 D7 (n+1) 135 [a,b]=b9O o8 NN (o9 D7 n) a b:=a1H (q:=b9O) (N:=NN) zw n a b
section
variable {T:List UInt8}{c:Nat}{h:Trie VObj}
theorem e8Y (hT:T.length<1800000)(call):∀(k e a d) (t) (xs) (r w),T.drop a=t->t.length<=k->a<=T.length->d<1800000+a->(d=0->∃t',t=40::59::t')->D5 xs 26=.int .i64 (.ofNat a)->D5 xs 21=.int .i64 (.ofNat d)->l9 (go (R7 (c8V o8 NN call (.string ⟨⟨T⟩⟩)) (k+1+e) xs) ⟨c,h,r,w⟩) λy s=>s.c=c/\s.h=h/\((b1Y k t d=none/\∃xs',y=(.exit 0,xs'))\/∃n xs',b1Y k t d=some n/\n<=t.length/\y=(.ret,xs')/\D5 xs' 30=.int .i64 (.ofNat (a+n))):=by
 intro k;induction k with
  |zero=>intro e a d t xs r w hd hk ha hd9 hd0 h1 h2;have ht:t=[]:=ug.1 zy;subst ht;have hl:=a3I hd;rw[vv 0 1 e,U3];have hinc:=J2 a zy;have e0:decide (a+1<T.length)=false:=wL zy;simp(disch:=try exact dz)only[b2U,h1,h2,hinc,dL,e0,↓gP,gY];exact l9.done ⟨rfl,rfl,Or.inl ⟨rfl,_,rfl⟩⟩|succ k ih=>
   intro e a d t xs r w hd hk ha hd9 hd0 h1 h2;rw[vv (k+1) 1 e,U3];have hinc:=J2 a zy;match t,hd,hk,hd0 with
    |[],hd,hk,hd0=>have hl:=a3I hd;have e0:decide (a+1<T.length)=false:=wL zy;simp(disch:=try exact dz)only[b2U,h1,h2,hinc,dL,e0,↓gP,gY];exact l9.done ⟨rfl,rfl,Or.inl ⟨rfl,_,rfl⟩⟩|[b0],hd,hk,hd0=>obtain⟨d1,d2,d3⟩:=a5T hd;have hl:=a3I d2;have e0:decide (a+1<T.length)=false:=wL zy;simp(disch:=try exact dz)only[b2U,h1,h2,hinc,dL,e0,↓gP,gY];exact l9.done ⟨rfl,rfl,Or.inl ⟨rfl,_,rfl⟩⟩|b0::b1::t,hd,hk,hd0=>
     obtain⟨d1,d2,d3⟩:=a5T hd;obtain⟨d4,d5,d6⟩:=a5T d2;have e0:decide (a+1<T.length)=true:=wJ d6;have htw:=c2j a zy;have hsl:∀kl kh,a5H (.string ⟨⟨T⟩⟩) (some (.int kl (.ofNat a))) (some (.int kh (.ofNat (a+2))))=M.pure (.string ⟨⟨[b0,b1]⟩⟩):=λkl kh=>by
      rw[a5l ⟨⟨T⟩⟩ kl kh a (a+2) zy (by rw[G8];show a+2<=T.length;omega),uE];have e1:G7 T a=b0::b1::t:=by rw[a0z];exact hd
      show M.pure (Value.string ⟨⟨a0B (G7 T a) 2⟩⟩)=_;rw[e1,a2w];rfl
     simp only[wE]at hk;unfold b1Y;cases q1:beqBytes [b0,b1] [40,59]with
      |true=>have hdi:=J2 d zy;have e1:decide (d+1=0)=false:=wL zy;simp(disch:=try exact dz)only[b2U,h1,h2,hinc,htw,hsl,dL,di,e0,q1,hdi,↓gP,gY,gT,Nat.reduceEqDiff];refine(ih e (a+2) (d+1) t _ _ _ d5 zy zy zy zy rfl rfl).mono ?_;rintro y s ⟨f1,f2,⟨f3,f4⟩|⟨n,xs',f3,f4,f5,f6⟩⟩;exact⟨f1,f2,Or.inl ⟨by rw[f3];rfl,f4⟩⟩;exact⟨f1,f2,Or.inr ⟨2+n,xs',by rw[f3];rfl,zl,f5,by rw[f6,ru]⟩⟩|false=>
       have hd1:d≠0:=λe=>by obtain⟨t',ht'⟩:=hd0 e;cases ht';cases q1
       cases q2:beqBytes [b0,b1] [59,41]with
        |true=>obtain⟨d,rfl⟩:∃j,d=j+1:=⟨d-1,zy⟩;have hdd:=a2v d zy;cases q3:decide (d=0)with|true=>have q4:decide (d+1=1)=true:=wJ (by have:=vS q3;omega);simp(disch:=try exact dz)only[b2U,h1,h2,hinc,htw,hsl,dL,di,e0,q1,q2,hdd,q3,↓gP,gY,Nat.reduceEqDiff];refine l9.done ⟨rfl,rfl,Or.inr ⟨2,_,?_,zq,rfl,rfl⟩⟩;rfl|false=>have q5:d≠0:=uP q3;have q4:decide (d+1=1)=false:=wL zy;simp(disch:=try exact dz)only[b2U,h1,h2,hinc,htw,hsl,dL,di,e0,q1,q2,hdd,q3,↓gP,gY,Nat.reduceEqDiff];refine(ih e (a+2) d t _ _ _ d5 zy zy zy zy rfl rfl).mono ?_;rw[Nat.add_sub_cancel];rintro y s ⟨f1,f2,⟨f3,f4⟩|⟨n,xs',f3,f4,f5,f6⟩⟩;exact⟨f1,f2,Or.inl ⟨by rw[f3];rfl,f4⟩⟩;exact⟨f1,f2,Or.inr ⟨2+n,xs',by rw[f3];rfl,zl,f5,by rw[f6,ru]⟩⟩
        |false=>have q3:decide (d=0)=false:=wL hd1;simp(disch:=try exact dz)only[b2U,h1,h2,hinc,htw,hsl,dL,di,e0,q1,q2,q3,↓gP,gY];refine(ih e (a+1) d (b1::t) _ _ _ d2 zl zy zy (λe=>absurd e hd1) rfl rfl).mono ?_;rintro y s ⟨f1,f2,⟨f3,f4⟩|⟨n,xs',f3,f4,f5,f6⟩⟩;exact⟨f1,f2,Or.inl ⟨by rw[f3];rfl,f4⟩⟩;exact⟨f1,f2,Or.inr ⟨1+n,xs',by rw[f3];rfl,by simp at f4⊢;omega,f5,by rw[f6,ru]⟩⟩
theorem f1l (hT:T.length<1800000)(call q):∀(k e a) (t) (xs) (r w),T.drop a=t->t.length<=k->a<=T.length->D5 xs 48=.int .i64 (.ofNat a)->l9 (go (R7 (b8a o8 NN call (.string ⟨⟨T⟩⟩)) (k+1+e) xs) ⟨c,h,r,w⟩) λy s=>s.c=c/\s.h=h/\((a2n q (k+1) t a=(q,3)/\∃xs',y=(.exit 0,xs'))\/∃xs',y=(.ret,xs')/\D5 xs' 19=.int .i64 (.ofNat (a2n q (k+1) t a).1)/\D5 xs' 20=.int .i64 (.ofNat (a2n q (k+1) t a).2)/\((a2n q (k+1) t a).2=0->a<(a2n q (k+1) t a).1/\(a2n q (k+1) t a).1<=T.length)):=by
 intro k;induction k with
  |zero=>intro e a t xs r w hd hk ha h1;have ht:t=[]:=ug.1 zy;subst ht;have hl:=a3I hd;rw[vv 0 1 e,U3];have e0:decide (a<T.length)=false:=wL zy;simp(disch:=try exact dz)only[a9b,h1,dL,e0,↓gP,gY];exact l9.done ⟨rfl,rfl,Or.inl ⟨rfl,_,rfl⟩⟩|succ k ih=>
   intro e a t xs r w hd hk ha h1;rw[vv (k+1) 1 e,U3];cases t with
    |nil=>have hl:=a3I hd;have e0:decide (a<T.length)=false:=wL zy;simp(disch:=try exact dz)only[a9b,h1,dL,e0,↓gP,gY];exact l9.done ⟨rfl,rfl,Or.inl ⟨rfl,_,rfl⟩⟩|cons b t=>
     obtain⟨d1,d2,d3⟩:=a5T hd;have e0:decide (a<T.length)=true:=wJ d3;have hx:=a1L ⟨⟨T⟩⟩ a b d1;have hinc:=J2 a zy;simp only[wE]at hk;have eS:a2n q (k+1+1) (b::t) a=bcase (decide (b.toNat<32)||decide (b.toNat=127)) (a,4) (bcase (decide (b.toNat=34)) (a+1,0) (bcase (decide (b.toNat=92)&&d3S t) (a2n q (k+1) t.tail (a+2)) (a2n q (k+1) t (a+1)))):=rfl;rw[eS];have tl:∀{t':List UInt8} {a':Nat} {xs'':List Value} {r' w':List Nat},T.drop a'=t'->t'.length<=k->a<a'->a'<=T.length->D5 xs'' 48=.int .i64 (.ofNat a')->l9 (go (R7 (b8a o8 NN call (.string ⟨⟨T⟩⟩)) (k+1+e) xs'') ⟨c,h,r',w'⟩) λy s=>s.c=c/\s.h=h/\((a2n q (k+1) t' a'=(q,3)/\∃xs',y=(.exit 0,xs'))\/∃xs',y=(.ret,xs')/\D5 xs' 19=.int .i64 (.ofNat (a2n q (k+1) t' a').1)/\D5 xs' 20=.int .i64 (.ofNat (a2n q (k+1) t' a').2)/\((a2n q (k+1) t' a').2=0->a<(a2n q (k+1) t' a').1/\(a2n q (k+1) t' a').1<=T.length)):=λ{t' a' xs'' r' w'} u1 u2 u3 u4 u5=>by refine(ih e a' t' xs'' r' w' u1 u2 u4 u5).mono ?_;rintro y s ⟨f1,f2,f3|⟨xs',f3,f4,f5,f6⟩⟩;exact⟨f1,f2,Or.inl f3⟩;exact⟨f1,f2,Or.inr ⟨xs',f3,f4,f5,λh=>⟨sG u3 (f6 h).1,(f6 h).2⟩⟩⟩
     cases q1:decide (b.toNat<32)||decide (b.toNat=127)with
      |true=>cases q2:decide (b.toNat<32)with|true=>simp(disch:=try exact dz)only[a9b,h1,dL,di,e0,hx,q2,↓gP,gY,gT,Nat.reduceEqDiff];exact l9.done ⟨rfl,rfl,Or.inr ⟨_,rfl,rfl,rfl,λh=>zg⟩⟩|false=>rw[q2,vE]at q1;simp(disch:=try exact dz)only[a9b,h1,dL,di,e0,hx,q2,q1,↓gP,gY,gT,Nat.reduceEqDiff];exact l9.done ⟨rfl,rfl,Or.inr ⟨_,rfl,rfl,rfl,λh=>zg⟩⟩
      |false=>rw[sJ]at q1;obtain⟨q1,q2⟩:=q1;rw[A8];cases q3:decide (b.toNat=34)with|true=>simp(disch:=try exact dz)only[a9b,h1,dL,di,e0,hx,q1,q2,q3,hinc,↓gP,gY,gT];exact l9.done ⟨rfl,rfl,Or.inr ⟨_,rfl,rfl,rfl,λ_=>⟨wG a,d3⟩⟩⟩|false=>rw[A8];cases q4:decide (b.toNat=92)with|false=>simp(disch:=try exact dz)only[a9b,h1,dL,di,e0,hx,q1,q2,q3,q4,hinc,↓gP,gY,gT];exact tl d2 zy (wG a) zy rfl|true=>cases t with|nil=>have hl:=a3I d2;have e1:decide (a+1<T.length)=false:=wL zy;simp(disch:=try exact dz)only[a9b,h1,dL,di,e0,e1,hx,q1,q2,q3,q4,hinc,↓gP,gY,gT];exact tl d2 zy (wG a) zy rfl|cons b1 t1=>obtain⟨d4,d5,d6⟩:=a5T d2;have e1:decide (a+1<T.length)=true:=wJ d6;have hx1:=a1L ⟨⟨T⟩⟩ (a+1) b1 d4;have hinc1:=J2 (a+1) zy;simp only[wE]at hk;have eE:d3S (b1::t1)=(decide (32<=b1.toNat)&& !decide (b1.toNat=127)):=rfl;rw[eE];cases q5:decide (32<=b1.toNat)with|false=>simp(disch:=try exact dz)only[a9b,h1,dL,dE,di,e0,e1,hx,hx1,q1,q2,q3,q4,q5,hinc,↓gP,gY,gT];exact tl d2 zl (wG a) zy rfl|true=>cases q6:decide (b1.toNat=127)with|true=>simp(disch:=try exact dz)only[a9b,h1,dL,dE,di,e0,e1,hx,hx1,q1,q2,q3,q4,q5,q6,hinc,↓gP,gY,gT];exact tl d2 zl (wG a) zy rfl|false=>simp(disch:=try exact dz)only[a9b,h1,dL,dE,di,e0,e1,hx,hx1,q1,q2,q3,q4,q5,q6,hinc,hinc1,↓gP,gY,gT];exact tl d5 (by show t1.length<=k;omega) zy zy rfl
end
def c1i (a:Nat):Option Nat->Value|none=>.int .i64 (.negSucc 0)|some n=>.int .i64 (.ofNat (a+n))
def nlB (b:Nat):Bool:=!decide (b=10)
def wsB (b:Nat):Bool:=decide (b=32)||(decide (b=9)||(decide (b=10)||decide (b=13)))
def a7X:List UInt8->Option Nat|[]=>some 0|b::t=>bcase (wsB b.toNat) (some 1) (match t with|[]=>some 0|b1::t1=>bcase (beqBytes [b,b1] [59,59]) (some (a1q nlB (b::b1::t1))) (bcase (beqBytes [b,b1] [40,59]) (b1Y (t1.length+2) (b::b1::t1) 0) (some 0)))
inductive Tk where
 | ok (k:Nat) (W:List UInt8) (e:Nat)
 | er (p e:Nat)
def a6I (a:Nat):List UInt8->Tk|[]=>.er a 4|b::t=>bcase (decide (b.toNat=40)) (.ok 0 [] (a+1)) (bcase (decide (b.toNat=41)) (.ok 1 [] (a+1)) (bcase (decide (b.toNat=34)) (bcase (decide ((a2n a (t.length+1) t (a+1)).2=0)) (.ok 3 (t.take ((a2n a (t.length+1) t (a+1)).1-1-(a+1))) (a2n a (t.length+1) t (a+1)).1) (.er (a2n a (t.length+1) t (a+1)).1 (a2n a (t.length+1) t (a+1)).2)) (bcase (decide (a1q sgN (b::t)=0)) (.er a 4) (.ok 2 ((b::t).take (a1q sgN (b::t))) (a+a1q sgN (b::t))))))
theorem c3B (p):∀t,a1q p t<=t.length:=by intro t;induction t with|nil=>exact wP _|cons b t ih=>unfold a1q;cases p b.toNat with|true=>exact Nat.succ_le_succ ih|false=>exact vH _
theorem e3s (n a b):o9 D7 (n+1) 104 [a,b]=c0t o8 NN (o9 D7 n) a b:=a1H (q:=c0t) (N:=NN) zw n a b
theorem e0Z (n a b):o9 D7 (n+1) 105 [a,b]=c0q o8 NN (o9 D7 n) a b:=a1H (q:=c0q) (N:=NN) zw n a b
theorem d0b (n)(b:UInt8):o9 D7 (n+1) 136 [.int .u8 (.ofNat b.toNat)]=M.pure (.ret (.bool (sgN b.toNat))):=a1h (q:=a5p qSg) zw n (b5l qSg b)
section
variable {T:List UInt8}{c:Nat}{h:Trie VObj}
theorem e9O (hT:T.length<1800000)(m){a t1}(hd:T.drop a=40::59::t1)(r w):l9 (go (o9 D7 (m+1) 134 [.string ⟨⟨T⟩⟩,.int .i64 (.ofNat a)]) ⟨c,h,r,w⟩) λx s=>s.c=c/\s.h=h/\x=.ret (c1i a (b1Y (t1.length+2) (40::59::t1) 0))/\∀n,b1Y (t1.length+2) (40::59::t1) 0=some n->a+n<=T.length:=by rw[d8J];obtain⟨d1,d2,d3⟩:=a5T hd;have hNN:1800002<=NN:=zu;have hlen:=vw List.length hd;simp only[uw,wE]at hlen;obtain⟨e,hNe⟩:∃e,NN=(t1.length+2)+1+e:=⟨NN-((t1.length+2)+1),zy⟩;simp(disch:=try exact dz)only[f0O,↓gP];have hloop:=e8Y (c:=c) (h:=h) hT (o9 D7 m) (t1.length+2) e a 0 (40::59::t1) [undef,undef,undef,undef,undef,undef,undef,undef,undef,undef,undef,undef,undef,undef,undef,undef,undef,undef,undef,undef,undef,.int .i64 (.ofNat 0),undef,undef,undef,undef,.int .i64 (.ofNat a),undef,undef,undef,.int .i64 (.ofNat 0)] r w hd zq zy zy (λ_=>⟨_,rfl⟩) rfl rfl;rw[<-hNe]at hloop;refine l9.bindJ hloop λy xs' s hq=>?_;obtain⟨c',h',r',w'⟩:=s;obtain⟨f1,f2,⟨f3,xs1,f4⟩|⟨n,xs1,f3,f4,f5,f6⟩⟩:=hq;cases f4;rw[f3];simp(disch:=try exact dz)only[a3A,↓gP,gY];exact l9.done ⟨f1,f2,rfl,λn h=>zg⟩;cases f5;rw[f3];simp(disch:=try exact dz)only[f6,↓gP,gY];exact l9.done ⟨f1,f2,rfl,λn' h=>by cases h;simp only[wE]at f4;omega⟩
theorem f1i (hT:T.length<1800000)(m){a t}(hd:T.drop (a+1)=t)(ha:a<T.length)(r w):l9 (go (o9 D7 (m+1) 135 [.string ⟨⟨T⟩⟩,.int .i64 (.ofNat a)]) ⟨c,h,r,w⟩) λx s=>s.c=c/\s.h=h/\x=.ret (.tuple ⟨[.int .i64 (.ofNat (a2n a (t.length+1) t (a+1)).1),.int .i64 (.ofNat (a2n a (t.length+1) t (a+1)).2)]⟩)/\((a2n a (t.length+1) t (a+1)).2=0->a+1<(a2n a (t.length+1) t (a+1)).1/\(a2n a (t.length+1) t (a+1)).1<=T.length):=by rw[e0T];have hNN:1800002<=NN:=zu;have hlen:=vw List.length hd;simp only[uw]at hlen;obtain⟨e,hNe⟩:∃e,NN=t.length+1+e:=⟨NN-(t.length+1),zy⟩;have hinc:=J2 a zy;simp(disch:=try exact dz)only[f0u,hinc,↓gP,gY];have hloop:=f1l (c:=c) (h:=h) hT (o9 D7 m) a t.length e (a+1) t [undef,undef,undef,undef,undef,undef,undef,undef,undef,undef,undef,undef,undef,undef,undef,undef,undef,undef,undef,.int .i64 (.ofNat 0),.int .i64 (.ofNat 0),undef,undef,undef,undef,undef,undef,undef,undef,undef,undef,undef,undef,undef,undef,undef,undef,undef,undef,undef,undef,undef,undef,undef,undef,undef,undef,undef,.int .i64 (.ofNat (a+1))] r w hd (wP _) zy rfl;rw[<-hNe]at hloop;refine l9.bindJ hloop λy xs' s hq=>?_;obtain⟨c',h',r',w'⟩:=s;obtain⟨f1,f2,⟨f3,xs1,f4⟩|⟨xs1,f3,f4,f5,f6⟩⟩:=hq;cases f4;rw[f3];simp(disch:=try exact dz)only[a3A,↓gP,gY,Nat.reduceEqDiff];exact l9.done ⟨f1,f2,rfl,λh=>zg⟩;cases f3;simp(disch:=try exact dz)only[f4,f5,↓gP,gY];exact l9.done ⟨f1,f2,rfl,f6⟩
theorem f0c (hT:T.length<1800000)(m){a b t}(hd:T.drop a=b::t)(r w):l9 (go (o9 D7 (m+2) 104 [.string ⟨⟨T⟩⟩,.int .i64 (.ofNat a)]) ⟨c,h,r,w⟩) λx s=>s.c=c/\s.h=h/\x=.ret (c1i a (a7X (b::t)))/\∀n,a7X (b::t)=some n->a+n<=T.length:=by
 rw[e3s];obtain⟨d1,d2,d3⟩:=a5T hd;have hx:=a1L ⟨⟨T⟩⟩ a b d1;have hinc:=J2 a zy;have htw:=c2j a zy;have one:∀n,some 1=some n->a+n<=T.length:=λn h=>by cases h;omega
 have zero:∀n,some 0=some n->a+n<=T.length:=λn h=>by cases h;omega
 unfold a7X wsB;cases q1:decide (b.toNat=32)with
  |true=>simp(disch:=try exact dz)only[b3L,hx,hinc,di,q1,↓gP,gY,gT];exact l9.done ⟨rfl,rfl,rfl,one⟩|false=>
   cases q2:decide (b.toNat=9)with
    |true=>simp(disch:=try exact dz)only[b3L,hx,hinc,di,q1,q2,↓gP,gY,gT];exact l9.done ⟨rfl,rfl,rfl,one⟩|false=>
     cases q3:decide (b.toNat=10)with
      |true=>simp(disch:=try exact dz)only[b3L,hx,hinc,di,q1,q2,q3,↓gP,gY,gT];exact l9.done ⟨rfl,rfl,rfl,one⟩|false=>
       cases q4:decide (b.toNat=13)with
        |true=>simp(disch:=try exact dz)only[b3L,hx,hinc,di,q1,q2,q3,q4,↓gP,gY,gT];exact l9.done ⟨rfl,rfl,rfl,one⟩|false=>
         cases t with
          |nil=>have hl:=a3I d2;have e1:decide (a+1<T.length)=false:=wL zy;simp(disch:=try exact dz)only[b3L,hx,hinc,di,dL,q1,q2,q3,q4,e1,↓gP,gY,gT];exact l9.done ⟨rfl,rfl,rfl,zero⟩|cons b1 t1=>
           obtain⟨d4,d5,d6⟩:=a5T d2;have e1:decide (a+1<T.length)=true:=wJ d6;have hsl:∀kl kh,a5H (.string ⟨⟨T⟩⟩) (some (.int kl (.ofNat a))) (some (.int kh (.ofNat (a+2))))=M.pure (.string ⟨⟨[b,b1]⟩⟩):=λkl kh=>by
            rw[a5l ⟨⟨T⟩⟩ kl kh a (a+2) zy (by rw[G8];show a+2<=T.length;omega),uE];have e1:G7 T a=b::b1::t1:=by rw[a0z];exact hd
            show M.pure (Value.string ⟨⟨a0B (G7 T a) 2⟩⟩)=_;rw[e1,a2w];rfl
           cases q5:beqBytes [b,b1] [59,59]with|true=>simp(disch:=try exact dz)only[b3L,hx,hinc,htw,hsl,di,dL,q1,q2,q3,q4,e1,q5,↓gP,gY,gT];refine l9.bindC (e8H hT m zy _ _) λx s hq=>?_;obtain⟨f1,f2,rfl⟩:=hq;obtain⟨c',h',r',w'⟩:=s;simp(disch:=try exact dz)only[gY];refine l9.done ⟨f1,f2,?_,λn h=>?_⟩;rw[hd];rfl;cases h;have h7:=c3B nlB (b::b1::t1);have hlen:=vw List.length hd;simp only[uw,wE]at hlen h7;omega|false=>cases q6:beqBytes [b,b1] [40,59]with|true=>have hb:=a5f q6;cases hb;simp(disch:=try exact dz)only[b3L,hx,hinc,htw,hsl,di,dL,q1,q2,q3,q4,e1,q5,q6,↓gP,gY,gT];refine l9.bindC (e9O hT m hd _ _) λx s hq=>?_;obtain⟨f1,f2,rfl,f4⟩:=hq;obtain⟨c',h',r',w'⟩:=s;simp(disch:=try exact dz)only[gY];exact l9.done ⟨f1,f2,rfl,f4⟩|false=>simp(disch:=try exact dz)only[b3L,hx,hinc,htw,hsl,di,dL,q1,q2,q3,q4,e1,q5,q6,↓gP,gY,gT];exact l9.done ⟨rfl,rfl,rfl,zero⟩
end
section
variable {T:List UInt8}{c:Nat}{h:Trie VObj}
theorem e9P (hT:T.length<1800000)(m):∀(t) (a k) (xs) (c) (h) (r w),T.drop a=t->t.length<k->a<=T.length->D5 xs 12=.int .i64 (.ofNat a)->l9 (go (R7 (c9Y o8 NN (o9 D7 (m+1)) (.string ⟨⟨T⟩⟩)) k xs) ⟨c,h,r,w⟩) λy s=>s.c=c/\s.h=h/\∃xs',y=(.exit 0,xs')/\D5 xs' 12=.int .i64 (.ofNat (a+a1q sgN t)):=by
 intro t;induction t with
  |nil=>intro a k xs c h r w hd hk ha h1;obtain⟨k,rfl⟩:∃m,k=m+1:=⟨k-1,zT⟩;have hl:=a3I hd;have e0:decide (a<T.length)=false:=wL zy;rw[U3];simp(disch:=try exact dz)only[c6V,h1,dL,e0,↓gP,gY];exact l9.done ⟨rfl,rfl,_,rfl,rfl⟩|cons b t ih=>
   intro a k xs c h r w hd hk ha h1;obtain⟨k,rfl⟩:∃m,k=m+1:=⟨k-1,zT⟩;obtain⟨d1,d2,d3⟩:=a5T hd;have e0:decide (a<T.length)=true:=wJ d3;have hx:=a1L ⟨⟨T⟩⟩ a b d1;have hinc:=J2 a zy;rw[U3];cases q:sgN b.toNat with
    |false=>simp(disch:=try exact dz)only[c6V,h1,dL,e0,hx,d0b,q,↓gP,gY];refine l9.done ⟨rfl,rfl,_,rfl,?_⟩;unfold a1q;rw[q];rfl|true=>
     simp(disch:=try exact dz)only[c6V,h1,dL,e0,hx,d0b,q,hinc,↓gP,gY];refine(ih (a+1) k _ c h _ _ d2 zT zy rfl).mono ?_;rintro y s ⟨f1,f2,xs',f3,f4⟩;refine⟨f1,f2,xs',f3,?_⟩;rw[f4];conv=>rhs;unfold a1q
     rw[q];show _=Value.int .i64 (.ofNat (a+(a1q _ t+1)));rw[ru,Nat.add_comm 1]
def tkV (a:Nat):Tk->List Value|.ok k W e=>[.agg ⟨[.int .i64 (.ofNat k),.int .i64 (.ofNat a),.string ⟨⟨W⟩⟩]⟩,.int .i64 (.ofNat e),.int .i64 (.ofNat 0)]|.er p e=>[.agg ⟨[.int .i64 (.ofNat 0),.int .i64 (.ofNat 0),.string ⟨⟨[]⟩⟩]⟩,.int .i64 (.ofNat p),.int .i64 (.ofNat e)]
def Tk.fine (a n:Nat):Tk->Prop|.ok k W e=>a<e/\e<=n/\k<4|.er _ e=>e≠0
theorem e9K (hT:T.length<1800000)(m){a b t}(hd:T.drop a=b::t)(r w):l9 (go (o9 D7 (m+2) 105 [.string ⟨⟨T⟩⟩,.int .i64 (.ofNat a)]) ⟨c,h,r,w⟩) λx s=>c<=s.c/\(∀i,i<c->s.h.get i=h.get i)/\x=.ret (.tuple ⟨tkV a (a6I a (b::t))⟩)/\(a6I a (b::t)).fine a T.length:=by
 rw[e0Z];obtain⟨d1,d2,d3⟩:=a5T hd;have hx:=a1L ⟨⟨T⟩⟩ a b d1;have hinc:=J2 a zy;have hlen:=vw List.length hd;simp only[uw,wE]at hlen;unfold a6I;cases q1:decide (b.toNat=40)with
  |true=>simp(disch:=try exact dz)only[c8i,hx,hinc,di,q1,↓gP,gY];refine l9.done ⟨vo c,λi hi=>?_,rfl,wG a,d3,zu⟩;have k1:i≠c:=zy;simp(disch:=try exact wQ)only[d9]|false=>
   cases q2:decide (b.toNat=41)with
    |true=>simp(disch:=try exact dz)only[c8i,hx,hinc,di,q1,q2,↓gP,gY];refine l9.done ⟨vo c,λi hi=>?_,rfl,wG a,d3,zu⟩;have k1:i≠c:=zy;simp(disch:=try exact wQ)only[d9]|false=>
     cases q3:decide (b.toNat=34)with
      |true=>
       simp(disch:=try exact dz)only[c8i,hx,hinc,di,q1,q2,q3,↓gP,gY];refine l9.bindC (f1i hT m d2 d3 _ _) λx s hq=>?_;obtain⟨f1,f2,rfl,f4⟩:=hq;obtain⟨c',h',r',w'⟩:=s;simp only at f1 f2;subst f1;subst f2;cases q4:decide ((a2n a (t.length+1) t (a+1)).2=0)with
        |true=>
         have q5:=vS q4;obtain⟨f5,f6⟩:=f4 q5;obtain⟨z,hz⟩:∃z,(a2n a (t.length+1) t (a+1)).1=z+1:=⟨(a2n a (t.length+1) t (a+1)).1-1,zy⟩;have hdec:=a2v z zy;have hsl:∀kl kh,a5H (.string ⟨⟨T⟩⟩) (some (.int kl (.ofNat (a+1)))) (some (.int kh (.ofNat z)))=M.pure (.string ⟨⟨t.take (z-(a+1))⟩⟩):=λkl kh=>by
          rw[a5l ⟨⟨T⟩⟩ kl kh (a+1) z zy (by rw[G8];show z<=T.length;omega)];have e1:G7 T (a+1)=t:=by rw[a0z];exact d2
          show M.pure (Value.string ⟨⟨a0B (G7 T (a+1)) (z-(a+1))⟩⟩)=_;rw[e1,a2w]
         simp(disch:=try exact dz)only[q5,hz,hdec,hsl,↓gP,gY,gT];refine l9.done ⟨vo c,λi hi=>?_,?_,?_⟩;have k1:i≠c:=zy;simp(disch:=try exact wQ)only[d9];rfl;exact⟨zy,zy,zu⟩|false=>have q5:=uP q4;simp(disch:=try exact dz)only[di,q4,↓gP,gY,gT];refine l9.done ⟨vo c,λi hi=>?_,rfl,q5⟩;have k1:i≠c:=zy;simp(disch:=try exact wQ)only[d9]
      |false=>
       have hNN:1800002<=NN:=zu;simp(disch:=try exact dz)only[c8i,hx,hinc,di,q1,q2,q3,↓gP,gY];refine l9.bindJ (e9P hT m (b::t) a NN _ _ _ _ _ hd (by simp only[wE];omega) zy rfl) λy xs' s hq=>?_;obtain⟨c',h',r',w'⟩:=s;obtain⟨f1,f2,xs1,f3,f4⟩:=hq;cases f3;simp only at f1 f2;subst f1;subst f2;have h7:=c3B sgN (b::t);simp only[wE]at h7;cases q4:decide (a1q sgN (b::t)=0)with
        |true=>have q5:decide (a+a1q sgN (b::t)=a)=true:=wJ (by have:=vS q4;omega);simp(disch:=try exact dz)only[f4,di,q5,a3A,↓gP,gY];refine l9.done ⟨vo c,λi hi=>?_,rfl,by show 4≠0;decide⟩;have k1:i≠c:=zy;simp(disch:=try exact wQ)only[d9]|false=>
         have q6:=uP q4;have q5:decide (a+a1q sgN (b::t)=a)=false:=wL zy;have hsl:∀kl kh,a5H (.string ⟨⟨T⟩⟩) (some (.int kl (.ofNat a))) (some (.int kh (.ofNat (a+a1q sgN (b::t)))))=M.pure (.string ⟨⟨(b::t).take (a1q sgN (b::t))⟩⟩):=λkl kh=>by
          rw[a5l ⟨⟨T⟩⟩ kl kh a (a+a1q sgN (b::t)) zy (by rw[G8];show a+a1q sgN (b::t)<=T.length;omega),uE];have e1:G7 T a=b::t:=by rw[a0z];exact hd
          show M.pure (Value.string ⟨⟨a0B (G7 T a) (a1q sgN (b::t))⟩⟩)=_;rw[e1,a2w]
         simp(disch:=try exact dz)only[f4,di,q5,a3A,hsl,↓gP,gY];refine l9.done ⟨vo c,λi hi=>?_,rfl,?_⟩;have k1:i≠c:=zy;simp(disch:=try exact wQ)only[d9];exact⟨zy,zy,zu⟩
end
theorem d6L:b6g.size=3:=zw
theorem d7E:Nat.blt b6g.bytes 4096=true:=zw
structure Tok where
 k:Nat
 p:Nat
 t:List UInt8
def b5G (x:Tok):List Value:=[.int .i64 (.ofNat x.k),.int .i64 (.ofNat x.p),.string ⟨⟨x.t⟩⟩]
inductive Lx where
 | ok (l:List Tok)
 | er (p e:Nat)
def a6b (T:List UInt8):Nat->Nat->List Tok->Lx|0,_,_=>.er 0 1|k+1,a,l=>match T.drop a with|[]=>.ok (l++[⟨4,T.length,[]⟩])|b::t=>match a7X (b::t)with|none=>.er a 3|some (n+1)=>a6b T k (a+(n+1)) l|some 0=>match a6I a (b::t)with|.er p e=>.er p e|.ok q W e=>a6b T k e (l++[⟨q,a,W⟩])
theorem b8K:∀bs:List Tok,(bs.flatMap b5G).length=bs.length*3:=yI
theorem e5r (n a):o9 D7 (n+1) 64 [a]=c5O o8 NN (o9 D7 n) a:=Y7 (q:=c5O) (N:=NN) zw n a
structure LI (c0:Nat) (h0:Trie VObj) (c:Nat) (h:Trie VObj) (u:Sl) (l:List Tok):Prop where
 le:c0≤c
 fr:∀ i,i<c0→h.get i=h0.get i
 g:U4 3 c h u (l.flatMap b5G)
 o:∀ i,u.own i→c0≤i
theorem LI.n {c0 c h0 h u l}(H:LI c0 h0 c h u l):u.n=l.length:=by have:=H.g.1;rw[b8K]at this;omega
theorem LI.app {β c0 c h0 h u l x b}{f:Value->M β}{Q r w}(H:LI c0 h0 c h u l)(hl:l.length<2000000)(b2:b<c)(hb:h.get b=some (.cells [(.int .i64 (.ofNat x.k),0),(.int .i64 (.ofNat x.p),0),(.string ⟨⟨x.t⟩⟩,0)] 0 false))(k:∀(u') (c') (h') (r' w'),LI c0 h0 c' h' u' (l++[x])->l9 (go (f (.slice u'.a u'.n u'.e)) ⟨c',h',r',w'⟩) Q):l9 (R6 (go (a4c b6g (.slice u.a u.n u.e) (.slice (some ⟨b,0,some 0⟩) 1 3)) ⟨c,h,r,w⟩) f) Q:=by have hn:=H.n;refine l9.bindS (a1R (x:=⟨some ⟨b,0,some 0⟩,1,3⟩) (xs:=b5G x) d6L zu d7E H.g ⟨rfl,Or.inr ⟨b,0,0,_,0,false,rfl,rfl,b2,hb,rfl⟩⟩ rfl zo r w) λy s hq=>?_;obtain⟨c',h',r',w'⟩:=s;obtain⟨u',rfl,hn',hg,hc,hs1,hown,hww⟩:=hq;have hc:c<=c':=hc;have le:=H.le;refine k u' c' h' r' w' ⟨zy,λi hi=>?_,?_,λi hi=>?_⟩;exact(hs1 i zy λho=>by have:=H.o i ho;omega).trans (H.fr i hi);rw[uL,sV];exact hg;rcases uj i c with k1|k1;exact H.o i (hown i k1 hi);omega
theorem LI.to {c0 c h0 h u l}(H:LI c0 h0 c h u l){c' h'}(hc:c<=c')(hs:∀i,i<c->h'.get i=h.get i):LI c0 h0 c' h' u l:=⟨vR H.le hc,λi hi=>(hs i (wD hi H.le)).trans (H.fr i hi),H.g.mono hc λb k _=>hs b k,H.o⟩
section
variable {T:List UInt8}{c0:Nat}{h0:Trie VObj}
def f0E (c0:Nat)(h0:Trie VObj)(T:List UInt8)(lx:Lx)(y:Xc×List Value)(s:V.S):Prop:=(∃xs' u l,y=(.exit 0,xs')/\D5 xs' 36=.slice u.a u.n u.e/\LI c0 h0 s.c s.h u l/\l.length<=T.length/\lx=.ok (l++[⟨4,T.length,[]⟩]))\/(∃xs' p e,y=(.ret,xs')/\D5 xs' 29=.slice none 0 0/\D5 xs' 30=.int .i64 (.ofNat p)/\D5 xs' 31=.int .i64 (.ofNat e)/\c0<=s.c/\(∀i,i<c0->s.h.get i=h0.get i)/\lx=.er p e/\e≠0)
theorem n64 (hT:T.length<1800000)(m):∀(k e a) (c) (h) (u) (l) (xs) (r w),T.length-a<k->a<=T.length->l.length<=a->LI c0 h0 c h u l->D5 xs 38=.int .i64 (.ofNat a)->D5 xs 36=.slice u.a u.n u.e->l9 (go (R7 (d5n o8 NN (o9 D7 (m+2)) (.string ⟨⟨T⟩⟩)) (k+e) xs) ⟨c,h,r,w⟩) (f0E c0 h0 T (a6b T k a l)):=by
 intro k;induction k with
  |zero=>omega|succ k ih=>
   intro e a c h u l xs r w hk ha hla H h1 h2;rw[vv k 1 e,U3];cases hd:T.drop a with
    |nil=>
     have hl:=a3I hd;have e0:decide (a<T.length)=false:=wL zy;have eS:a6b T (k+1) a l=.ok (l++[⟨4,T.length,[]⟩]):=by show(match T.drop a with|[]=>_|b::t=>_)=_;rw[hd]
     rw[eS];simp(disch:=try exact dz)only[e0q,h1,h2,dL,e0,↓gP,gY];exact l9.done (Or.inl ⟨_,u,l,rfl,rfl,H,zy,rfl⟩)|cons b t=>
     obtain⟨d1,d2,d3⟩:=a5T hd;have e0:decide (a<T.length)=true:=wJ d3;have eS:a6b T (k+1) a l=(match a7X (b::t)with|none=>.er a 3|some (n+1)=>a6b T k (a+(n+1)) l|some 0=>match a6I a (b::t)with|.er p e=>.er p e|.ok q W e=>a6b T k e (l++[⟨q,a,W⟩])):=by show(match T.drop a with|[]=>_|b::t=>_)=_;rw[hd]
     rw[eS];simp(disch:=try exact dz)only[e0q,h1,h2,dL,e0,↓gP,gY];refine l9.bindC (f0c hT m hd _ _) λx s hq=>?_;obtain⟨c1,h1',r1,w1⟩:=s;obtain⟨f1,f2,rfl,f4⟩:=hq;simp only at f1 f2;subst f1;subst f2;cases q1:a7X (b::t)with
      |none=>have e1:decide (Int.negSucc 0<Int.ofNat 0)=true:=wH rfl rfl;simp(disch:=try exact dz)only[c1i,e1,↓gP,gY];exact l9.done (Or.inr ⟨_,a,3,rfl,rfl,rfl,rfl,H.le,H.fr,rfl,zu⟩)|some n=>
       have hn:=f4 n q1;have e1:∀z:Nat,decide (Int.ofNat z<Int.ofNat 0)=false:=λz=>wL (λh=>zN);cases n with
        |succ n=>have e2:decide (a<a+(n+1))=true:=wJ zy;simp(disch:=try exact dz)only[c1i,e1,dL,e2,↓gP,gY];exact ih e (a+(n+1)) c1 h1' u l _ _ _ zy hn zy H rfl rfl|zero=>
         have e2:decide (a<a)=false:=wL (uW a);simp(disch:=try exact dz)only[c1i,vC,e1,dL,e2,↓gP,gY];refine l9.bindC (e9K hT m hd _ _) λx s hq=>?_;obtain⟨c2,h2',r2,w2⟩:=s;obtain⟨g1,g2,rfl,g4⟩:=hq;have g1:c1<=c2:=g1;have H2:=H.to g1 g2;cases q2:a6I a (b::t)with
          |er p e'=>
           rw[q2]at g4;have q3:decide (e'=0)=false:=wL g4;simp(disch:=try exact dz)only[tkV,di,q3,↓gP,gY,gT];refine l9.done (Or.inr ⟨_,p,e',rfl,rfl,rfl,rfl,?_,λi hi=>?_,rfl,g4⟩);have:=H2.le;grind;have k1:i≠c2:=by have:=H2.le;omega
           simp(disch:=try exact wQ)only[d9];exact H2.fr i hi|ok q W e'=>rw[q2]at g4;obtain⟨g5,g6,g7⟩:=g4;simp(disch:=try exact dz)only[tkV,↓gP,gY,gT];refine LI.app (x:=⟨q,a,W⟩) (H2.to zy λi hi=>?_) zy (wG _) (o7 _ _ _) λu' c' h' r' w' H3=>?_;have k1:i≠c2:=zy;have k2:i≠c2+1:=zy;grind[d9];simp(disch:=try exact dz)only[↓gP,gY];refine ih e e' c' h' u' (l++[⟨q,a,W⟩]) _ _ _ zy g6 zl H3 ?_ ?_;rfl;rfl
theorem t64 (hT:T.length<900000)(m r w):l9 (go (o9 D7 (m+3) 64 [.string ⟨⟨T⟩⟩]) ⟨c0,h0,r,w⟩) λx s=>c0<=s.c/\(∀i,i<c0->s.h.get i=h0.get i)/\((∃l u,a6b T (T.length+1) 0 []=.ok l/\x=.ret (.tuple ⟨[.slice u.a u.n u.e,.int .i64 (.ofNat 0),.int .i64 (.ofNat 0)]⟩)/\LI c0 h0 s.c s.h u l/\l.length<=T.length+1)\/(∃p e,a6b T (T.length+1) 0 []=.er p e/\e≠0/\x=.ret (.tuple ⟨[.slice none 0 0,.int .i64 (.ofNat p),.int .i64 (.ofNat e)]⟩))):=by rw[e5r];have hNN:1800002<=NN:=zu;obtain⟨e,hNe⟩:∃e,NN=T.length+1+e:=⟨NN-(T.length+1),zy⟩;have e0:decide (Int.ofNat 1048576<Int.ofNat T.length)=false:=wL (λh=>zN);simp(disch:=try exact dz)only[G64,e0,↓gP,gY];have hloop:=n64 (T:=T) (c0:=c0) (h0:=h0) zy m (T.length+1) e 0 c0 h0 ⟨none,0,0⟩ [] [undef,undef,undef,undef,undef,undef,undef,undef,undef,undef,undef,undef,undef,undef,undef,undef,undef,undef,undef,undef,undef,undef,undef,undef,undef,undef,undef,undef,undef,.slice none 0 0,.int .i64 (.ofNat 0),.int .i64 (.ofNat 0),undef,undef,undef,undef,.slice none 0 0,undef,.int .i64 (.ofNat 0)] r w zy (vH _) (wP _) ⟨wP _,λ_ _=>rfl,U4.nil _ _ _,λi hi=>(by obtain⟨a,h,_⟩:=hi;cases h)⟩ rfl rfl;rw[<-hNe]at hloop;refine l9.bindJ hloop λy xs' s hq=>?_;obtain⟨c',h',r',w'⟩:=s;rcases hq with⟨xs1,u,l,f1,f2,H,f4,f5⟩|⟨xs1,p,e,f1,f2,f3,f4,f5,f6,f7,f8⟩;cases f1;simp(disch:=try exact dz)only[f2,a3A,↓gP,gY];refine LI.app (x:=⟨4,T.length,[]⟩) (H.to (vo _) λi hi=>d9 zo) zy (wG _) (o7 _ _ _) λu' c2 h2 r2 w2 H2=>?_;simp(disch:=try exact dz)only[gY];exact l9.done ⟨H2.le,H2.fr,Or.inl ⟨_,u',f5,rfl,H2,zl⟩⟩;cases f1;simp(disch:=try exact dz)only[f2,f3,f4,↓gP,gY];exact l9.done ⟨f5,f6,Or.inr ⟨p,e,f7,f8,rfl⟩⟩
end
theorem d8i:b7r.size=4:=zw
theorem d7b:Nat.blt b7r.bytes 4096=true:=zw
theorem d7k:b9T.size=4:=zw
theorem d6t:Nat.blt b9T.bytes 4096=true:=zw
inductive Rd where
 | ok (l:List Nd) (i:Nat)
 | er (p e:Nat)
def b1X (i deep op:Nat)(acc:List Nd):Rd:=bcase (decide (deep=0)) (.ok acc i) (.er op 3)
def a2d (ts:List Tok):Nat->Nat->Nat->Nat->List Nd->Rd|0,_,_,_,_=>.er 0 1|k+1,i,deep,op,acc=>match ts[i]? with|none=>b1X i deep op acc|some t=>bcase (decide (t.k=4)) (b1X i deep op acc) (bcase (decide (t.k=1)) (bcase (decide (deep=0)) (.er t.p 4) (.ok acc (i+1))) (bcase (decide (t.k=0)) (bcase (decide (deep=200)) (.er t.p 6) (match a2d ts k (i+1) (deep+1) t.p []with|.er p e=>.er p e|.ok l j=>a2d ts k j deep op (acc++[.mk 0 t.p [] l]))) (a2d ts k (i+1) deep op (acc++[.mk t.k t.p t.t []]))))
theorem b5q {g}:∀(cs) (n j m) (vs),q9 g cs n=some vs->j+m<=n->q9 g (G7 cs j) m=some ((vs.drop j).take m):=by
 intro cs;induction cs with
  |nil=>intro n j m vs h hj;cases n with|zero=>have:j=0:=zy;grind[a0e]|succ n=>cases h
  |cons c cs ih=>
   intro n j m vs h hj;obtain⟨y,st⟩:=c;cases n with
    |zero=>have:j=0:=zy;grind[a0e]|succ n=>
     have h':(match Nat.ble st g with|true=>(match q9 g cs n with|some vs=>some (y::vs)|none=>none)|false=>none)=some vs:=h;cases q1:Nat.ble st g with
      |false=>rw[q1]at h';cases h'|true=>
       rw[q1]at h';cases q2:q9 g cs n with
        |none=>rw[q2]at h';cases h'|some vs'=>
         rw[q2]at h';cases h';cases j with
          |zero=>cases m with|zero=>rw[a0e];rfl|succ m=>have:=ih n 0 m vs' q2 zy;rw[a0f]at this⊢;show(match Nat.ble st g with|true=>(match q9 g cs m with|some vs=>some (y::vs)|none=>none)|false=>none)=_;rw[q1,this];rfl
          |succ j=>show q9 g (G7 cs j) m=_;exact ih n j m vs' q2 zy
theorem b2a {α:Type}(f:α->List Value)(sz)(hf:∀x,(f x).length=sz):∀(l:List α) (i) (x),l[i]?=some x->((l.flatMap f).drop (i*sz)).take sz=f x/\i*sz+sz<=(l.flatMap f).length:=by
 intro l;induction l with
  |nil=>simp_all|cons y l ih=>
   intro i x h;rw[vK];cases i with
    |zero=>simp_all|succ i=>
     obtain⟨h1,h2⟩:=ih i x h;have e:(i+1)*sz=(f y).length+i*sz:=by rw[hf,sI];omega
     rw[e,List.drop_append,tO zy,uE,vI,h1,wC];grind
theorem U4.at {α:Type}{f sz c h u}{l:List α}(H:U4 sz c h u (l.flatMap f))(hf:∀x,(f x).length=sz)(h0:sz≠0){i x}(hi:l[i]?=some x):∃ab g cs,ab<c/\u.own ab/\h.get ab=some (.cells cs g false)/\(∀k,a6U sz (.slice u.a u.n u.e) (.int k (.ofNat i))=M.pure (.pointer (some ⟨ab,i*sz,some g⟩)))/\q9 g (G7 cs (i*sz)) sz=some (f x)/\∀(j) (y),(f x)[j]?=some y->q9 g (G7 cs (i*sz+j)) 1=some [y]:=by
 obtain⟨h1,h2|⟨ab,g,cs,h2,h3,h4,h5,h6,h7⟩⟩:=H;have hl:(l.flatMap f).length=0:=by rw[h1,h2];simp_all
 have:=(b2a f sz hf l i x hi).2;omega;obtain⟨e1,e2⟩:=b2a f sz hf l i x hi;have hlen:u.n=l.length:=by
  have hgen:∀l:List α,(l.flatMap f).length=l.length*sz:=by intro l;induction l<;>grind
  rw[hgen]at h1;exact(oV (Nat.pos_of_ne_zero h0) h1).symm
 have hlt:=(wM.1 hi).1;have e3:=b5q cs _ (i*sz) sz _ h7 e2;rw[e1]at e3;obtain⟨ua,un,ue⟩:=u;simp only at h2 h3 hlen;subst h2;subst h3;subst hlen;refine⟨ab,g,cs,h4,⟨_,rfl,rfl⟩,h5,λk=>by rw[a1x ue i l.length k ab 0 (some g) hlt h0,vY],e3,λj y hy=>?_⟩;rw[a4z];grind[a1k]
def b2e (x:Nd×Sl):List Value:=[.int .i64 (.ofNat x.1.k),.int .i64 (.ofNat x.1.p),.string ⟨⟨x.1.t⟩⟩,.slice x.2.a x.2.n x.2.e]
theorem U4.nd {U c h u}{rows:List (Nd×Sl)}(H:U4 4 c h u (rows.flatMap b2e))(hU:∀i,u.own i->U i)(hn:∀x∈rows,NdL U h x.2 x.1.l/\x.1.t.length<1800000)(hl:rows.length<1800000):NdL U h u (rows.map (·.1)):=by
 have hgen:∀l:List (Nd×Sl),(l.flatMap b2e).length=l.length*4:=by intro l;induction l with|nil=>simp|cons y l ih=>rw[vK,wC,ih,wE,sI];show 4+_=_;omega
 obtain⟨h1,h2|⟨ab,g,cs,h2,h3,h4,h5,h6,h7⟩⟩:=H;have:rows=[]:=by
  have h0:(rows.flatMap b2e).length=0:=by rw[h1,h2];rfl
  rw[hgen]at h0;grind
 subst this;subst h2;exact .nil;rw[hgen]at h1;have hn':u.n=(rows.map (·.1)).length:=by rw[wB];omega
 obtain⟨ua,un,ue⟩:=u;simp only at h2 h3 hn';subst h2;subst h3;subst hn';have hat:∀(i:Nat) (n:Nd),(rows.map (·.1))[i]?=some n->∃x,rows[i]?=some x/\x.1=n:=λi n hi=>by rw[vW]at hi;simp_all
 refine .row (λi=>match rows[i]? with|some x=>x.2|none=>⟨none,0,0⟩) (hU ab ⟨_,rfl,rfl⟩) h5 (by rw[wB];exact hl) (λi n hi=>?_) λi n hi=>?_;obtain⟨x,hx,rfl⟩:=hat i n hi;obtain⟨e1,e2⟩:=b2a b2e 4 (λ_=>rfl) rows i x hx;refine⟨(hn x (vT hx)).2,?_⟩;have e3:=b5q cs _ (i*4) 4 _ h7 e2;rw[e1]at e3;rw[hx,vY];exact e3;grind
theorem e3R (n a b c d):o9 D7 (n+1) 65 [a,b,c,d]=c5W o8 NN (o9 D7 n) a b c d:=e2U (q:=c5W) (N:=NN) zw n a b c d
def z4:List (Value×Nat):=[(.slice none 0 0,0),(.int .i64 (.ofNat 0),0),(.int .i64 (.ofNat 0),0),(.int .i64 (.ofNat 0),0)]
def d9f (v:Sl)(i p e:Nat):List (Value×Nat):=[(.slice v.a v.n v.e,0),(.int .i64 (.ofNat i),0),(.int .i64 (.ofNat p),0),(.int .i64 (.ofNat e),0)]
structure TI (c0:Nat) (h0:Trie VObj) (c:Nat) (h:Trie VObj) (u:Sl) (rows:List (Nd×Sl)):Prop where
 le:c0+1≤c
 fr:∀ i,i<c0→h.get i=h0.get i
 bx:h.get c0=some (.cells z4 0 false)
 g:U4 4 c h u (rows.flatMap b2e)
 o:∀ i,u.own i→c0<i
 nd:∀ x∈rows,NdL (fun i=>c0<i∧i<c∧¬ u.own i) h x.2 x.1.l∧x.1.t.length<1800000
theorem b8X:∀bs:List (Nd×Sl),(bs.flatMap b2e).length=bs.length*4:=by intro bs;induction bs with|nil=>rfl|cons R Rs ih=>rw[vK,wC,ih,wE];show 4+_=_;omega
theorem TI.n {c0 c h0 h u rows}(H:TI c0 h0 c h u rows):u.n=rows.length:=by have:=H.g.1;rw[b8X]at this;omega
theorem TI.to {c0 c h0 h u rows}(H:TI c0 h0 c h u rows){c' h'}(hc:c<=c')(hs:∀i,i<c->h'.get i=h.get i):TI c0 h0 c' h' u rows:=by have le:=H.le;exact⟨zy,λi hi=>(hs i zy).trans (H.fr i hi),(hs c0 zy).trans H.bx,H.g.mono hc λb k _=>hs b k,H.o,λx hx=>⟨(H.nd x hx).1.mono λi k=>⟨⟨k.1,wD k.2.1 hc,k.2.2⟩,hs i k.2.1⟩,(H.nd x hx).2⟩⟩
theorem TI.app {β c0 c h0 h u rows x v b}{f:Value->M β}{Q r w}(H:TI c0 h0 c h u rows)(hl:rows.length<2000000)(hx:NdL (λi=>c0<i/\i<c/\¬u.own i) h v x.l)(ht:x.t.length<1800000)(b2:b<c)(hb:h.get b=some (.cells [(.int .i64 (.ofNat x.k),0),(.int .i64 (.ofNat x.p),0),(.string ⟨⟨x.t⟩⟩,0),(.slice v.a v.n v.e,0)] 0 false))(k:∀(u') (c') (h') (r' w'),c<=c'->(∀i,i<c->¬u.own i->h'.get i=h.get i)->TI c0 h0 c' h' u' (rows++[(x,v)])->l9 (go (f (.slice u'.a u'.n u'.e)) ⟨c',h',r',w'⟩) Q):l9 (R6 (go (a4c b7r (.slice u.a u.n u.e) (.slice (some ⟨b,0,some 0⟩) 1 4)) ⟨c,h,r,w⟩) f) Q:=by
 have hn:=H.n;refine l9.bindS (a1R (x:=⟨some ⟨b,0,some 0⟩,1,4⟩) (xs:=b2e (x,v)) d8i zu d7b H.g ⟨rfl,Or.inr ⟨b,0,0,_,0,false,rfl,rfl,b2,hb,rfl⟩⟩ rfl zo r w) λy s hq=>?_;obtain⟨c',h',r',w'⟩:=s;obtain⟨u',rfl,hn',hg,hc,hs1,hown,hww⟩:=hq;have hc:c<=c':=hc;have le:=H.le;have ho':∀i,u'.own i->u.own i\/c<=i:=λi hi=>zo;have key:∀i,(c0<i/\i<c/\¬u.own i)->(c0<i/\i<c'/\¬u'.own i)/\h'.get i=h.get i:=λi k=>⟨⟨k.1,wD k.2.1 hc,λho=>zo⟩,hs1 i k.2.1 k.2.2⟩;have hno:∀i,i<=c0->¬u.own i:=λi hi ho=>by have:=H.o i ho;omega
 refine k u' c' h' r' w' hc hs1 ⟨zy,λi hi=>(hs1 i zy (hno i zy)).trans (H.fr i hi),(hs1 c0 zy (hno c0 (wP _))).trans H.bx,?_,λi hi=>?_,λy hy=>?_⟩;rw[uL,sV];exact hg;grind;rcases uf.1 hy with k1|k1;exact⟨(H.nd y k1).1.mono key,(H.nd y k1).2⟩;rw[vP]at k1;subst k1;exact⟨hx.mono key,ht⟩
theorem TI.fin {c0 c h0 h u rows}(H:TI c0 h0 c h u rows)(hl:rows.length<1800000):NdL (λi=>c0<i/\i<c) h u (rows.map (·.1)):=H.g.nd (λi hi=>⟨H.o i hi,H.g.own_lt hi⟩) (λx hx=>⟨(H.nd x hx).1.mono λi k=>⟨⟨k.1,k.2.1⟩,rfl⟩,(H.nd x hx).2⟩) hl
def RdV (c0 c:Nat)(h:Trie VObj)(i0 n:Nat)(v:Sl)(i p e:Nat):Rd->Prop|.ok l j=>NdL (λb=>c0<b/\b<c) h v l/\i=j/\p=0/\e=0/\i0<=j/\j<=n|.er p' e'=>v=⟨none,0,0⟩/\i=0/\p=p'/\e=e'/\e'≠0
theorem RdV.mono {c0 c c' h h' i0 n v i p e rd}(H:RdV c0 c h i0 n v i p e rd)(hc:c<=c')(hs:∀b,c0<b->b<c->h'.get b=h.get b):RdV c0 c' h' i0 n v i p e rd:=by cases rd with|er p' e'=>exact H|ok l j=>exact⟨H.1.mono λb k=>⟨⟨k.1,wD k.2 hc⟩,hs b k.1 k.2⟩,H.2⟩
def e8V (c0:Nat)(h0:Trie VObj)(i0 n:Nat)(rd:Rd)(x:CR)(s:V.S):Prop:=c0<=s.c/\(∀i,i<c0->s.h.get i=h0.get i)/\∃v i p e,x=.ret (.agg ⟨[.slice v.a v.n v.e,.int .i64 (.ofNat i),.int .i64 (.ofNat p),.int .i64 (.ofNat e)]⟩)/\RdV c0 s.c s.h i0 n v i p e rd
def d5g (tu:Sl)(ts:List Tok)(k:Nat):Prop:=∀(m i deep op c0:Nat) (h0:Trie VObj) (r w:List Nat),U4 3 c0 h0 tu (ts.flatMap b5G)->ts.length-i<k->i<=ts.length->deep<201->l9 (go (o9 D7 (m+k+1) 65 [.slice tu.a tu.n tu.e,.int .i64 (.ofNat i),.int .i64 (.ofNat deep),.int .i64 (.ofNat op)]) ⟨c0,h0,r,w⟩) (e8V c0 h0 i ts.length (a2d ts k i deep op []))
def f0F (c0:Nat)(h0:Trie VObj)(i0 n deep op:Nat)(rd:Rd)(y:Xc×List Value)(s:V.S):Prop:=(∃xs' u rows i,y=(.exit 0,xs')/\D5 xs' 70=.slice u.a u.n u.e/\D5 xs' 73=.int .i64 (.ofNat i)/\TI c0 h0 s.c s.h u rows/\rows.length<=i/\i<=n/\i0<=i/\rd=b1X i deep op (rows.map (·.1)))\/(∃xs' v i p e,y=(.ret,xs')/\s.h.get c0=some (.cells (d9f v i p e) 0 false)/\c0+1<=s.c/\(∀i,i<c0->s.h.get i=h0.get i)/\RdV c0 s.c s.h i0 n v i p e rd)
theorem a8Z {ts:List Tok}{k i deep op:Nat}{acc:List Nd}{t:Tok}(h:ts[i]?=some t):a2d ts (k+1) i deep op acc=bcase (decide (t.k=4)) (b1X i deep op acc) (bcase (decide (t.k=1)) (bcase (decide (deep=0)) (.er t.p 4) (.ok acc (i+1))) (bcase (decide (t.k=0)) (bcase (decide (deep=200)) (.er t.p 6) (match a2d ts k (i+1) (deep+1) t.p []with|.er p e=>.er p e|.ok l j=>a2d ts k j deep op (acc++[.mk 0 t.p [] l]))) (a2d ts k (i+1) deep op (acc++[.mk t.k t.p t.t []])))):=by show(match ts[i]? with|none=>_|some t=>_)=_;rw[h]
section
variable {tu:Sl}{ts:List Tok}{c0:Nat}{h0:Trie VObj}{i0:Nat}
theorem n65 (hn:ts.length<1800000)(htx:∀t∈ts,t.t.length<1800000)(hG:U4 3 c0 h0 tu (ts.flatMap b5G))(K)(hP:∀j,j<K->d5g tu ts j)(m deep op)(hde:deep<201):∀(k e i) (c) (h) (u) (rows) (xs) (r w),k<=K->ts.length-i<k->i<=ts.length->i0<=i->rows.length<=i->TI c0 h0 c h u rows->D5 xs 73=.int .i64 (.ofNat i)->D5 xs 70=.slice u.a u.n u.e->l9 (go (R7 (d0G o8 NN (o9 D7 (m+K)) (.slice tu.a tu.n tu.e) (.int .i64 (.ofNat deep)) (.pointer (some ⟨c0,0,some 0⟩))) (k+e) xs) ⟨c,h,r,w⟩) (f0F c0 h0 i0 ts.length deep op (a2d ts k i deep op (rows.map (·.1)))):=by
 intro k;induction k with
  |zero=>omega|succ k ih=>
   intro e i c h u rows xs r w hkK hk hi hi0 hr H h1 h2;rw[vv k 1 e,U3];have htn:tu.n=ts.length:=by have:=hG.1;rw[b8K]at this;omega
   cases ht:ts[i]? with
    |none=>
     have hge:=qm.1 ht;have e0:decide (i<tu.n)=false:=wL zy;have eS:a2d ts (k+1) i deep op (rows.map (·.1))=b1X i deep op (rows.map (·.1)):=by show(match ts[i]? with|none=>_|some t=>_)=_;rw[ht]
     rw[eS];simp(disch:=try exact dz)only[b5w,h1,h2,dL,e0,↓gP,gY];exact l9.done (Or.inl ⟨_,u,rows,i,rfl,rfl,rfl,H,hr,hi,hi0,rfl⟩)|some t=>
     have hlt:=(wM.1 ht).1;have e0:decide (i<tu.n)=true:=wJ zy;rw[a8Z ht];obtain⟨ab,g,cs,b1,b2,b3,b4,b5,b6⟩:=hG.at (f:=b5G) (λ_=>rfl) zu ht;have t0:=b6 0 _ rfl;rw[vC]at t0;have le:=H.le;have b7:ab<c:=zy;have b8:=(H.fr ab b1).trans b3;have b9:ab≠c:=zy;have hinc:=J2 i zy;have b5':q9 g (G7 cs (i*3)) 3=some [.int .i64 (.ofNat t.k),.int .i64 (.ofNat t.p),.string ⟨⟨t.t⟩⟩]:=b5;have htl:=htx t (vT ht);have bx:=H.bx;have c1:c0<c:=zy;have c2:c0≠c:=zy;cases q4:decide (t.k=4)with
      |true=>simp(disch:=try exact dz)only[b5w,h1,h2,dL,di,e0,b4,b8,t0,q4,↓gP,gY,gT];exact l9.done (Or.inl ⟨_,u,rows,i,rfl,rfl,rfl,H,hr,hi,hi0,rfl⟩)|false=>
       rw[A8];cases q1:decide (t.k=1)with
        |true=>rw[D8];cases qd:decide (deep=0)with|true=>simp(disch:=try exact dz)only[b5w,h1,h2,dL,di,e0,b4,b8,t0,b5',q4,q1,qd,bx,z4,↓gP,gY,gT];refine l9.done (Or.inr ⟨_,⟨none,0,0⟩,0,t.p,4,rfl,o7 _ _ _,zo,λj hj=>?_,rfl,rfl,rfl,rfl,zu⟩);have k1:j≠c:=zy;have k2:j≠c0:=zy;simp(disch:=try exact wQ)only[d9];exact H.fr j hj|false=>simp(disch:=try exact dz)only[b5w,h1,h2,dL,di,e0,b4,b8,t0,b5',q4,q1,qd,hinc,bx,z4,↓gP,gY,gT];refine l9.done (Or.inr ⟨_,u,i+1,0,0,rfl,o7 _ _ _,zo,λj hj=>?_,(H.fin zy).mono λj k=>⟨⟨k.1,by have:=k.2;grind⟩,?_⟩,rfl,rfl,rfl,zy,hlt⟩);have k1:j≠c:=zy;have k2:j≠c0:=zy;simp(disch:=try exact wQ)only[d9];exact H.fr j hj;grind[d9]
        |false=>
         rw[A8];cases q0:decide (t.k=0)with
          |true=>
           rw[D8];cases qd:decide (deep=200)with
            |true=>simp(disch:=try exact dz)only[b5w,h1,h2,dL,di,e0,b4,b8,t0,b5',q4,q1,q0,qd,bx,z4,↓gP,gY,gT];refine l9.done (Or.inr ⟨_,⟨none,0,0⟩,0,t.p,6,rfl,o7 _ _ _,zo,λj hj=>?_,rfl,rfl,rfl,rfl,zu⟩);have k1:j≠c:=zy;have k2:j≠c0:=zy;simp(disch:=try exact wQ)only[d9];exact H.fr j hj|false=>
             have hdi:=J2 deep zy;have qd':=uP qd;simp(disch:=try exact dz)only[b5w,h1,h2,dL,di,e0,b4,b8,t0,b5',q4,q1,q0,qd,hinc,hdi,↓gP,gY,gT];have hb:∀j,j<c->(V.upd (V.upd h c (.cells [(.int .i64 (.ofNat 0),0),(.int .i64 (.ofNat 0),0),(.string ⟨⟨[]⟩⟩,0)] 0 false)) c (.cells [(.int .i64 (.ofNat t.k),0),(.int .i64 (.ofNat t.p),0),(.string ⟨⟨t.t⟩⟩,0)] 0 false)).get j=h.get j:=λj hj=>by have k1:j≠c:=zy;grind[d9]
             have hG2:U4 3 (c+1) (V.upd (V.upd h c (.cells [(.int .i64 (.ofNat 0),0),(.int .i64 (.ofNat 0),0),(.string ⟨⟨[]⟩⟩,0)] 0 false)) c (.cells [(.int .i64 (.ofNat t.k),0),(.int .i64 (.ofNat t.p),0),(.string ⟨⟨t.t⟩⟩,0)] 0 false)) tu (ts.flatMap b5G):=hG.mono zy λj k _=>(hb j zy).trans (H.fr j k);have hcall:=hP k zy (m+(K-(k+1))) (i+1) (deep+1) t.p (c+1) (V.upd (V.upd h c (.cells [(.int .i64 (.ofNat 0),0),(.int .i64 (.ofNat 0),0),(.string ⟨⟨[]⟩⟩,0)] 0 false)) c (.cells [(.int .i64 (.ofNat t.k),0),(.int .i64 (.ofNat t.p),0),(.string ⟨⟨t.t⟩⟩,0)] 0 false)) (c::c::c::ab::ab::r) (c::c::w) hG2 zy hlt zy;have eK:m+(K-(k+1))+k+1=m+K:=zy;rw[eK]at hcall;refine l9.bindC hcall λx s hq=>?_;obtain⟨c',h',r',w'⟩:=s;obtain⟨g1,g2,v,i2,p2,e2,rfl,hR⟩:=hq;have g1:c+1<=c':=g1;have g2:∀j,j<c+1->h'.get j=(V.upd (V.upd h c (.cells [(.int .i64 (.ofNat 0),0),(.int .i64 (.ofNat 0),0),(.string ⟨⟨[]⟩⟩,0)] 0 false)) c (.cells [(.int .i64 (.ofNat t.k),0),(.int .i64 (.ofNat t.p),0),(.string ⟨⟨t.t⟩⟩,0)] 0 false)).get j:=g2;have hs:∀j,j<c->h'.get j=h.get j:=λj hj=>(g2 j zy).trans (hb j hj);have hbc:=g2 c (wG c);rw[o7]at hbc;have bx':=(hs c0 c1).trans bx;have k4:c0≠c':=zy;have k5:c≠c':=zy;have k6:c<c':=zy;have k7:c0<c':=zy;cases q7:a2d ts k (i+1) (deep+1) t.p []with
              |er p' e'=>rw[q7]at hR;obtain⟨rfl,rfl,rfl,rfl,hne⟩:=hR;have q8:decide (e2=0)=false:=wL hne;simp(disch:=try exact dz)only[di,q8,bx',z4,↓gP,gY,gT];refine l9.done (Or.inr ⟨_,⟨none,0,0⟩,0,p2,e2,rfl,o7 _ _ _,zo,λj hj=>?_,rfl,rfl,rfl,rfl,hne⟩);have k1:j≠c':=zy;have k2:j≠c0:=zy;simp(disch:=try exact wQ)only[d9];exact(hs j zy).trans (H.fr j hj)|ok l j2=>
               rw[q7]at hR;obtain⟨hN,rfl,rfl,rfl,j3,j4⟩:=hR;have hN:NdL (λb=>c+1<b/\b<c') h' v l:=hN;simp(disch:=try exact dz)only[hbc,↓gP,gY,gT];refine TI.app (x:=.mk 0 t.p [] l) (v:=v) ((H.to (c':=c') zy hs).to (c':=c'+1+1) zy λj hj=>?_) zy (hN.mono λj k=>⟨⟨by have:=k.1;omega,by have:=k.2;omega,λho=>by have:=H.g.own_lt ho;have:=k.1;omega⟩,?_⟩) (by show 0<1800000;omega) (wG _) (o7 _ _ _) λu' c3 h3 r3 w3 hc3 hs3 H3=>?_;have k1:j≠c':=zy;have k2:j≠c'+1:=zy;grind[d9];have k3:=k.2;have k1:j≠c':=zy;have k2:j≠c'+1:=zy;grind[d9];have hno:∀j,c<=j->¬u.own j:=λj k ho=>by have:=H.g.own_lt ho;omega
               have hb3:=hs3 c' zy (hno _ zy);have k8:c'≠c'+1:=zy;simp(disch:=try exact wQ)only[d9,o7]at hb3;have k9:c'<c3:=zy;simp(disch:=try exact dz)only[hb3,↓gP,gY];have hfin:=ih e i2 c3 h3 u' (rows++[(.mk 0 t.p [] l,v)]);rw[uu]at hfin;refine hfin _ _ _ zy zy j4 zy zl H3 ?_ ?_;rfl;rfl
          |false=>simp(disch:=try exact dz)only[b5w,h1,h2,dL,di,e0,b4,b8,t0,b5',q4,q1,q0,hinc,↓gP,gY,gT];refine TI.app (x:=.mk t.k t.p t.t []) (v:=⟨none,0,0⟩) (H.to (c':=c+1+1) zy λj hj=>?_) zy .nil htl (wG _) (o7 _ _ _) λu' c3 h3 r3 w3 hc3 hs3 H3=>?_;have k1:j≠c:=zy;have k2:j≠c+1:=zy;grind[d9];simp(disch:=try exact dz)only[↓gP,gY];have hfin:=ih e (i+1) c3 h3 u' (rows++[(.mk t.k t.p t.t [],⟨none,0,0⟩)]);rw[uu]at hfin;refine hfin _ _ _ zy zy zy zy zl H3 ?_ ?_;rfl;rfl
end
theorem e6i {tu ts}(hn:ts.length<1800000)(htx:∀t∈ts,t.t.length<1800000):∀B K,K<B->K<=1900000->d5g tu ts K:=by
 intro B;induction B with
  |zero=>omega|succ B ihB=>
   intro K hK hK9 m i deep op c0 h0 r w hG hk hi hde;have hNN:1900001<=NN:=zu;obtain⟨e,hNe⟩:∃e,NN=K+e:=⟨NN-K,zy⟩;rw[e3R];simp(disch:=try exact dz)only[G65,↓gP,gY];have hT0:TI c0 h0 (c0+1) (V.upd h0 c0 (.cells z4 0 false)) ⟨none,0,0⟩ []:=⟨wP _,λj hj=>d9 zy,o7 _ _ _,U4.nil _ _ _,λj hj=>(by obtain⟨a,h,_⟩:=hj;cases h),λx hx=>(by cases hx)⟩;have hloop:=n65 (i0:=i) hn htx hG K (λj hj=>ihB j zy zy) m deep op hde K e i (c0+1) _ ⟨none,0,0⟩ [] [undef,undef,undef,undef,undef,undef,undef,undef,undef,undef,undef,undef,undef,undef,undef,undef,undef,undef,undef,undef,undef,undef,undef,undef,undef,undef,undef,undef,undef,undef,undef,undef,undef,undef,undef,undef,undef,undef,undef,undef,undef,undef,undef,undef,undef,undef,undef,undef,undef,undef,undef,undef,undef,undef,undef,undef,undef,undef,undef,undef,undef,undef,undef,undef,undef,undef,undef,undef,undef,undef,.slice none 0 0,undef,undef,.int .i64 (.ofNat i)] r (c0::w) (wP _) hk hi (wP _) (vH _) hT0 rfl rfl;rw[<-hNe]at hloop;refine l9.bindJ hloop λy xs' s hq=>?_;obtain⟨c',h',r',w'⟩:=s;rcases hq with⟨xs1,u,rows,i2,e1,e2,e3,H,e4,e5,e6,e7⟩|⟨xs1,v,i2,p,e',e1,e2,e3,e4,e5⟩;cases e1;have le:=H.le;have bx:=H.bx;simp only at le bx;have k1:c0<c':=zy;rw[pQ]at e7;rw[e7];unfold b1X;cases qd:decide (deep=0)with|true=>have q2:decide (0<deep)=false:=wL (by have:=vS qd;omega);simp(disch:=try exact dz)only[e2,e3,dL,q2,bx,z4,a3A,↓gP,gY];refine l9.done ⟨zo,λj hj=>?_,u,i2,0,0,rfl,(H.fin zy).mono λj k=>⟨k,d9 (by have:=k.1;omega)⟩,rfl,rfl,rfl,e6,e5⟩;dsimp only;rw[d9 zy];exact H.fr j hj|false=>have q2:decide (0<deep)=true:=wJ (by have:=uP qd;omega);simp(disch:=try exact dz)only[e2,e3,dL,q2,bx,z4,a3A,↓gP,gY];refine l9.done ⟨zo,λj hj=>?_,⟨none,0,0⟩,0,op,3,rfl,rfl,rfl,rfl,rfl,zu⟩;dsimp only;rw[d9 zy];exact H.fr j hj
   cases e1;simp only at e2 e3;have k1:c0<c':=zy;simp(disch:=try exact dz)only[e2,d9f,↓gP,gY];exact l9.done ⟨zo,e4,v,i2,p,e',rfl,e5⟩
theorem e6F (n a):o9 D7 (n+1) 27 [a]=c6U o8 NN (o9 D7 n) a:=Y7 (q:=c6U) (N:=NN) zw n a
theorem c9q {T:List UInt8}{a t}(hd:T.drop a=t){q e W}(h:a6I a t=.ok q W e):W.length<=T.length:=by
 have hl:t.length<=T.length:=by rw[<-hd,uw];omega
 cases t with|nil=>cases h|cons b t=>simp only[wE]at hl;unfold a6I at h;simp only at h;cases q1:decide (b.toNat=40)with|true=>rw[q1]at h;cases h;simp_all|false=>rw[q1,A8]at h;cases q2:decide (b.toNat=41)with|true=>rw[q2]at h;cases h;simp_all|false=>rw[q2,A8]at h;cases q3:decide (b.toNat=34)<;>first|rfl|grind[decide,D8,A8]
theorem d2Z {T}:∀(k a) (l l'),(∀x∈l,x.t.length<=T.length)->a6b T k a l=.ok l'->∀x∈l',x.t.length<=T.length:=by intro k;induction k with|zero=>intro a l l' _ h;cases h|succ k ih=>intro a l l' hl h;have h':(match T.drop a with|[]=>Lx.ok (l++[(⟨4,T.length,[]⟩:Tok)])|b::t=>match a7X (b::t)with|none=>.er a 3|some (n+1)=>a6b T k (a+(n+1)) l|some 0=>match a6I a (b::t)with|.er p e=>.er p e|.ok q W e=>a6b T k e (l++[(⟨q,a,W⟩:Tok)]))=.ok l':=h;cases hd:T.drop a with|nil=>rw[hd]at h';grind|cons b t=>rw[hd]at h';grind[c9q]
theorem c4U (a x):zs (a++[x])=zs a+x.z:=by induction a<;>first|rfl|grind[zs]
theorem d8d {ts}:∀(k i deep op) (acc l) (j),a2d ts k i deep op acc=.ok l j->i<=j/\zs l<=zs acc+4*(j-i):=by
 intro k;induction k with
  |zero=>intro i deep op acc l j h;cases h|succ k ih=>
   intro i deep op acc l j h;have fin:b1X i deep op acc=.ok l j->i<=j/\zs l<=zs acc+4*(j-i):=λh=>by unfold b1X at h;cases q:decide (deep=0)with|true=>rw[q]at h;cases h;omega|false=>rw[q]at h;cases h
   cases ht:ts[i]? with
    |none=>have h':(match ts[i]? with|none=>b1X i deep op acc|some t=>_)=Rd.ok l j:=h;rw[ht]at h';exact fin h'|some t=>
     rw[a8Z ht]at h;cases q4:decide (t.k=4)with
      |true=>rw[q4]at h;exact fin h|false=>
       rw[q4,A8]at h;cases q1:decide (t.k=1)with
        |true=>rw[q1,D8]at h;cases qd:decide (deep=0)with|true=>rw[qd]at h;cases h|false=>rw[qd]at h;cases h;omega
        |false=>
         rw[q1,A8]at h;cases q0:decide (t.k=0)with
          |true=>rw[q0,D8]at h;cases qd:decide (deep=200)with|true=>rw[qd]at h;cases h|false=>rw[qd,A8]at h;cases e:a2d ts k (i+1) (deep+1) t.p []with|er p e'=>rw[e]at h;cases h|ok l1 j1=>rw[e]at h;obtain⟨a1,a2⟩:=ih _ _ _ _ _ _ e;obtain⟨b1,b2⟩:=ih _ _ _ _ _ _ h;rw[c4U]at b2;have hz:=a9E (.mk 0 t.p [] l1);have e1:zs (Nd.mk 0 t.p [] l1).l=zs l1:=rfl;have e2:zs ([]:List Nd)=0:=rfl;omega
          |false=>rw[q0,A8]at h;obtain⟨b1,b2⟩:=ih _ _ _ _ _ _ h;rw[c4U]at b2;have hz:=a9E (.mk t.k t.p t.t []);have e1:zs (Nd.mk t.k t.p t.t []).l=0:=rfl;omega
def a6x (T:List UInt8):Rd:=match a6b T (T.length+1) 0 []with|.er p e=>.er p e|.ok ts=>a2d ts (ts.length+1) 0 0 0 []
theorem t27 {T}(hT:T.length<890000)(M)(hM:1800010<=M)(c0 h0 r w):l9 (go (o9 D7 (M+1) 27 [.string ⟨⟨T⟩⟩]) ⟨c0,h0,r,w⟩) λx s=>c0<=s.c/\(∀i,i<c0->s.h.get i=h0.get i)/\((∃l j v,a6x T=.ok l j/\x=.ret (.tuple ⟨[.slice v.a v.n v.e,.int .i64 (.ofNat 0),.int .i64 (.ofNat 0)]⟩)/\NdL (λb=>c0<=b/\b<s.c) s.h v l/\zs l<=4*(T.length+1))\/(∃p e,a6x T=.er p e/\e≠0/\x=.ret (.tuple ⟨[.slice none 0 0,.int .i64 (.ofNat p),.int .i64 (.ofNat e)]⟩))):=by
 rw[e6F];obtain⟨M3,rfl⟩:∃k,M=k+3:=⟨M-3,zy⟩;simp(disch:=try exact dz)only[G27,↓gP];refine l9.bindC (t64 zy M3 _ _) λx s hq=>?_;obtain⟨c1,h1,r1,w1⟩:=s;obtain⟨f1,f2,⟨ts,u,f3,rfl,H,f4⟩|⟨p,e,f3,f4,rfl⟩⟩:=hq;have f1:c0<=c1:=f1;have htx:∀t∈ts,t.t.length<1800000:=λt ht=>by have:=d2Z _ _ _ _ (λx hx=>by cases hx) f3 t ht;omega
 have eP:a6x T=a2d ts (ts.length+1) 0 0 0 []:=by grind[a6x]
 rw[eP];simp(disch:=try exact dz)only[↓gP,gY,gT];have hcall:=e6i (tu:=u) zy htx (ts.length+2) (ts.length+1) zy zy (M3+3-(ts.length+1+1)) 0 0 0 c1 h1 r1 w1 H.g zy (vH _) zu;have eM:M3+3-(ts.length+1+1)+(ts.length+1)+1=M3+3:=zy;rw[eM]at hcall;refine l9.bindC hcall λx s hq=>?_;obtain⟨c2,h2,r2,w2⟩:=s;obtain⟨g1,g2,v,i2,p2,e2,rfl,hR⟩:=hq;have g1:c1<=c2:=g1;simp(disch:=try exact dz)only[G27,↓gP,gY];refine l9.done ⟨zo,λj hj=>?_,?_⟩;have k1:j≠c2:=zy;grind[d9];cases q7:a2d ts (ts.length+1) 0 0 0 []with|er p' e'=>rw[q7]at hR;obtain⟨rfl,rfl,rfl,rfl,hne⟩:=hR;grind|ok l j=>rw[q7]at hR;obtain⟨hN,rfl,rfl,rfl,_,hj⟩:=hR;obtain⟨_,hz⟩:=d8d _ _ _ _ _ _ _ q7;have e0:zs ([]:List Nd)=0:=rfl;refine Or.inl ⟨l,i2,v,rfl,rfl,hN.mono λb k=>⟨⟨by have:=k.1;omega,by have:=k.2;grind⟩,?_⟩,zy⟩;have k3:=k.2;grind[d9]
 have q8:decide (e=0)=false:=wL f4;simp(disch:=try exact dz)only[di,q8,↓gP,gY,gT];refine l9.done ⟨f1,f2,Or.inr ⟨p,e,?_,f4,rfl⟩⟩;grind[a6x]
theorem d5A (n a):o9 D7 (n+1) 30 [a]=c7T o8 NN (o9 D7 n) a:=Y7 (q:=c7T) (N:=NN) zw n a
theorem d7z (b c1 r1 w1 r2 w2)(h1:a0d w1 [b]=true)(h2:a0d [c1] [b]=true)(h3:a0d w2 [b]=true):a1c [(0,1),(0,2),(1,2),(0,3),(0,4),(0,5),(0,6),(1,6),(2,6),(3,6),(4,6),(5,6),(0,7),(1,7),(2,7),(3,7),(4,7),(5,7),(6,7),(0,8),(1,8),(2,8),(3,8),(4,8),(5,8),(0,9),(1,9),(2,9),(3,9),(4,9),(5,9),(0,10),(1,10),(2,10),(3,10),(4,10),(5,10),(0,11),(1,11),(2,11),(3,11),(4,11),(5,11),(6,11),(7,11),(8,11),(9,11),(10,11),(0,12),(1,12),(2,12),(3,12),(4,12),(5,12),(6,12),(7,12),(8,12),(9,12),(10,12),(11,12),(0,13),(1,13),(2,13),(3,13),(4,13),(5,13),(6,13),(7,13),(8,13),(9,13),(10,13),(0,14),(1,14),(2,14),(3,14),(4,14),(5,14),(6,14),(7,14),(8,14),(9,14),(10,14),(0,15),(1,15),(2,15),(3,15),(4,15),(5,15),(6,15),(7,15),(8,15),(9,15),(10,15),(0,16),(1,16),(2,16),(3,16),(4,16),(5,16),(6,16),(7,16),(8,16),(9,16),(10,16),(11,16),(12,16),(13,16),(14,16),(15,16),(0,17),(1,17),(2,17),(3,17),(4,17),(5,17),(6,17),(7,17),(8,17),(9,17),(10,17),(11,17),(12,17),(13,17),(14,17),(15,17),(16,17),(0,18),(1,18),(2,18),(3,18),(4,18),(5,18),(6,18),(7,18),(8,18),(9,18),(10,18),(11,18),(12,18),(13,18),(14,18),(15,18),(0,19),(1,19),(2,19),(3,19),(4,19),(5,19),(6,19),(7,19),(8,19),(9,19),(10,19),(11,19),(12,19),(13,19),(14,19),(15,19),(0,20),(1,20),(2,20),(3,20),(4,20),(5,20),(6,20),(7,20),(8,20),(9,20),(10,20),(11,20),(12,20),(13,20),(14,20),(15,20),(0,21),(1,21),(2,21),(3,21),(4,21),(5,21),(6,21),(7,21),(8,21),(9,21),(10,21),(11,21),(12,21),(13,21),(14,21),(15,21),(0,22),(0,23)] [([],[]),([],[]),([],[]),([],[]),([],[]),([b],[]),([],[]),([],[]),([],[]),([],[]),([b],[]),([],[]),([],[]),([],[]),([],[]),([b],[]),([],[]),([],[]),([],[]),([],[]),([b],[]),(r1,w1),([],[]),([],[c1]),(r2,w2),([],[])]=true:=by simp only[a3a,a3H,P7,P6,a5a,a2r,T9,h1,a8w]
structure CI (c0:Nat) (h0:Trie VObj) (c:Nat) (h:Trie VObj) (u:Sl) (rows:List (Nd×Sl)) (w0 w:List Nat):Prop where
 le:c0≤c
 fr:∀ i,i<c0→h.get i=h0.get i
 g:U4 4 c h u (rows.flatMap b2e)
 o:∀ i,u.own i→c0≤i
 nd:∀ x∈rows,NdL (fun i=>c0≤i∧i<c∧¬ u.own i) h x.2 x.1.l∧x.1.t.length<1800000
 w:∀ i∈w,i∈w0∨c0≤i
section
variable {U:Nat->Prop}{lv:Sl}{l:List Nd}{c0:Nat}{h0:Trie VObj}
def e9B (c0:Nat)(h0:Trie VObj)(l:List Nd)(w0:List Nat)(x:CR)(s:V.S):Prop:=c0<=s.c/\(∀i,i<c0->s.h.get i=h0.get i)/\(∀i∈s.w,i∈w0\/c0<=i)/\∃v,x=.ret (.slice v.a v.n v.e)/\NdL (λb=>c0<=b/\b<s.c) s.h v l
def c9G (n:Nat):Prop:=∀(m:Nat) (U:Nat->Prop) (lv:Sl) (l:List Nd) (c0:Nat) (h0:Trie VObj) (r w:List Nat),NdL U h0 lv l->(∀i,U i->i<c0)->zs l<=n->l9 (go (o9 D7 (m+n+1) 30 [.slice lv.a lv.n lv.e]) ⟨c0,h0,r,w⟩) (e9B c0 h0 l w)
theorem n30 {n}(hC:c9G n)(hn:NdL U h0 lv l)(hU:∀i,U i->i<c0)(hz:zs l<=n+1)(m w0):∀(k e i) (c) (h) (u) (rows) (xs) (r w),l.length=i+k->rows.map (·.1)=l.take i->CI c0 h0 c h u rows w0 w->D5 xs 32=.int .i64 (.ofNat i)->D5 xs 29=.slice u.a u.n u.e->l9 (go (R7 (d5C o8 NN (o9 D7 (m+n+1)) (.slice lv.a lv.n lv.e)) (k+1+e) xs) ⟨c,h,r,w⟩) λy s=>∃xs' u rows,y=(.exit 0,xs')/\D5 xs' 29=.slice u.a u.n u.e/\rows.map (·.1)=l/\CI c0 h0 s.c s.h u rows w0 s.w:=by
 intro k;induction k with
  |zero=>intro e i c h u rows xs r w hk hr H h1 h2;rw[vv 0 1 e,U3];have hlen:=hn.len.1;obtain⟨la,ln,le⟩:=lv;simp only at hlen;subst hlen;have e0:decide (i<l.length)=false:=wL zy;simp(disch:=try exact dz)only[d1z,h1,h2,dL,e0,↓gP,gY];exact l9.done ⟨_,u,rows,rfl,rfl,by rw[hr,qU zy],H⟩|succ k ih=>
   intro e i c h u rows xs r w hk hr H h1 h2;rw[vv (k+1) 1 e,U3];have hlt:i<l.length:=zy;obtain⟨y,hy⟩:∃y,l[i]?=some y:=⟨_,wO hlt⟩;obtain⟨b,p,g,cs,cur,ro,nl,hb,hg,hNn,hT,e1,e2,e3,e4,e5,e6⟩:=hn.get hy;have hlen:=hn.len.1;have hll:=hn.len.2;obtain⟨la,ln,le⟩:=lv;simp only at hlen e1;subst hlen;have b1:=hU b hb;have b2:=(H.fr b b1).trans hg;have cle:=H.le;have b3:b<c:=zy;have hinc:=J2 i zy;have e0:decide (i<l.length)=true:=wJ hlt;simp(disch:=try exact dz)only[d1z,h1,h2,dL,e0,e1,b2,e3,e4,e5,e6,↓gP,gY];have hm:=c2Q hy;have hzy:=a9E y;refine l9.footS (l9.bindC (hC m (λi=>i<c0) nl y.l c h [] [] (hNn.mono λi k=>⟨hU i k,H.fr i (hU i k)⟩) (λi k=>zy) zy) (λx s hq=>?_) (Q:=λa s=>∃v,a=.slice v.a v.n v.e/\c<=s.c/\(∀i,i<c->s.h.get i=h.get i)/\(∀i∈s.w,c<=i)/\NdL (λb=>c<=b/\b<s.c) s.h v y.l)) λa s hq=>?_;obtain⟨q1,q2,q3,v,rfl,q4⟩:=hq;exact l9.done ⟨v,rfl,q1,q2,λi hi=>(q3 i hi).resolve_left zn,q4⟩;obtain⟨c',h',r',w'⟩:=s;obtain⟨v,rfl,q1,q2,q3,q4⟩:=hq;have q1:c<=c':=q1;have hnn:=H.g.1;rw[b8X]at hnn;have hrl:rows.length=i:=by have:=vw List.length hr;rw[wB,rA]at this;omega
   simp(disch:=try exact dz)only[↓gP,gY];refine l9.footS (a1R (x:=⟨some ⟨c',0,some 0⟩,1,4⟩) (xs:=b2e (y,v)) d7k zu d6t (H.g.mono (c':=c'+1) (h':=V.upd h' c' (.cells [(.int .i64 (.ofNat y.k),0),(.int .i64 (.ofNat y.p),0),(.string ⟨⟨y.t⟩⟩,0),(.slice v.a v.n v.e,0)] 0 false)) zy λj k1 k2=>(d9 zy).trans (q2 j k1)) ⟨rfl,Or.inr ⟨c',0,0,_,0,false,rfl,rfl,wG _,o7 _ _ _,rfl⟩⟩ rfl zo [] []) λa s hq=>?_;obtain⟨c2,h2',r2,w2⟩:=s;obtain⟨u',rfl,hn',hg2,hc2,hs2,hown,hww⟩:=hq;have hc2:c'+1<=c2:=hc2;have hft:=(d7z _ _ _ _ _ _ (a7r λi hi hj=>by rw[vP]at hj;grind) (a7r λi hi hj=>xz) (a7r λi hi hj=>by rw[vP]at hj;subst hj;rcases hww _ hi with k|k|k;cases k;have:=H.o _ k;omega;omega):a1c _ [([],[]),([],[]),([],[]),([],[]),([],[]),([b],[]),([],[]),([],[]),([],[]),([],[]),([b],[]),([],[]),([],[]),([],[]),([],[]),([b],[]),([],[]),([],[]),([],[]),([],[]),([b],[]),(r',w'),([],[]),([],[c']),(r2,w2),([],[])]=true);simp(disch:=try exact dz)only[G30,hinc,↓gP,gY];have ho':∀j,u'.own j->u.own j\/c'+1<=j:=λj hj=>zo;have hso:∀j,j<c'+1->¬u.own j->j≠c'->h2'.get j=h'.get j:=λj k1 k2 k3=>(hs2 j k1 k2).trans (d9 k3);have huc:∀j,u.own j->j<c:=λj hj=>H.g.own_lt hj;have key:∀j,(c0<=j/\j<c/\¬u.own j)->(c0<=j/\j<c2/\¬u'.own j)/\h2'.get j=h.get j:=λj kk=>⟨⟨kk.1,by have:=kk.2.1;omega,λho=>zo⟩,(hso j (by have:=kk.2.1;omega) kk.2.2 (by have:=kk.2.1;omega)).trans (q2 j kk.2.1)⟩;have H2:CI c0 h0 c2 h2' u' (rows++[(y,v)]) w0 (E5 w2 (c'::E5 w' w)):=by refine⟨zy,λj hj=>?_,?_,λj hj=>?_,λz hz=>?_,λj hj=>?_⟩;exact(hso j zy (λho=>by have:=H.o j ho;omega) zy).trans ((q2 j zy).trans (H.fr j hj));rw[uL,sV];exact hg2;rcases ho' j hj with k1|k1;exact H.o j k1;omega;rcases uf.1 hz with k1|k1;exact⟨(H.nd z k1).1.mono key,(H.nd z k1).2⟩;rw[vP]at k1;subst k1;refine⟨q4.mono λj kk=>⟨⟨by have:=kk.1;omega,by have:=kk.2;grind,λho=>?_⟩,hso j (by have:=kk.2;grind) (λho=>by have:=huc j ho;have:=kk.1;omega) (by have:=kk.2;grind)⟩,hT⟩;grind;rw[E9,uf,uy,E9,uf]at hj;rcases hj with k1|k1|k1|k1;rcases hww j k1 with k2|k2|k2;cases k2;exact Or.inr (H.o j k2);omega;omega;have:=q3 j k1;omega;exact H.w j k1
   refine ih e (i+1) c2 h2' u' (rows++[(y,v)]) _ _ _ zy ?_ H2 ?_ ?_;rw[uu,hr,List.take_add_one,hy];rfl;rfl;rfl
theorem e3r:∀n,c9G n:=by
 intro n;induction n with
  |zero=>intro m U lv l c0 h0 r w hn hU hz;cases l with|cons y l=>have h1:zs (y::l)=y.z+zs l:=rfl;have h2:=a9E y;omega|nil=>have hlen:=hn.len.1;obtain⟨la,ln,le⟩:=lv;simp only[uq]at hlen;subst hlen;have e0:decide (0<0)=false:=rfl;have hNe:NN=1999999+1:=rfl;rw[d5A];simp(disch:=try exact dz)only[G30,↓gP];rw[hNe,U3];simp(disch:=try exact dz)only[d1z,dL,a3A,↓gP,gY,gT,Nat.reduceAdd,Nat.reduceLT];exact l9.done ⟨wP _,λ_ _=>rfl,λi hi=>Or.inl hi,⟨none,0,0⟩,rfl,.nil⟩
  |succ n ih=>
   intro m U lv l c0 h0 r w hn hU hz;have hll:=hn.len.2;have hNN:1800001<=NN:=zu;obtain⟨e,hNe⟩:∃e,NN=l.length+1+e:=⟨NN-(l.length+1),zy⟩;show l9 (go (o9 D7 (m+n+1+1) 30 _) _) _;rw[d5A];simp(disch:=try exact dz)only[G30,↓gP];have hloop:=n30 ih hn hU hz m w l.length e 0 c0 h0 ⟨none,0,0⟩ [] [undef,undef,undef,undef,undef,undef,undef,undef,undef,undef,undef,undef,undef,undef,undef,undef,undef,undef,undef,undef,undef,undef,undef,undef,undef,undef,undef,undef,undef,.slice none 0 0,undef,undef,.int .i64 (.ofNat 0)] r w zy rfl ⟨wP _,λ_ _=>rfl,U4.nil _ _ _,λj hj=>(by obtain⟨a,h,_⟩:=hj;cases h),λx hx=>(by cases hx),λi hi=>Or.inl hi⟩ rfl rfl;rw[<-hNe]at hloop;refine l9.bindJ hloop λy xs' s hq=>?_;obtain⟨c',h',r',w'⟩:=s;obtain⟨xs1,u,rows,f1,f2,f3,H⟩:=hq;cases f1;simp(disch:=try exact dz)only[f2,a3A,↓gP,gY];refine l9.done ⟨H.le,H.fr,H.w,u,rfl,?_⟩;have hrl:rows.length=l.length:=by rw[<-f3,wB]
   have:=H.g.nd (U:=λb=>c0<=b/\b<c') (λi hi=>⟨H.o i hi,H.g.own_lt hi⟩) (λx hx=>⟨(H.nd x hx).1.mono λi k=>⟨⟨k.1,k.2.1⟩,rfl⟩,(H.nd x hx).2⟩) zy;rw[f3]at this;exact this
end
end
section
def Tok.e (x:Tok):Nat×List UInt8:=(x.k,x.t)
def b2B:List UInt8->Bool|[]=>false|b::_=>sgN b.toNat
def Lk (t:List UInt8)(ks:List (Nat×List UInt8)):Prop:=∀(T:List UInt8) (a:Nat),T.drop a=t->∃ts,ts.map Tok.e=ks/\∀k acc,T.length-a<k->a6b T k a acc=.ok (acc++ts++[(⟨4,T.length,[]⟩:Tok)])
theorem c5u {T t:List UInt8}{b:UInt8}{a:Nat}(hd:T.drop a=b::t)(k:Nat)(l:List Tok):a6b T (k+1) a l=(match a7X (b::t)with|none=>.er a 3|some (n+1)=>a6b T k (a+(n+1)) l|some 0=>match a6I a (b::t)with|.er p e=>.er p e|.ok q W e=>a6b T k e (l++[⟨q,a,W⟩])):=by show(match T.drop a with|[]=>_|b::t=>_)=_;rw[hd]
theorem Lk.nil:Lk [] []:=by intro T a hd;refine⟨[],rfl,λk acc hk=>?_⟩;obtain⟨k,rfl⟩:∃j,k=j+1:=⟨k-1,zy⟩;show(match T.drop a with|[]=>_|b::t=>_)=_;rw[hd,wF]
theorem Lk.ws {b t ks}(hb:wsB b.toNat=true)(H:Lk t ks):Lk (b::t) ks:=by
 intro T a hd;obtain⟨d1,d2,d3⟩:=a5T hd;obtain⟨ts,h1,h2⟩:=H T (a+1) d2;refine⟨ts,h1,λk acc hk=>?_⟩;obtain⟨k,rfl⟩:∃j,k=j+1:=⟨k-1,zy⟩;have e:a7X (b::t)=some 1:=by show bcase (wsB b.toNat) (some 1) _=_;rw[hb];rfl
 rw[c5u hd,e];grind
theorem Lk.tok {b t t' ks q n W}(hs:a7X (b::t)=some 0)(hn:∀a,a6I a (b::t)=.ok q W (a+(n+1)))(ht:t.drop n=t')(H:Lk t' ks):Lk (b::t) ((q,W)::ks):=by
 intro T a hd;obtain⟨d1,d2,d3⟩:=a5T hd;have hd2:T.drop (a+(n+1))=t':=by rw[<-oz,hd,List.drop_succ_cons,ht]
 obtain⟨ts,h1,h2⟩:=H T (a+(n+1)) hd2;refine⟨⟨q,a,W⟩::ts,by rw[uh,h1];rfl,λk acc hk=>?_⟩;obtain⟨k,rfl⟩:∃j,k=j+1:=⟨k-1,zy⟩;rw[c5u hd,hs];grind
theorem c7h {b t}(h1:wsB b.toNat=false)(h2:b≠59)(h3:b=40->t.head?≠some 59):a7X (b::t)=some 0:=by
 show bcase (wsB b.toNat) (some 1) _=_;rw[h1,A8];cases t with
  |nil=>rfl|cons b1 t1=>
   have e1:beqBytes [b,b1] [59,59]=false:=by cases q:beqBytes [b,b1] [59,59]with|false=>rfl|true=>have:=a5f q;simp_all
   have e2:beqBytes [b,b1] [40,59]=false:=by cases q:beqBytes [b,b1] [40,59]with|false=>rfl|true=>have:=a5f q;simp_all
   simp_all[bcase]
theorem Lk.op {t ks}(h:t.head?≠some 59)(H:Lk t ks):Lk (40::t) ((0,[])::ks):=Lk.tok (n:=0) (c7h rfl zu λ_=>h) (λa=>rfl) (tX) H
theorem Lk.cl {t ks}(H:Lk t ks):Lk (41::t) ((1,[])::ks):=Lk.tok (n:=0) (c7h rfl zu λh=>absurd h zu) (λa=>rfl) (tX) H
theorem d2T:∀(W t),W.all (λb=>sgN b.toNat)=true->b2B t=false->a1q sgN (W++t)=W.length:=by
 intro W;induction W with
  |nil=>intro t _ h;cases t with|nil=>rfl|cons b t=>have h:sgN b.toNat=false:=h;show a1q sgN (b::t)=0;unfold a1q;rw[h];rfl
  |cons b W ih=>intro t h1 h2;rw[nM,wI]at h1;grind[a1q,D8]
theorem c6Z {b:UInt8}(h:sgN b.toNat=true):wsB b.toNat=false/\b≠59/\b≠40/\decide (b.toNat=40)=false/\decide (b.toNat=41)=false/\decide (b.toNat=34)=false:=by
 have key:∀n,n<256->sgN n=true->wsB n=false/\n≠59/\n≠40/\n≠41/\n≠34:=by have hall:J7 (λn=>!(sgN n)||(!(wsB n)&&(!(Nat.beq n 59)&&(!(Nat.beq n 40)&&(!(Nat.beq n 41)&& !(Nat.beq n 34)))))) (upN 256)=true:=zw;intro n hn hs;have:=(M5 _ _).1 hall n (uH.2 hn);rw[hs]at this;simp_all[Nat.ne_of_beq_eq_false]
 obtain⟨k1,k2,k3,k4,k5⟩:=key b.toNat (UInt8.toNat_lt b) h;exact⟨k1,λe=>k2 (by rw[e];rfl),λe=>k3 (by rw[e];rfl),wL k3,wL k4,wL k5⟩
theorem Lk.wd {W t ks}(h0:W≠[])(h1:W.all (λb=>sgN b.toNat)=true)(h2:b2B t=false)(H:Lk t ks):Lk (W++t) ((2,W)::ks):=by
 cases W with
  |nil=>simp_all|cons b W=>
   have hs:=d2T (b::W) t h1 h2;have hb:sgN b.toNat=true:=by rw[nM,wI]at h1;exact h1.1
   obtain⟨k1,k2,k3,k4,k5,k6⟩:=c6Z hb;have hs':a1q sgN (b::(W++t))=W.length+1:=hs;refine Lk.tok (n:=W.length) (c7h k1 k2 λe=>absurd e k3) (λa=>?_) List.drop_left H;show a6I a (b::(W++t))=_;unfold a6I;have e0:decide (W.length+1=0)=false:=rfl;simp_all[A8]
inductive Sp where
 | w (t:List UInt8)
 | l (xs:List Sp)
mutual
inductive Is:Nd→Sp→Prop
 | w {p:Nat} {t:List UInt8}:Is (.mk 2 p t []) (.w t)
 | l {p:Nat} {ns:List Nd} {xs:List Sp}:IsL ns xs→Is (.mk 0 p [] ns) (.l xs)
inductive IsL:List Nd→List Sp→Prop
 | nil:IsL [] []
 | cons {n:Nd} {x:Sp} {ns:List Nd} {xs:List Sp}:Is n x→IsL ns xs→IsL (n::ns) (x::xs)
end
inductive Bal:Nat→List (Nat×List UInt8)→List Sp→Prop
 | nil {d:Nat}:Bal d [] []
 | w {d:Nat} {W:List UInt8} {ks:List (Nat×List UInt8)} {xs:List Sp}:Bal d ks xs→Bal d ((2,W)::ks) (.w W::xs)
 | l {d:Nat} {k1 k2:List (Nat×List UInt8)} {x1 x2:List Sp}:Bal d k1 x1→Bal (d+1) k2 x2→Bal (d+1) ((0, [])::(k1 ++ (1, [])::k2)) (.l x1::x2)
theorem Bal.app {d k1 k2 x1 x2}(h1:Bal d k1 x1)(h2:Bal d k2 x2):Bal d (k1++k2) (x1++x2):=by induction h1 with|nil=>exact h2|w _ ih=>exact .w (ih h2)|l a b _ ih2=>have:=ih2 h2;rw[ut,vX];exact .l a this
theorem Bal.up {d d' ks xs}(h:Bal d ks xs)(hd:d<=d'):Bal d' ks xs:=by induction h generalizing d' with|nil=>exact .nil|w _ ih=>exact .w (ih hd)|l _ _ ih1 ih2=>obtain⟨e,rfl⟩:∃e,d'=e+1:=⟨d'-1,zy⟩;exact .l (ih1 zy) (ih2 hd)
theorem b5Z {ts:List Tok}{A B q}(h:ts.map Tok.e=A++q::B):∃t,ts[A.length]?=some t/\t.k=q.1/\t.t=q.2:=by
 have h1:(ts.map Tok.e)[A.length]?=some q:=by rw[h,vV (wP _),Nat.sub_self];rfl
 rw[vW]at h1;cases e:ts[A.length]? with|none=>rw[e]at h1;cases h1|some t=>rw[e]at h1;cases h1;exact⟨t,rfl,rfl,rfl⟩
theorem d2N {ts}:∀{d} {ks} {xs},Bal d ks xs->∀(A B) (deep),ts.map Tok.e=A++(ks++B)->deep+d<=200->∃ns,IsL ns xs/\∀k op acc,ts.length-A.length<k->∃k',ts.length-(A++ks).length<k'/\k'<=k/\a2d ts k A.length deep op acc=a2d ts k' (A++ks).length deep op (acc++ns):=by intro d ks xs H;induction H with|nil=>intro A B deep h hd;exact⟨[],.nil,λk op acc hk=>⟨k,by rw[wF];exact hk,wP _,by rw[wF,wF]⟩⟩| @w d W ks xs _ ih=>intro A B deep h hd;obtain⟨t,h1,h2,h3⟩:=b5Z (B:=ks++B) (by rw[h];rfl);have hlt:=(wM.1 h1).1;obtain⟨ns,g1,g2⟩:=ih (A++[(2,W)]) B deep zY hd;refine⟨.mk 2 t.p W []::ns,.cons .w g1,λk op acc hk=>?_⟩;obtain⟨k,rfl⟩:∃j,k=j+1:=⟨k-1,zy⟩;obtain⟨k',g3,g4,g5⟩:=g2 k op (acc++[.mk 2 t.p W []]) zl;have e1:(A++[(2,W)])++ks=A++(2,W)::ks:=zq;rw[e1]at g3 g5;refine⟨k',g3,zy,?_⟩;have e2:(A++[(2,W)]).length=A.length+1:=zq;rw[e2]at g5;rw[a8Z h1];have k2:t.k=2:=h2;have k3:t.t=W:=h3;rw[k2,k3];show a2d ts k (A.length+1) deep op (acc++[Nd.mk 2 t.p W []])=_;rw[g5];simp_all| @l d k1 k2 x1 x2 _ _ ih1 ih2=>intro A B deep h hd;obtain⟨t,h1,h2,h3⟩:=b5Z (B:=(k1++(1,[])::k2)++B) (by rw[h];rfl);have hlt:=(wM.1 h1).1;obtain⟨n1,a1,a2⟩:=ih1 (A++[(0,[])]) ((1,[])::k2++B) (deep+1) zY zy;obtain⟨t',b1,b2,b3⟩:=b5Z (ts:=ts) (A:=A++[(0,[])]++k1) (q:=(1,[])) (B:=k2++B) zY;have hlt':=(wM.1 b1).1;obtain⟨n2,c1,c2⟩:=ih2 (A++[(0,[])]++k1++[(1,[])]) B deep zY hd;refine⟨.mk 0 t.p [] n1::n2,.cons (.l a1) c1,λk op acc hk=>?_⟩;obtain⟨k,rfl⟩:∃j,k=j+1:=⟨k-1,zy⟩;have e2:(A++[(0,[])]).length=A.length+1:=zq;obtain⟨k',g3,g4,g5⟩:=a2 k t.p [] (by rw[e2];omega);obtain⟨k',rfl⟩:∃j,k'=j+1:=⟨k'-1,zy⟩;rw[e2]at g5;have e3:(A++[(0,[])]++k1++[(1,[])]).length=(A++[(0,[])]++k1).length+1:=zo;obtain⟨k'',g6,g7,g8⟩:=c2 k op (acc++[.mk 0 t.p [] n1]) (by rw[e3];omega);have e1:A++[(0,[])]++k1++[(1,[])]++k2=A++(0,[])::(k1++(1,[])::k2):=zq;rw[e1]at g6 g8;refine⟨k'',g6,zy,?_⟩;rw[a8Z h1];have j2:t.k=0:=h2;have j3:decide (deep=200)=false:=wL zy;rw[j2,j3];show(match a2d ts k (A.length+1) (deep+1) t.p []with|.er p e=>Rd.er p e|.ok l j=>a2d ts k j deep op (acc++[Nd.mk 0 t.p [] l]))=_;rw[g5,a8Z b1];have j4:t'.k=1:=b2;have j5:decide (deep+1=0)=false:=rfl;rw[j4,j5];show a2d ts k ((A++[(0,[])]++k1).length+1) deep op (acc++[Nd.mk 0 t.p [] ([]++n1)])=_;rw[vI,<-e3,g8];simp_all
theorem d3f {T ks xs}(h1:Lk T ks)(h2:Bal 200 ks xs):∃l j,a6x T=.ok l j/\IsL l xs:=by obtain⟨ts,e1,e2⟩:=h1 T 0 rfl;have e3:=e2 (T.length+1) [] zy;rw[vI]at e3;obtain⟨ns,g1,g2⟩:=d2N (ts:=ts++[(⟨4,T.length,[]⟩:Tok)]) h2 [] [(4,[])] 0 (by rw[uu,e1];rfl) zy;obtain⟨k',g3,g4,g5⟩:=g2 ((ts++[(⟨4,T.length,[]⟩:Tok)]).length+1) 0 [] zq;obtain⟨k',rfl⟩:∃j,k'=j+1:=⟨k'-1,zy⟩;obtain⟨t,b1,b2,b3⟩:=b5Z (ts:=ts++[(⟨4,T.length,[]⟩:Tok)]) (A:=[]++ks) (q:=(4,[])) (B:=[]) (by rw[uu,e1];rfl);refine⟨ns,([]++ks).length,?_,g1⟩;unfold a6x;rw[e3];show a2d _ _ 0 0 0 []=_;have g5':a2d (ts++[(⟨4,T.length,[]⟩:Tok)]) ((ts++[(⟨4,T.length,[]⟩:Tok)]).length+1) 0 0 0 []=a2d (ts++[(⟨4,T.length,[]⟩:Tok)]) (k'+1) ([]++ks).length 0 0 ([]++ns):=g5;rw[g5',a8Z b1];have j:t.k=4:=b2;rw[j];rfl
end
end Go.Proofs.YtmomonnlmbljoaaGreatDoor
