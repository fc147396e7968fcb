import Derived.Test.YtmomonnlmbljoaaGreatDoorGae
import Derived.Test.YtmomonnlmbljoaaGreatDoorGax
import Derived.Test.YtmomonnlmbljoaaGreatDoorGaz
set_option maxRecDepth 1000000
set_option maxHeartbeats 4000000
set_option linter.unusedVariables false
set_option linter.unusedSimpArgs false
noncomputable section
namespace Go.Proofs.YtmomonnlmbljoaaGreatDoor
open Go.V Go.RowKit Go.Shelf Go.Proofs
variable {mL:Int}
section
attribute [local congr] q9 x8 A8 z8 D5 x9 D6
def b0m (q:List UInt8->List UInt8->Value)(bs:List Value):Option Value:=match bs with|[.string s,.string s']=>some (q s.data.toList s'.data.toList)|_=>none
theorem c3j {q bs v}(h:b0m q bs=some v):∃T P,bs=[.string ⟨⟨T⟩⟩,.string ⟨⟨P⟩⟩]/\v=q T P:=by unfold b0m at h;split at h;grind;cases h
def b2r (T P:List UInt8):Value:=.bool (a0X T P)
theorem c9G:V6 Tryz.prog tab (L6 mL) 117 (λbs=>M.lift (b0m b2r bs)):=a2n a0n U6 (pL2 (mL:=mL)).e (pL2 (mL:=mL)).s Tryz.func117 zw rfl λbs v h=>by obtain⟨T,P,rfl,rfl⟩:=c3j h;refine⟨rfl,λc hh r w=>⟨2,a4B.pureE ?_ c hh r w⟩⟩;rw[a0Z (q:=c0u) (N:=NN) zw 1];exact e8u NN _ T P
theorem d4C:V6 Tryz.prog tab (L6 mL) 40 (X1 .i64 λz=>some (.string ⟨⟨a1f z⟩⟩)):=b7N a0n U6 pL2 Tryz.func40 zw rfl λz v h=>by cases h;exact⟨rfl,2,by rw[a1j (q:=c6f) (N:=NN) zw 1];exact a4B.pure (t40 _ _ z)⟩
def pe3:Nat->Option (List Value->M Value):=(J8 (J8 (J8 (J8 (J8 (J8 pe2 81 (XSI 4294967295 a3Y)) 186 (λbs=>M.lift (b0h bs))) 117 (λbs=>M.lift (b0m b2r bs))) 40 (X1 .i64 λz=>some (.string ⟨⟨a1f z⟩⟩))) 39 (X1 .i64 λz=>bcase (a3M z) (some (.int .i64 (.ofNat (P9 z)))) none)) 94 (X1 .i64 a4p))
def ps3:a1r:=(R4 (R4 (R4 (R4 (R4 (R4 ps2 81 (XSI 4294967295 a3Y)) 186 (λbs=>M.lift (b0h bs))) 117 (λbs=>M.lift (b0m b2r bs))) 40 (X1 .i64 λz=>some (.string ⟨⟨a1f z⟩⟩))) 39 (X1 .i64 λz=>bcase (a3M z) (some (.int .i64 (.ofNat (P9 z)))) none)) 94 (X1 .i64 a4p))
theorem pL3:Shelf' Tryz.prog tab (L6 mL) NN pe3 ps3:=(((((((((((pL2.add d4P)).add c9B)).add c9G).add d4C)).add c9p).add d5n)))
theorem d9P (n T P):o8 ps3 (n+1) 117 [.string ⟨⟨T⟩⟩,.string ⟨⟨P⟩⟩]=M.pure (.ret (.bool (a0X T P))):=a0o ps3 n 117 _ (g:=b0m b2r) zw rfl
theorem e4y (n z):o8 ps3 (n+1) 40 [.int .i64 z]=M.pure (.ret (.string ⟨⟨a1f z⟩⟩)):=a6G (q:=λz=>some (.string ⟨⟨a1f z⟩⟩)) zw n rfl
theorem d5x:V6 Tryz.prog tab (L6 mL) 80 (λbs=>M.lift (b0m b2r bs)):=a2n a0n U6 (pL3 (mL:=mL)).e (pL3 (mL:=mL)).s Tryz.func80 zw rfl λbs v h=>by obtain⟨T,P,rfl,rfl⟩:=c3j h;refine⟨rfl,λc hh r w=>⟨2,a4B.pureE ?_ c hh r w⟩⟩;rw[a0Z (q:=d3e) (N:=NN) zw 1];simp(disch:=first|exact dz|fail)only[F80,d9P,bX];rfl
def a6v (T:List UInt8):Option Nat:=bcase (beqBytes [105,51,50] T) (some 1) (bcase (beqBytes [105,54,52] T) (some 2) (bcase (beqBytes [102,117,110,99,114,101,102] T) (some 3) (bcase (beqBytes [101,120,116,101,114,110,114,101,102] T) (some 4) none)))
def a0E (T:List UInt8):Value:=match a6v T with|some k=>.tuple ⟨[.int .i64 (.ofNat k),.bool true]⟩|none=>.tuple ⟨[.int .i64 (.ofNat 0),.bool false]⟩
theorem vn1:a1f (Int.ofNat 1)=[105,51,50]:=wm rfl rfl
theorem vn2:a1f (Int.ofNat 2)=[105,54,52]:=wm rfl rfl
theorem vn3:a1f (Int.ofNat 3)=[102,117,110,99,114,101,102]:=wm rfl rfl
theorem vn4:a1f (Int.ofNat 4)=[101,120,116,101,114,110,114,101,102]:=wm rfl rfl
theorem e9x (call)(hc:∀z,call 40 [.int .i64 z]=M.pure (.ret (.string ⟨⟨a1f z⟩⟩)))(T c h r w):l9 (go (b9J o9 NN call (.string ⟨⟨T⟩⟩)) ⟨c,h,r,w⟩) λx s=>x=.ret (a0E T)/\∀i,i<c->s.h.get i=h.get i:=by have d1:decide (Int.ofNat 1<=Int.ofNat 4)=true:=rfl;have d2:decide (Int.ofNat 2<=Int.ofNat 4)=true:=rfl;have d3:decide (Int.ofNat 3<=Int.ofNat 4)=true:=rfl;have d4:decide (Int.ofNat 4<=Int.ofNat 4)=true:=rfl;have d5:decide (Int.ofNat 5<=Int.ofNat 4)=false:=rfl;have i1:N8 .i64 (Int.ofNat 1+Int.ofNat 1)=Int.ofNat 2:=rfl;have i2:N8 .i64 (Int.ofNat 2+Int.ofNat 1)=Int.ofNat 3:=rfl;have i3:N8 .i64 (Int.ofNat 3+Int.ofNat 1)=Int.ofNat 4:=rfl;have i4:N8 .i64 (Int.ofNat 4+Int.ofNat 1)=Int.ofNat 5:=rfl;obtain⟨k,hN⟩:∃k,NN=k+6:=⟨NN-6,zq⟩;rw[hN];unfold a0E a6v;cases q1:beqBytes [105,51,50] T with|true=>simp(disch:=first|exact dz|fail)only[c1s,c1B,a0C,hc,vn1,d1,q1,bY];exact l9.done ⟨rfl,λi hi=>rfl⟩|false=>cases q2:beqBytes [105,54,52] T with|true=>simp(disch:=first|exact dz|fail)only[c1s,c1B,a0C,hc,vn1,vn2,d1,d2,i1,q1,q2,bY];exact l9.done ⟨rfl,λi hi=>rfl⟩|false=>cases q3:beqBytes [102,117,110,99,114,101,102] T with|true=>simp(disch:=first|exact dz|fail)only[c1s,c1B,a0C,hc,vn1,vn2,vn3,d1,d2,d3,i1,i2,q1,q2,q3,bY];exact l9.done ⟨rfl,λi hi=>rfl⟩|false=>cases q4:beqBytes [101,120,116,101,114,110,114,101,102] T with|true=>simp(disch:=first|exact dz|fail)only[c1s,c1B,a0C,hc,vn1,vn2,vn3,vn4,d1,d2,d3,d4,i1,i2,i3,q1,q2,q3,q4,bY];exact l9.done ⟨rfl,λi hi=>rfl⟩|false=>simp(disch:=first|exact dz|fail)only[c1s,c1B,a0C,hc,vn1,vn2,vn3,vn4,d1,d2,d3,d4,d5,i1,i2,i3,i4,q1,q2,q3,q4,bY];exact l9.done ⟨rfl,λi hi=>rfl⟩
def XT (q:List UInt8->Value)(bs:List Value):Option Value:=match bs with|[.string s]=>some (q s.data.toList)|_=>none
theorem c3F {q bs v}(h:XT q bs=some v):∃T,bs=[.string ⟨⟨T⟩⟩]/\v=q T:=by unfold XT at h;split at h;grind;cases h
theorem b1s (T):M7 8 (a0E T)=true:=by unfold a0E;cases a6v T<;>rfl
theorem c8v:V6 Tryz.prog tab (L6 mL) 182 (λbs=>M.lift (XT a0E bs)):=a2n a0n U6 (pL3 (mL:=mL)).e (pL3 (mL:=mL)).s Tryz.func182 zw rfl λbs v h=>by obtain⟨T,rfl,rfl⟩:=c3F h;refine⟨b1s T,λc hh r w=>⟨2,?_⟩⟩;rw[a1j (q:=b9J) (N:=NN) zw 1];grind[e9x,e4y]
def c7t (b:UInt8):Bool:=decide (b.toNat=36)||(decide (48<=b.toNat)&&decide (b.toNat<=57))
def c1Y (T:List UInt8):Bool:=match T with|[]=>false|b::_=>c7t b
def Z0 (k:Nat)(T:List UInt8):Bool:=decide (k=2)&&c1Y T
theorem J5 (a b):decide (Int.ofNat a=Int.ofNat b)=decide (a=b):=zu
theorem c6v (b T):b6c (.string ⟨⟨b::T⟩⟩) (.int .i64 (.ofNat 0))=M.pure (.int .u8 (.ofNat b.toNat)):=rfl
theorem c3G (b T):beqBytes (b::T) []=false:=wm rfl rfl
theorem d7m:beqBytes [] []=true:=wm rfl rfl
theorem e9o (N call k p T a n e c h r w):l9 (go (b9q o9 N call (.agg ⟨[.int .i64 (.ofNat k),.int .i64 (.ofNat p),.string ⟨⟨T⟩⟩,.slice a n e]⟩)) ⟨c,h,r,w⟩) λx s=>x=.ret (.bool (Z0 k T))/\∀i,i<c->s.h.get i=h.get i:=by unfold Z0;have hf:∀i,i<c->i≠c:=λi hi=>zy;cases q1:decide (k=2)with|false=>simp(disch:=first|exact dz|fail)only[c2H,J5,q1,bY];exact l9.done ⟨rfl,λi hi=>zl⟩|true=>cases T with|nil=>simp(disch:=first|exact dz|fail)only[c2H,J5,q1,d7m,c1Y,bY];exact l9.done ⟨rfl,λi hi=>zl⟩|cons b T=>unfold c1Y c7t;cases q2:decide (b.toNat=36)with|true=>simp(disch:=first|exact dz|fail)only[c2H,J5,q1,q2,c3G,c6v,bY];exact l9.done ⟨rfl,λi hi=>zl⟩|false=>cases q3:decide (48<=b.toNat)with|false=>simp(disch:=first|exact dz|fail)only[c2H,J5,dle,q1,q2,q3,c3G,c6v,bY];exact l9.done ⟨rfl,λi hi=>zl⟩|true=>simp(disch:=first|exact dz|fail)only[c2H,J5,dle,q1,q2,q3,c3G,c6v,bY];exact l9.done ⟨rfl,λi hi=>zl⟩
def XN (q:Nat->List UInt8->Value)(bs:List Value):Option Value:=match bs with|[.agg ⟨[.int .i64 (.ofNat k),.int .i64 (.ofNat _),.string s,.slice _ _ _]⟩]=>some (q k s.data.toList)|_=>none
theorem d9s {q bs v}(h:XN q bs=some v):∃k p T a n e,bs=[.agg ⟨[.int .i64 (.ofNat k),.int .i64 (.ofNat p),.string ⟨⟨T⟩⟩,.slice a n e]⟩]/\v=q k T:=by unfold XN at h;split at h;grind;cases h
def c7E (k:Nat)(T:List UInt8):Value:=.bool (Z0 k T)
theorem c8i:V6 Tryz.prog tab (L6 mL) 184 (λbs=>M.lift (XN c7E bs)):=a2n a0n U6 (pL3 (mL:=mL)).e (pL3 (mL:=mL)).s Tryz.func184 zw rfl λbs v h=>by obtain⟨k,p,T,a,n,e,rfl,rfl⟩:=d9s h;refine⟨rfl,λc hh r w=>⟨2,?_⟩⟩;rw[a1j (q:=b9q) (N:=NN) zw 1];exact e9o _ _ k p T a n e c hh r w
structure Sl where
 a:Option Addr
 n:Nat
 e:Nat
inductive Nd where
 | mk (k p:Nat) (t:List UInt8) (l:List Nd)
def Nd.k:Nd->Nat|.mk k _ _ _=>k
def Nd.p:Nd->Nat|.mk _ p _ _=>p
def Nd.t:Nd->List UInt8|.mk _ _ t _=>t
def Nd.l:Nd->List Nd|.mk _ _ _ l=>l
def ndV (n:Nd)(v:Sl):Value:=.agg ⟨[.int .i64 (.ofNat n.k),.int .i64 (.ofNat n.p),.string ⟨⟨n.t⟩⟩,.slice v.a v.n v.e]⟩
inductive NdL (U:Nat→Prop) (h:Trie VObj):Sl→List Nd→Prop
 | nil:NdL U h ⟨none, 0, 0⟩ []
 | row {b o g cur:Nat} {cs:List (Value×Nat)} {ro:Bool} {l:List Nd} (vs:Nat→Sl):U b→h.get b=some (.cells cs cur ro)→l.length<1800000 →
  (∀ (i:Nat) n,l[i]?=some n→n.t.length<1800000∧A7 g (F8 cs (o+i * 4)) 4=some [.int .i64 (.ofNat n.k),.int .i64 (.ofNat n.p),.string ⟨⟨n.t⟩⟩,.slice (vs i).a (vs i).n (vs i).e]) →
  (∀ (i:Nat) n,l[i]?=some n→NdL U h (vs i) n.l)→NdL U h ⟨some ⟨b,o,some g⟩,l.length, 4⟩ l
theorem NdL.mono {U U' h h' v l}(H:NdL U h v l)(hu:∀i,U i->U' i/\h'.get i=h.get i):NdL U' h' v l:=by induction H with|nil=>exact .nil|row vs h1 h2 h3 h4 _ ih=>exact .row vs (hu _ h1).1 ((hu _ h1).2.trans h2) h3 h4 ih
theorem NdL.len {U h v l}(H:NdL U h v l):v.n=l.length/\l.length<1800000:=by cases H<;>simp_all
theorem NdL.get {U h v l}(H:NdL U h v l){i n}(hi:l[i]?=some n):∃b q g cs cur ro lv,U b/\h.get b=some (.cells cs cur ro)/\NdL U h lv n.l/\n.t.length<1800000/\(∀k,a7l 4 (.slice v.a v.n v.e) (.int k (.ofNat i))=M.pure (.pointer (some ⟨b,q,some g⟩)))/\A7 g (F8 cs q) 4=some [.int .i64 (.ofNat n.k),.int .i64 (.ofNat n.p),.string ⟨⟨n.t⟩⟩,.slice lv.a lv.n lv.e]/\A7 g (F8 cs q) 1=some [.int .i64 (.ofNat n.k)]/\A7 g (F8 cs (q+1)) 1=some [.int .i64 (.ofNat n.p)]/\A7 g (F8 cs (q+2)) 1=some [.string ⟨⟨n.t⟩⟩]/\A7 g (F8 cs (q+3)) 1=some [.slice lv.a lv.n lv.e]:=by
 cases H with
  |nil=>cases hi| @row b o g cur cs ro _ vs h1 h2 h3 h4 h5=>
   have hl:i<l.length:=(xC.1 hi).1;obtain⟨ht,h6⟩:=h4 i n hi;have one:∀(j:Nat) (y:Value),([.int .i64 (.ofNat n.k),.int .i64 (.ofNat n.p),.string ⟨⟨n.t⟩⟩,.slice (vs i).a (vs i).n (vs i).e]:List Value)[j]?=some y->A7 g (F8 cs (o+i*4+j)) 1=some [y]:=by grind[a3y,a1e]
   exact⟨b,o+i*4,g,cs,cur,ro,vs i,h1,h2,h5 i n hi,ht,λk=>a1d 4 i l.length k b o (some g) hl zq,h6,one 0 _ rfl,one 1 _ rfl,one 2 _ rfl,one 3 _ rfl⟩
structure RV where
 i:Nat
 op:Nat
 A:Nat
 B:Nat
 N:Nat
 k:Nat
 v:Nat
 bi:Nat
 ts:Sl
 ls:Sl
 nm:List UInt8
structure PV where
 out:Sl
 lb:Nat
 p:Nat
 e:Nat
def a0Y (R:RV):List Value:=[.int .i64 (.ofNat R.op),.int .i64 (.ofNat R.A),.int .i64 (.ofNat R.B),.int .u64 (.ofNat R.N),.int .i64 (.ofNat R.k),.int .i64 (.ofNat R.v),.int .i64 (.ofNat R.bi),.slice R.ts.a R.ts.n R.ts.e,.slice R.ls.a R.ls.n R.ls.e]
def J9 (ap:Nat)(lv:Sl)(q:Nat)(R:RV):List (Value×Nat):=[(.pointer (some ⟨ap,0,some 0⟩),0),(.slice lv.a lv.n lv.e,0),(.int .i64 (.ofNat R.i),0),(.int .i64 (.ofNat q),0),(.int .i64 (.ofNat R.op),0),(.int .i64 (.ofNat R.A),0),(.int .i64 (.ofNat R.B),0),(.int .u64 (.ofNat R.N),0),(.int .i64 (.ofNat R.k),0),(.int .i64 (.ofNat R.v),0),(.int .i64 (.ofNat R.bi),0),(.slice R.ts.a R.ts.n R.ts.e,0),(.slice R.ls.a R.ls.n R.ls.e,0),(.string ⟨⟨R.nm⟩⟩,0)]
def H7 (sv fo:Value)(P:PV):List (Value×Nat):=[(sv,0),(.slice P.out.a P.out.n P.out.e,0),(.int .i64 (.ofNat P.lb),0),(.int .i64 (.ofNat P.p),0),(.int .i64 (.ofNat P.e),0),(fo,0)]
structure At (U:Nat→Prop) (h0:Trie VObj) (sv fo:Value) (ar ap:Nat) (lv:Sl) (q c:Nat) (h:Trie VObj) (R:RV) (P:PV):Prop where
 u:∀ i,U i→i<c∧i≠ar∧i≠ap∧h.get i=h0.get i
 r:ar<c
 p:ap<c
 ne:ar≠ap
 hr:h.get ar=some (.cells (J9 ap lv q R) 0 false)
 hp:h.get ap=some (.cells (H7 sv fo P) 0 false)
inductive Rs where
 | ok (R:RV)
 | er (p e:Nat)
def Rs.P (P:PV):Rs->PV|.ok _=>P|.er p e=>{P with p:=p,e:=e}
def Rs.b:Rs->Bool|.ok _=>true|.er _ _=>false
structure Fin (U:Nat→Prop) (h0:Trie VObj) (sv fo:Value) (ar ap:Nat) (lv:Sl) (q c:Nat) (h:Trie VObj) (P:PV) (rs:Rs) (s:V.S):Prop where
 le:c≤s.c
 same:∀ i,i<c→i≠ar→i≠ap→s.h.get i=h.get i
 at':∃ R',At U h0 sv fo ar ap lv q s.c s.h R' (rs.P P)∧∀ R1,rs=.ok R1→R'=R1
theorem c2l (m:Nat)(s:ByteArray):b1d tab 94 (.map (some m)) (.string s) true=M.bind (a6s m) λes=>M.obind (Y9 (.string s) es) λo=>match o with|some v=>M.pure (.tuple ⟨[v,.bool true]⟩)|none=>M.pure (.tuple ⟨[.int .i64 (.ofNat 0),.bool false]⟩):=zw
theorem b7i (m:Nat)(n:Int):b1d tab 90 (.map (some m)) (.int .i64 n) false=M.bind (a6s m) λes=>M.obind (Y9 (.int .i64 n) es) λo=>match o with|some v=>M.pure v|none=>M.pure (.pointer none):=zw
theorem a6h (m c h r w es)(hm:m<c)(e:h.get m=some (.map es)):go (a6s m) ⟨c,h,r,w⟩=some (es,⟨c,h,m::r,w⟩):=by unfold a6s;rw[M5];show U3 (rd m ⟨c,h,r,w⟩) _=_;rw[b5M,L8 hm,e];rfl
theorem b0S (t:Nat)(a):a0J Tryz.prog tab .neq 44 (.tmp t) (.const (.pointer none)) (.pointer (some a)) (.pointer none)=M.pure (.bool true):=zw
theorem b0X (t:Nat)(m):a0J Tryz.prog tab .neq 90 (.tmp t) (.const (.map none)) (.map (some m)) (.map none)=M.pure (.bool true):=zw
theorem c6w (t:Nat)(a):a0J Tryz.prog tab .eql 93 (.tmp t) (.const (.pointer none)) (.pointer (some a)) (.pointer none)=M.pure (.bool false):=zw
def a9S (v:Value)(k:Nat):M (List (Value×Value)):=a0G v λa=>M.bind (loadN a 2) λvs=>match vs with
 |[.map (some m),_]=>M.bind (a6s m) λes=>M.obind (Y9 (.int .i64 (.ofNat k)) es) λo=>M.obind o λpv=>a0G pv λb=>M.bind (loadN b 3) λws=>match ws with|[_,_,.map (some m2)]=>a6s m2|_=>M.fail
 |_=>M.fail
def b5t (fs:List (Value×Value))(T:List UInt8):Option Value:=bcase (a0X T [36]) (match Y9 (.string ⟨⟨T⟩⟩) fs with|some (some (.int .i64 n))=>some (.tuple ⟨[.int .i64 n,.int .i64 (.ofNat 0)]⟩)|some none=>some (.tuple ⟨[.int .i64 (.ofNat 0),.int .i64 (.ofNat 24)]⟩)|_=>none) (bcase (Nat.blt (F9 T) 1800000) (some (a3Y T)) none)
def XF (bs:List Value):M Value:=match bs with|[v,.int .i64 (.ofNat k),.string s]=>M.bind (a9S v k) λfs=>M.lift (b5t fs s.data.toList)|_=>M.fail
theorem a2R {α v}{k:Addr->M α}{s s' u}(h:a0G v k s=some (u,s')):∃a,v=.pointer (some a)/\k a s=some (u,s'):=by unfold a0G at h;split at h;simp_all[H9];cases h
theorem b2C {a n s s' vs}(h:loadN a n s=some (vs,s')):∃b o g cs cur ro,a=⟨b,o,some g⟩/\b<s.c/\s.h.get b=some (.cells cs cur ro)/\A7 g (F8 cs o) n=some vs/\s'.c=s.c/\s'.h=s.h:=by obtain⟨b,o,sp⟩:=a;unfold loadN at h;obtain⟨g,hg,h⟩:=H9 h;obtain⟨ob,s1,h1,h2⟩:=E8 h;obtain⟨r1,r2,r3,r4⟩:=a9Q h1;cases ob with|cells cs cur ro=>obtain⟨q1,q2⟩:=a5a (h2:M.lift (A7 g (F8 cs o) n) s1=_);grind|_=>cases h2
theorem c3a {m s s' es}(h:a6s m s=some (es,s')):m<s.c/\s.h.get m=some (.map es)/\s'.c=s.c/\s'.h=s.h:=by unfold a6s at h;obtain⟨ob,s1,h1,h2⟩:=E8 h;obtain⟨r1,r2,r3,r4⟩:=a9Q h1;cases ob with|map es'=>obtain⟨rfl,rfl⟩:=y8 (h2:M.pure es' s1=_);simp_all|_=>cases h2
structure KindAt (U:Nat→Prop) (h:Trie VObj) (v:Value) (k:Nat) (fs:List (Value×Value)):Prop where
 ex:∃ sb so g cs cur ro m lv es kb ko kg ds cur2 ro2 n nm m2,v=.pointer (some ⟨sb,so,some g⟩)∧U sb∧h.get sb=some (.cells cs cur ro)∧A7 g (F8 cs so) 2=some [.map (some m),lv]∧U m∧h.get m=some (.map es) ∧
  Y9 (.int .i64 (.ofNat k)) es=some (some (.pointer (some ⟨kb,ko,some kg⟩)))∧U kb∧h.get kb=some (.cells ds cur2 ro2)∧A7 kg (F8 ds ko) 3=some [n,nm,.map (some m2)]∧U m2∧h.get m2=some (.map fs)
theorem KindAt.mono {U U' h h' v k fs}(H:KindAt U h v k fs)(hu:∀i,U i->U' i/\h'.get i=h.get i):KindAt U' h' v k fs:=by obtain⟨sb,so,g,cs,cur,ro,m,lv,es,kb,ko,kg,ds,cur2,ro2,n,nm,m2,rfl,h1,h2,h3,h4,h5,h6,h7,h8,h9,h10,h11⟩:=H.ex;exact⟨sb,so,g,cs,cur,ro,m,lv,es,kb,ko,kg,ds,cur2,ro2,n,nm,m2,rfl,(hu _ h1).1,(hu _ h1).2.trans h2,h3,(hu _ h4).1,(hu _ h4).2.trans h5,h6,(hu _ h7).1,(hu _ h7).2.trans h8,h9,(hu _ h10).1,(hu _ h10).2.trans h11⟩
theorem c6L {v k s s' fs}(h:a9S v k s=some (fs,s')):KindAt (λi=>i<s.c) s.h v k fs/\s'.c=s.c/\s'.h=s.h:=by unfold a9S at h;obtain⟨a,rfl,g1⟩:=a2R h;obtain⟨vs,s1,h1,g2⟩:=E8 g1;obtain⟨sb,so,g,cs,cur,ro,rfl,a1,a2,a3,a4,a5⟩:=b2C h1;split at g2;rename_i m lv;obtain⟨es,s2,h2,g3⟩:=E8 g2;obtain⟨b1,b2,b3,b4⟩:=c3a h2;obtain⟨o,ho,g4⟩:=H9 g3;obtain⟨pv,hpv,g5⟩:=H9 g4;obtain⟨b,rfl,g6⟩:=a2R g5;obtain⟨ws,s3,h3,g7⟩:=E8 g6;obtain⟨kb,ko,kg,ds,cur2,ro2,rfl,c1,c2,c3,c4,c5⟩:=b2C h3;split at g7;rename_i n nm m2;obtain⟨d1,d2,d3,d4⟩:=c3a g7;subst hpv;refine⟨⟨sb,so,g,cs,cur,ro,m,lv,es,kb,ko,kg,ds,cur2,ro2,n,nm,m2,rfl,a1,a2,a3,zy,by rw[<-a5];exact b2,ho,zy,by rw[<-a5,<-b4];exact c2,c3,zy,by rw[<-a5,<-b4,<-c5];exact d2⟩,zy,by rw[d4,c5,b4,a5]⟩;cases g7;cases g2
theorem e3W (bs):Fr (XF bs):=by unfold XF;split;refine Fr.bind ?_ λ_=>Fr.lift _;unfold a9S;refine Fr.asPtr _ λa=>Fr.bind (Fr.loadN _ _) λvs=>?_;split;grind[Fr.bind,Fr.mapAt,Fr.obind,Fr.asPtr,Fr.loadN,Fr.fail];exact Fr.fail;exact Fr.fail
theorem b7k {fs T y}(h:b5t fs T=some y):(a0X T [36]=true/\((∃n,Y9 (.string ⟨⟨T⟩⟩) fs=some (some (.int .i64 n))/\y=.tuple ⟨[.int .i64 n,.int .i64 (.ofNat 0)]⟩)\/(Y9 (.string ⟨⟨T⟩⟩) fs=some none/\y=.tuple ⟨[.int .i64 (.ofNat 0),.int .i64 (.ofNat 24)]⟩)))\/(a0X T [36]=false/\T.length<1800000/\y=a3Y T):=by unfold b5t at h;cases q:a0X T [36]with|true=>rw[q]at h;refine Or.inl ⟨rfl,?_⟩;have h':(match Y9 (.string ⟨⟨T⟩⟩) fs with|some (some (.int .i64 n))=>some (Value.tuple ⟨[.int .i64 n,.int .i64 (.ofNat 0)]⟩)|some none=>some (.tuple ⟨[.int .i64 (.ofNat 0),.int .i64 (.ofNat 24)]⟩)|_=>none)=some y:=h;grind|false=>rw[q]at h;have h':bcase (Nat.blt (F9 T) 1800000) (some (a3Y T)) none=some y:=h;cases q2:Nat.blt (F9 T) 1800000 with|true=>rw[q2]at h';cases h';exact Or.inr ⟨rfl,by rw[J2]at q2;simpa using q2,rfl⟩|false=>rw[q2]at h';cases h'
def pe4:Nat->Option (List Value->M Value):=(J8 (J8 (J8 pe3 80 (λbs=>M.lift (b0m b2r bs))) 182 (λbs=>M.lift (XT a0E bs))) 184 (λbs=>M.lift (XN c7E bs)))
def ps4:a1r:=(R4 (R4 (R4 ps3 80 (λbs=>M.lift (b0m b2r bs))) 182 (λbs=>M.lift (XT a0E bs))) 184 (λbs=>M.lift (XN c7E bs)))
theorem pL4:Shelf' Tryz.prog tab (L6 mL) NN pe4 ps4:=(((pL3.add d5x)).add c8v).add c8i
theorem b5O (n T P):o8 ps4 (n+1) 80 [.string ⟨⟨T⟩⟩,.string ⟨⟨P⟩⟩]=M.pure (.ret (.bool (a0X T P))):=a0o ps4 n 80 _ (g:=b0m b2r) zw rfl
theorem d4F (n T)(h:T.length<1800000):o8 ps4 (n+1) 81 [.string ⟨⟨T⟩⟩,.int .i64 (.ofNat 4294967295)]=M.pure (.ret (a3Y T)):=a0o ps4 n 81 _ (g:=b2u 4294967295 a3Y) zw (b3Q _ _ T h)
theorem b6b (n a):o8 ps4 (n+1) 79 [a]=b1E o9 NN (o8 ps4 n) a:=a1j (q:=b1E) (N:=NN) zw n a
theorem c2A (n a b):o8 ps4 (n+1) 106 [a,b]=b1B o9 NN (o8 ps4 n) a b:=a0Z (q:=b1B) (N:=NN) zw n a b
theorem c1n (T):a3Y T=.tuple ⟨[.int .i64 (.ofNat (a0T T).1),.int .i64 (.ofNat (a0T T).2)]⟩:=rfl
theorem e8A {c c0 h v k fs}(H:KindAt (λi=>i<c0) h v k fs)(hc:c0<=c){T y}(hy:b5t fs T=some y)(r w):l9 (go (c0o o9 NN (o8 ps4 3) v (.int .i64 (.ofNat k)) (.string ⟨⟨T⟩⟩)) ⟨c,h,r,w⟩) λx s=>x=.ret y/\∀i,i<c->s.h.get i=h.get i:=by
 obtain⟨sb,so,g,cs,cur,ro,m,lv,es,kb,ko,kg,ds,cur2,ro2,n,nm,m2,rfl,h1,h2,h3,h4,h5,h6,h7,h8,h9,h10,h11⟩:=H.ex;have a1:sb<c:=zy;have a2:m<c:=zy;have a3:kb<c:=zy;have a4:m2<c:=zy;have t1:A7 g (F8 cs so) 1=some [.map (some m)]:=a1e h3 0 _ rfl▸by rw[Y7]
 have t2:A7 kg (F8 ds (ko+2)) 1=some [.map (some m2)]:=by rw[a3y];exact a1e h9 2 _ rfl
 have e1:=λr w=>a6h m c h r w es a2 h5;have e2:=λr w=>a6h m2 c h r w fs a4 h11;rcases b7k hy with⟨p1,⟨z,p2,rfl⟩|⟨p2,rfl⟩⟩|⟨p1,p2,rfl⟩;simp(disch:=first|exact dz|fail)only[d2V,b6b,F79,c2A,d1J,b5O,b7i,c2l,b0S,b0X,c6w,h2,h8,t1,t2,e1,e2,h6,p1,p2,bY];exact l9.done ⟨rfl,λi hi=>rfl⟩;simp(disch:=first|exact dz|fail)only[d2V,b6b,F79,c2A,d1J,b5O,b7i,c2l,b0S,b0X,c6w,h2,h8,t1,t2,e1,e2,h6,p1,p2,bY];exact l9.done ⟨rfl,λi hi=>rfl⟩;simp(disch:=first|exact dz|fail)only[d2V,b6b,F79,c2A,d1J,b5O,d4F,b7i,b0S,b0X,c6w,h2,t1,e1,h6,p1,c1n,bY];exact l9.done ⟨rfl,λi hi=>rfl⟩
theorem c9m:V6 Tryz.prog tab (L6 mL) 207 XF:=b0I a0n U6 (pL4 (mL:=mL)).e (pL4 (mL:=mL)).s Tryz.func207 zw rfl e3W λbs s y s1 hq=>by unfold XF at hq;split at hq;rename_i v k t;obtain⟨fs,s2,h1,h2⟩:=E8 hq;obtain⟨h3,rfl⟩:=a5a h2;obtain⟨h4,h5,h6⟩:=c6L h1;refine⟨?_,h5,h6,λc hc=>⟨4,?_⟩⟩;rcases b7k h3 with⟨_,⟨z,_,rfl⟩|⟨_,rfl⟩⟩|⟨_,_,rfl⟩<;>rfl;rw[a5I (q:=c0o) (N:=NN) zw 3];exact e8A h4 hc h3 _ _;cases hq
def a1R (s:List UInt8):Value:=.string ⟨⟨s⟩⟩
def b4i (vs:List Value):Option (List (List UInt8)):=List.rec (motive:=λ_=>Option (List (List UInt8))) (some []) (λv _ ih=>match v with
 |.string s=>match ih with|some l=>some (s.data.toList::l)|none=>none
 |_=>none) vs
theorem d2I (l):b4i (l.map a1R)=some l:=by induction l<;>simp_all[b4i,a1R]
theorem c9V:∀{vs} {l},b4i vs=some l->vs=l.map a1R:=by
 intro vs;induction vs with
  |nil=>intro l h;cases h;rfl|cons v vs ih=>
   intro l h;cases v with
    |string s=>have h':(match b4i vs with|some l=>some (s.data.toList::l)|none=>none)=some l:=h;cases q:b4i vs with|none=>rw[q]at h';cases h'|some l'=>rw[q]at h';cases h';rw[ih q];rfl
    |_=>cases h
def SlU (U:Nat->Prop)(h:Trie VObj)(v:Sl)(vs:List Value):Prop:=v.n=vs.length/\(vs=[]\/∃b o g cs cur ro,v.a=some ⟨b,o,some g⟩/\v.e=1/\U b/\h.get b=some (.cells cs cur ro)/\A7 g (F8 cs o) vs.length=some vs)
theorem SlU.mono {U U' h h' v vs}(H:SlU U h v vs)(hu:∀i,U i->U' i/\h'.get i=h.get i):SlU U' h' v vs:=by obtain⟨h0,h1|⟨b,o,g,cs,cur,ro,h1,h2,h3,h4,h5⟩⟩:=H;exact⟨h0,Or.inl h1⟩;exact⟨h0,Or.inr ⟨b,o,g,cs,cur,ro,h1,h2,(hu _ h3).1,(hu _ h3).2.trans h4,h5⟩⟩
theorem SlU.of {c h a n e vs}(H:SlV c h (.slice a n e) vs):SlU (λi=>i<c) h ⟨a,n,e⟩ vs:=by obtain⟨a',e',h0,h1⟩:=H;cases h0;exact⟨rfl,h1⟩
structure LabAt (U:Nat→Prop) (h:Trie VObj) (v:Value) (L:List (List UInt8)):Prop where
 ex:∃ sb so g cs cur ro m lv,v=.pointer (some ⟨sb,so,some g⟩)∧U sb∧h.get sb=some (.cells cs cur ro)∧A7 g (F8 cs so) 2=some [.map (some m),.slice (Sl.a lv) lv.n lv.e]∧SlU U h lv (L.map a1R)
 len:L.length<1800000
theorem LabAt.mono {U U' h h' v L}(H:LabAt U h v L)(hu:∀i,U i->U' i/\h'.get i=h.get i):LabAt U' h' v L:=by obtain⟨⟨sb,so,g,cs,cur,ro,m,lv,rfl,h1,h2,h3,h4⟩,h5⟩:=H;exact⟨⟨sb,so,g,cs,cur,ro,m,lv,rfl,(hu _ h1).1,(hu _ h1).2.trans h2,h3,h4.mono hu⟩,h5⟩
def b2e (v:Value):M (List (List UInt8)):=a0G v λa=>M.bind (loadN a 2) λvs=>match vs with|[.map (some _),.slice la ln le]=>M.bind (c6m (.slice la ln le)) λws=>M.obind (b4i ws) λL=>M.guard (Nat.blt (F9 L) 1800000) (M.pure L)|_=>M.fail
theorem c8l {v s s' L}(h:b2e v s=some (L,s')):LabAt (λi=>i<s.c) s.h v L/\s'.c=s.c/\s'.h=s.h:=by unfold b2e at h;obtain⟨a,rfl,g1⟩:=a2R h;obtain⟨vs,s1,h1,g2⟩:=E8 g1;obtain⟨sb,so,g,cs,cur,ro,rfl,a1,a2,a3,a4,a5⟩:=b2C h1;split at g2;rename_i m la ln le;obtain⟨ws,s2,h2,g3⟩:=E8 g2;obtain⟨b1,b2,b3⟩:=d2L h2;obtain⟨L',hL,g4⟩:=H9 g3;obtain⟨g5,g6⟩:=I4 g4;obtain⟨rfl,rfl⟩:=y8 g6;rw[c9V hL]at b1;refine⟨⟨⟨sb,so,g,cs,cur,ro,m,⟨la,ln,le⟩,rfl,a1,a2,a3,?_⟩,by rw[J2]at g5;simpa using g5⟩,zy,by rw[b3,a5]⟩;have:=SlU.of b1;rw[a4,a5]at this;exact this;cases g2
def a4e (T:List UInt8):List (List UInt8)->Nat->Option Nat|[],_=>none|x::t,i=>bcase (beqBytes x T) (some i) (a4e T t (i+1))
def b8d (L:List (List UInt8))(T:List UInt8):Value:=match a4e T L.reverse 0 with|some n=>.tuple ⟨[.int .i64 (.ofNat n),.int .i64 (.ofNat 0)]⟩|none=>.tuple ⟨[.int .i64 (.ofNat 0),.int .i64 (.ofNat 24)]⟩
def b5a (L:List (List UInt8))(T:List UInt8):Option Value:=bcase (a0X T [36]) (some (b8d L T)) (bcase (Nat.blt (F9 T) 1800000) (some (a3Y T)) none)
def b5B (bs:List Value):M Value:=match bs with|[v,.string s]=>M.bind (b2e v) λL=>M.lift (b5a L s.data.toList)|_=>M.fail
theorem d6W (bs):Fr (b5B bs):=by unfold b5B;split;refine Fr.bind ?_ λ_=>Fr.lift _;unfold b2e;grind[Fr.asPtr,Fr.bind,Fr.loadN,Fr.rdSl,Fr.obind,Fr.guard,Fr.pure,Fr.fail];exact Fr.fail
theorem c5U (L T):M7 8 (b8d L T)=true:=by unfold b8d;cases a4e T L.reverse 0<;>rfl
theorem d9v {L:List (List UInt8)}{i x}(h:L.reverse[i]?=some x):L[L.length-1-i]?=some x:=by have hi:=(xC.1 h).1;rw[vo]at hi;rw[List.getElem?_reverse hi]at h;exact h
theorem d3y (N call T)(L:List (List UInt8))(hl:L.length<1800000)(c h sb so sg css curs ros lv)(m:Nat)(hs1:sb<c)(hs2:h.get sb=some (.cells css curs ros))(hs3:A7 sg (F8 css (so+1)) 1=some [.slice lv.a lv.n lv.e])(H:SlU (λi=>i<c) h lv (L.map a1R)):∀(t) (i k) (g0 g1 g2 g3 g4 g5 g6 g7 g8 g9 g10 g11 g12 g13 g14 g15 g16 g17 g18 g19 g20 g21 g22) (r w),L.reverse.drop i=t->t.length<k->l9 (go (Q5 (d3W o9 N call (.int .i64 (.ofNat L.length)) (.pointer (some ⟨sb,so,some sg⟩)) (.string ⟨⟨T⟩⟩)) k [g0,g1,g2,g3,g4,g5,g6,g7,g8,g9,g10,g11,g12,g13,g14,g15,g16,g17,g18,g19,g20,g21,g22,.int .i64 (.ofNat i)]) ⟨c,h,r,w⟩) λx s=>s.c=c/\s.h=h/\((a4e T t i=none/\x.1=.exit 0)\/∃n,a4e T t i=some n/\x.1=.ret/\C8 x.2 20=.int .i64 (.ofNat n)/\C8 x.2 21=.int .i64 (.ofNat 0)):=by
 intro t;induction t with
  |nil=>
   intro i k g0 g1 g2 g3 g4 g5 g6 g7 g8 g9 g10 g11 g12 g13 g14 g15 g16 g17 g18 g19 g20 g21 g22 r w hd hk;obtain⟨k,rfl⟩:∃m,k=m+1:=⟨k-1,zy⟩;have hi:decide (i<L.length)=false:=by have:L.length<=i:=zm;rw[uq];omega
   simp(disch:=first|exact dz|fail)only[a0C,L32,X6,hi,bY];exact l9.done ⟨rfl,rfl,Or.inl ⟨rfl,rfl⟩⟩|cons x t ih=>
   intro i k g0 g1 g2 g3 g4 g5 g6 g7 g8 g9 g10 g11 g12 g13 g14 g15 g16 g17 g18 g19 g20 g21 g22 r w hd hk;obtain⟨k,rfl⟩:∃m,k=m+1:=⟨k-1,zy⟩;have hil:i<L.length:=xm;have hi:decide (i<L.length)=true:=by rw[uz];exact hil
   have hq:L.reverse[i]?=some x:=by have:=wO (λt=>t[0]?) hd;grind
   have hd':L.reverse.drop (i+1)=t:=yX;have hx:=d9v hq;have hinc:=G9 i zy;obtain⟨hn,hor⟩:=H;rcases hor with h0|⟨b,o,g,cs,cur,ro,ha,he,hb,hg,ht⟩;have:L=[]:=zu;simp_all;obtain⟨la,ln,le⟩:=lv;simp only at hn ha he;subst ha;subst he;rw[wK]at hn;subst hn;have e1:N8 .i64 (Int.ofNat L.length-Int.ofNat 1)=Int.ofNat (L.length-1):=by rw[show Int.ofNat L.length-Int.ofNat 1=Int.ofNat (L.length-1) by grind];grind[b0U]
   have e2:N8 .i64 (Int.ofNat (L.length-1)-Int.ofNat i)=Int.ofNat (L.length-1-i):=by rw[show Int.ofNat (L.length-1)-Int.ofNat i=Int.ofNat (L.length-1-i) by grind];grind[b0U]
   have e3:=a1d 1 (L.length-1-i) L.length .i64 b o (some g) zy zq;have e4:A7 g (F8 cs (o+(L.length-1-i)*1)) 1=some [.string ⟨⟨x⟩⟩]:=by rw[a3y,vQ];exact a1e ht (L.length-1-i) _ (by rw[wE,hx];rfl)
   generalize hj:L.length-1-i=j at*;generalize hj2:o+j*1=o2 at*;have hlen:=U7 (some ⟨b,o,some g⟩) L.length 1;cases q:beqBytes x T with|true=>simp(disch:=first|exact dz|fail)only[a0C,L32,F32,X6,hi,hs2,hs3,hlen,e1,e2,e3,e4,hg,q,bY];exact l9.done ⟨rfl,rfl,Or.inr ⟨i,by show bcase (beqBytes x T) _ _=_;rw[q];rfl,rfl,rfl,rfl⟩⟩|false=>simp(disch:=first|exact dz|fail)only[a0C,L32,F32,X6,hi,hs2,hs3,hlen,e1,e2,e3,e4,hg,q,hinc,bY];rw[show a4e T (x::t) i=a4e T t (i+1) by show bcase (beqBytes x T) _ _=_;rw[q];rfl];exact ih (i+1) k _ _ _ _ _ _ _ _ _ _ _ _ _ _ _ _ _ _ _ _ _ _ _ _ _ hd' zm
theorem n32 {c c0 h v L}(H:LabAt (λi=>i<c0) h v L)(hc:c0<=c){T y}(hy:b5a L T=some y)(r w):l9 (go (c7d o9 NN (o8 ps4 3) v (.string ⟨⟨T⟩⟩)) ⟨c,h,r,w⟩) λx s=>x=.ret y/\∀i,i<c->s.h.get i=h.get i:=by
 obtain⟨⟨sb,so,g,cs,cur,ro,m,lv,rfl,h1,h2,h3,h4⟩,h5⟩:=H.mono (U':=λi=>i<c) (h':=h) (λi hi=>⟨wY hi hc,rfl⟩);have a1:sb<c:=h1;have t1:A7 g (F8 cs so) 1=some [.map (some m)]:=a1e h3 0 _ rfl▸by rw[Y7]
 have t2:A7 g (F8 cs (so+1)) 1=some [.slice lv.a lv.n lv.e]:=by rw[a3y];exact a1e h3 1 _ rfl
 have hn:lv.n=L.length:=by rw[h4.1,wK]
 have hlen:=U7 lv.a L.length lv.e;unfold b5a at hy;cases p1:a0X T [36]with
  |true=>rw[p1]at hy;cases hy;simp(disch:=first|exact dz|fail)only[F32,b6b,F79,b5O,b0S,b0X,h2,t1,t2,p1,hn,hlen,bY];have hlp:=d3y NN (o8 ps4 3) T L h5 c h sb so g cs cur ro lv m a1 h2 t2 h4 L.reverse 0 NN undef undef undef undef undef undef undef undef undef undef undef undef undef undef undef undef undef undef undef undef (.int .i64 (.ofNat 0)) (.int .i64 (.ofNat 0)) undef;refine l9.bindS (hlp _ _ rfl (by rw[vo];grind)) λx s hq=>?_;obtain⟨x1,x2⟩:=x;obtain⟨c',h',r',w'⟩:=s;obtain⟨rfl,rfl,⟨e1,rfl⟩|⟨n,e1,rfl,e2,e3⟩⟩:=hq;simp(disch:=first|exact dz|fail)only[bY];exact l9.done ⟨by grind[b8d],λi hi=>rfl⟩;simp only at e2 e3;simp(disch:=first|exact dz|fail)only[e2,e3,bY];exact l9.done ⟨by grind[b8d],λi hi=>rfl⟩|false=>
   rw[p1]at hy;have hy':bcase (Nat.blt (F9 T) 1800000) (some (a3Y T)) none=some y:=hy;cases q2:Nat.blt (F9 T) 1800000 with
    |false=>rw[q2]at hy';cases hy'|true=>
     rw[q2]at hy';cases hy';have p2:T.length<1800000:=by rw[J2]at q2;simpa using q2
     simp(disch:=first|exact dz|fail)only[F32,b6b,F79,b5O,d4F,b0S,b0X,h2,t1,p1,c1n,bY];exact l9.done ⟨rfl,λi hi=>rfl⟩
theorem d4n:V6 Tryz.prog tab (L6 mL) 32 b5B:=b0I a0n U6 (pL4 (mL:=mL)).e (pL4 (mL:=mL)).s Tryz.func32 zw rfl d6W λbs s y s1 hq=>by
 unfold b5B at hq;split at hq;rename_i v t;obtain⟨L,s2,h1,h2⟩:=E8 hq;obtain⟨h3,rfl⟩:=a5a h2;obtain⟨h4,h5,h6⟩:=c8l h1;refine⟨?_,h5,h6,λc hc=>⟨4,?_⟩⟩;unfold b5a at h3;cases qp:a0X t.data.toList [36]with|true=>rw[qp]at h3;cases h3;exact c5U _ _|false=>rw[qp]at h3;cases q:Nat.blt (F9 t.data.toList) 1800000 with|true=>have h3':bcase (Nat.blt (F9 t.data.toList) 1800000) (some (a3Y t.data.toList)) none=some y:=h3;rw[q]at h3';cases h3';rfl|false=>have h3':bcase (Nat.blt (F9 t.data.toList) 1800000) (some (a3Y t.data.toList)) none=some y:=h3;rw[q]at h3';cases h3'
 rw[a0Z (q:=c7d) (N:=NN) zw 3];exact n32 h4 hc h3 _ _;cases hq
def b5C (a:Option Addr)(n e:Nat):M (Option (Nat×List UInt8)):=match n with|0=>M.pure none|_+1=>M.guard (Nat.beq e 4) (M.obind a λa=>M.bind (loadN a 4) λvs=>match vs with|[.int .i64 (.ofNat k),_,.string s,_]=>M.pure (some (k,s.data.toList))|_=>M.fail)
theorem Fr.rdHd (a:Option Addr)(n e:Nat):Fr (b5C a n e):=by unfold Proofs.YtmomonnlmbljoaaGreatDoor.b5C;split;exact Fr.pure _;refine Fr.guard _ (Fr.obind _ λa=>Fr.bind (Fr.loadN _ _) λvs=>?_);split;exact Fr.pure _;exact Fr.fail
def b3x (U:Nat->Prop)(h:Trie VObj)(a:Option Addr)(n e:Nat)(o:Option (Nat×List UInt8)):Prop:=(n=0/\o=none)\/∃m b off g cs cur ro k x s y,n=m+1/\e=4/\a=some ⟨b,off,some g⟩/\U b/\h.get b=some (.cells cs cur ro)/\A7 g (F8 cs off) 4=some [.int .i64 (.ofNat k),x,.string ⟨⟨s⟩⟩,y]/\o=some (k,s)
theorem b3x.mono {U U' h h' a n e o}(H:b3x U h a n e o)(hu:∀i,U i->U' i/\h'.get i=h.get i):b3x U' h' a n e o:=by rcases H with h1|⟨m,b,off,g,cs,cur,ro,k,x,s,y,h1,h2,h3,h4,h5,h6,h7⟩;exact Or.inl h1;exact Or.inr ⟨m,b,off,g,cs,cur,ro,k,x,s,y,h1,h2,h3,(hu _ h4).1,(hu _ h4).2.trans h5,h6,h7⟩
theorem d2k {a n e s s' o}(h:b5C a n e s=some (o,s')):b3x (λi=>i<s.c) s.h a n e o/\s'.c=s.c/\s'.h=s.h:=by unfold b5C at h;split at h;obtain⟨rfl,rfl⟩:=y8 h;exact⟨Or.inl ⟨rfl,rfl⟩,rfl,rfl⟩;rename_i m;obtain⟨h1,h2⟩:=I4 h;obtain⟨ad,ha,h3⟩:=H9 h2;obtain⟨vs,s1,h4,h5⟩:=E8 h3;obtain⟨sb,so,g,cs,cur,ro,rfl,a1,a2,a3,a4,a5⟩:=b2C h4;split at h5;rename_i k x t y;obtain⟨rfl,rfl⟩:=y8 h5;exact⟨Or.inr ⟨m,sb,so,g,cs,cur,ro,k,x,t.data.toList,y,rfl,wo h1,ha,a1,a2,a3,rfl⟩,a4,a5⟩;cases h5
def Z4 (k:Nat)(o:Option (Nat×List UInt8))(W:List UInt8):Bool:=match o with|none=>false|some x=>decide (k=0)&&(decide (x.1=2)&&beqBytes x.2 W)
def XBg (bs:List Value):M Value:=match bs with|[.agg ⟨[.int .i64 (.ofNat k),.int .i64 (.ofNat _),.string _,.slice a n e]⟩,.string w]=>M.bind (b5C a n e) λo=>M.pure (.bool (Z4 k o w.data.toList))|_=>M.fail
theorem d8N (bs):Fr (XBg bs):=by unfold XBg;split;grind[Fr.bind,Fr.rdHd,Fr.pure];exact Fr.fail
theorem f0p (N call k p T W a n e c c0 h o)(H:b3x (λi=>i<c0) h a n e o)(hc:c0<=c)(r w):l9 (go (c0O o9 N call (.agg ⟨[.int .i64 (.ofNat k),.int .i64 (.ofNat p),.string ⟨⟨T⟩⟩,.slice a n e]⟩) (.string ⟨⟨W⟩⟩)) ⟨c,h,r,w⟩) λx s=>x=.ret (.bool (Z4 k o W))/\∀i,i<c->s.h.get i=h.get i:=by
 have hf:∀i,i<c->i≠c:=λi hi=>zy;have hlen:=U7 a n e;rcases H with⟨rfl,rfl⟩|⟨m,b,off,g,cs,cur,ro,k1,x,s,y,rfl,rfl,rfl,h4,h5,h6,rfl⟩;have d0:decide (Int.ofNat 0<Int.ofNat 0)=false:=rfl;cases q1:decide (k=0)with|false=>simp(disch:=first|exact dz|fail)only[c3z,J5,q1,bY];exact l9.done ⟨rfl,λi hi=>zl⟩|true=>simp(disch:=first|exact dz|fail)only[c3z,J5,q1,hlen,d0,bY];exact l9.done ⟨rfl,λi hi=>zl⟩
 have d0:decide (Int.ofNat 0<Int.ofNat (m+1))=true:=zm;have hb:b<c:=zy;have hb2:b≠c:=zy;have e3:=a1d 4 0 (m+1) .i64 b off (some g) zy zq;rw[qx,vZ]at e3;have t0:A7 g (F8 cs off) 1=some [.int .i64 (.ofNat k1)]:=a1e h6 0 _ rfl▸by rw[Y7]
 have t2:A7 g (F8 cs (off+2)) 1=some [.string ⟨⟨s⟩⟩]:=by rw[a3y];exact a1e h6 2 _ rfl
 unfold Z4;cases q1:decide (k=0)with|false=>simp(disch:=first|exact dz|fail)only[c3z,J5,q1,bY];exact l9.done ⟨rfl,λi hi=>zl⟩|true=>cases q2:decide (k1=2)with|false=>simp(disch:=first|exact dz|fail)only[c3z,J5,q1,q2,hlen,d0,e3,h5,t0,bY];exact l9.done ⟨rfl,λi hi=>zl⟩|true=>simp(disch:=first|exact dz|fail)only[c3z,J5,q1,q2,hlen,d0,e3,h5,t0,t2,bY];exact l9.done ⟨rfl,λi hi=>zl⟩
theorem c8I:V6 Tryz.prog tab (L6 mL) 113 XBg:=b0I a0n U6 (pL4 (mL:=mL)).e (pL4 (mL:=mL)).s Tryz.func113 zw rfl d8N λbs s y s1 hq=>by unfold XBg at hq;split at hq;rename_i k p t a n e w;obtain⟨o,s2,h1,h2⟩:=E8 hq;obtain⟨rfl,rfl⟩:=y8 h2;obtain⟨h4,h5,h6⟩:=d2k h1;refine⟨rfl,h5,h6,λc hc=>⟨2,?_⟩⟩;rw[a0Z (q:=c0O) (N:=NN) zw 1];exact f0p _ _ k p t.data.toList w.data.toList a n e c s.c s.h o h4 hc _ _;cases hq
theorem a9a (w M m x)(hm:m<2^w):x&&&(2^w*M+m)=2^w*((x/2^w)&&&M)+((x%2^w)&&&m):=by have h0:0<2^w:=Nat.two_pow_pos w;rw[<-Nat.div_add_mod (x&&&(2^w*M+m)) (2^w),Nat.and_div_two_pow,Nat.and_mod_two_pow,Nat.mul_add_div h0,Nat.div_eq_of_lt hm,vZ,Nat.mul_add_mod,uG hm]
def rp (m:Nat):Nat->Nat|0=>0|k+1=>256*rp m k+m
def a1 (k n:Nat):Nat:=((n/2)&&&rp 85 k)+(n&&&rp 85 k)
def a2 (k n:Nat):Nat:=((a1 k n/4)&&&rp 51 k)+(a1 k n&&&rp 51 k)
def a3 (k n:Nat):Nat:=(a2 k n/16+a2 k n)&&&rp 15 k
def b1 (b:Nat):Nat:=((b/2)&&&85)+(b&&&85)
def b2 (b:Nat):Nat:=((b1 b/4)&&&51)+(b1 b&&&51)
def b3 (b:Nat):Nat:=(b2 b/16+b2 b)&&&15
theorem a9b (p n)(h:M0 p (upN n)=true)(b)(hb:b<n):p b=true:=(R5 _ _).1 h b (uw.2 hb)
theorem e8x:M0 (λb=>(Nat.beq ((128+b/2)&&&85) ((b/2)&&&85))&&Nat.blt (b1 b) 171&&Nat.ble (b2 b) 68&&Nat.ble (b2 b%16) 4&&Nat.ble (b3 b) 8&&Nat.ble (b3 b) 8) (upN 256)=true:=zw
theorem f0m:M0 (λb=>M0 (λr=>Nat.beq ((64*r+b/4)&&&51) ((b/4)&&&51)) (upN 4)) (upN 256)=true:=zw
theorem e9w:M0 (λb=>M0 (λr=>Nat.beq ((16*r+(b2 b/16+b2 b))&&&15) (b3 b)) (upN 5)) (upN 256)=true:=zw
theorem a6W (b)(hb:b<256):((128+b/2)&&&85)=((b/2)&&&85)/\b1 b<171/\b2 b<=68/\b2 b%16<=4/\b3 b<=8:=by have q:=a9b _ _ e8x b hb;simp only[wh]at q;obtain⟨⟨⟨⟨⟨q1,q2⟩,q3⟩,q4⟩,q5⟩,_⟩:=q;exact⟨wo q1,by simpa[uE]using q2,wJ q3,wJ q4,wJ q5⟩
theorem e8Z (k a b)(hb:b<256):a1 (k+1) (256*a+b)=256*a1 k a+b1 b:=by
 unfold a1 b1;have e1:(256*a+b)/2/256=a/2:=zy;have e2:(256*a+b)/2%256=128*(a%2)+b/2:=zy;have e3:(256*a+b)/256=a:=zy;have e4:(256*a+b)%256=b:=zy;have s1:=a9a 8 (rp 85 k) 85 ((256*a+b)/2) zq;have s2:=a9a 8 (rp 85 k) 85 (256*a+b) zq;simp only[Nat.reducePow,e1,e2,e3,e4]at s1 s2;show((256*a+b)/2&&&(256*rp 85 k+85))+((256*a+b)&&&(256*rp 85 k+85))=_;rw[s1,s2];have:((128*(a%2)+b/2)&&&85)=((b/2)&&&85):=by rcases Nat.mod_two_eq_zero_or_one a with h|h;rw[h];simp;rw[h];exact(a6W b hb).1
 rw[this];omega
theorem e0V (k a b)(hb:b<256):a2 (k+1) (256*a+b)=256*a2 k a+b2 b:=by unfold a2 b2;rw[e8Z k a b hb];have hb1:=(a6W b hb).2.1;generalize a1 k a=x at*;have e1:(256*x+b1 b)/4/256=x/4:=zy;have e2:(256*x+b1 b)/4%256=64*(x%4)+b1 b/4:=zy;have e3:(256*x+b1 b)/256=x:=zy;have e4:(256*x+b1 b)%256=b1 b:=zy;have s1:=a9a 8 (rp 51 k) 51 ((256*x+b1 b)/4) zq;have s2:=a9a 8 (rp 51 k) 51 (256*x+b1 b) zq;simp only[Nat.reducePow,e1,e2,e3,e4]at s1 s2;show((256*x+b1 b)/4&&&(256*rp 51 k+51))+((256*x+b1 b)&&&(256*rp 51 k+51))=_;rw[s1,s2];have:((64*(x%4)+b1 b/4)&&&51)=((b1 b/4)&&&51):=wo (a9b _ _ (a9b _ _ f0m (b1 b) zy) (x%4) zy);rw[this];omega
theorem e1a (k n)(hn:n<256^k):a2 k n%16<=4:=by
 cases k with
  |zero=>
   have:n=0:=by simp at hn;omega
   subst this;decide|succ k=>have e:n=256*(n/256)+n%256:=zy;rw[e,e0V k _ _ zy];have:=(a6W (n%256) zy).2.2.2.1;omega
theorem b2Y (k a b)(ha:a<256^k)(hb:b<256):a3 (k+1) (256*a+b)=256*a3 k a+b3 b:=by have hl:=e1a k a ha;unfold a3;rw[e0V k a b hb];have hb2:=(a6W b hb).2.2.1;generalize a2 k a=x at*;have e1:((256*x+b2 b)/16+(256*x+b2 b))/256=x/16+x:=zy;have e2:((256*x+b2 b)/16+(256*x+b2 b))%256=16*(x%16)+(b2 b/16+b2 b):=zy;have s1:=a9a 8 (rp 15 k) 15 ((256*x+b2 b)/16+(256*x+b2 b)) zq;simp only[Nat.reducePow,e1,e2]at s1;show(((256*x+b2 b)/16+(256*x+b2 b))&&&(256*rp 15 k+15))=_;rw[s1,wo (a9b _ _ (a9b _ _ e9w b hb) (x%16) zy)]
theorem e7S (n)(hn:n<18446744073709551616):∃c0 c1 c2 c3 c4 c5 c6 c7,c0<256/\c1<256/\c2<256/\c3<256/\c4<256/\c5<256/\c6<256/\c7<256/\n=256*(256*(256*(256*(256*(256*(256*c7+c6)+c5)+c4)+c3)+c2)+c1)+c0/\a3 8 n=256*(256*(256*(256*(256*(256*(256*b3 c7+b3 c6)+b3 c5)+b3 c4)+b3 c3)+b3 c2)+b3 c1)+b3 c0:=by have md:=λm:Nat=>qJ m (show 0<256 by decide);have dm:=λm:Nat=>(Nat.div_add_mod m 256).symm;have z:a3 0 0=0:=zq;have l0:n<256^8:=hn;have l1:n/256<256^7:=zy;generalize g1:n/256=n1 at*;have l2:n1/256<256^6:=zy;generalize g2:n1/256=n2 at*;have l3:n2/256<256^5:=zy;generalize g3:n2/256=n3 at*;have l4:n3/256<256^4:=zy;generalize g4:n3/256=n4 at*;have l5:n4/256<256^3:=zy;generalize g5:n4/256=n5 at*;have l6:n5/256<256^2:=zy;generalize g6:n5/256=n6 at*;have l7:n6/256<256^1:=zy;generalize g7:n6/256=n7 at*;have l8:n7<256:=zy;have e0:=dm n;have e1:=dm n1;have e2:=dm n2;have e3:=dm n3;have e4:=dm n4;have e5:=dm n5;have e6:=dm n6;rw[g1]at e0;rw[g2]at e1;rw[g3]at e2;rw[g4]at e3;rw[g5]at e4;rw[g6]at e5;rw[g7]at e6;have s7:=b2Y 0 0 n7 zq l8;simp only[tT,wM,z]at s7;have s6:=b2Y 1 n7 (n6%256) l7 (md _);rw[<-e6,s7]at s6;have s5:=b2Y 2 n6 (n5%256) l6 (md _);rw[<-e5,s6]at s5;have s4:=b2Y 3 n5 (n4%256) l5 (md _);rw[<-e4,s5]at s4;have s3:=b2Y 4 n4 (n3%256) l4 (md _);rw[<-e3,s4]at s3;have s2:=b2Y 5 n3 (n2%256) l3 (md _);rw[<-e2,s3]at s2;have s1:=b2Y 6 n2 (n1%256) l2 (md _);rw[<-e1,s2]at s1;have s0:=b2Y 7 n1 (n%256) l1 (md _);rw[<-e0,s1]at s0;refine⟨n%256,n1%256,n2%256,n3%256,n4%256,n5%256,n6%256,n7,md _,md _,md _,md _,md _,md _,md _,l8,?_,s0⟩;rw[<-e6,<-e5,<-e4,<-e3,<-e2,<-e1,<-e0]
def lg8 (b:Nat):Nat:=bcase (Nat.beq b 1) 0 (bcase (Nat.beq b 2) 1 (bcase (Nat.beq b 4) 2 (bcase (Nat.beq b 8) 3 (bcase (Nat.beq b 16) 4 (bcase (Nat.beq b 32) 5 (bcase (Nat.beq b 64) 6 7))))))
theorem e9J (b)(hb:b<256)(h:b3 b=0):b=0:=by have:M0 (λb=>!(Nat.beq (b3 b) 0)||Nat.beq b 0) (upN 256)=true:=zw;have:=a9b _ _ this b hb;rw[h]at this;simpa using this
theorem b2S (b)(hb:b<256)(h:b3 b=1):∃i,i<8/\b=2^i:=by have q:M0 (λb=>!(Nat.beq (b3 b) 1)||(Nat.beq b (2^lg8 b)&&Nat.blt (lg8 b) 8)) (upN 256)=true:=zw;have q2:=a9b _ _ q b hb;rw[h,J4,sK,wF,wh]at q2;exact⟨lg8 b,by simpa[uE]using q2.2,wo q2.1⟩
def pop (n:Nat):Nat:=
 let x:=a3 8 n
 let y:=x+x / 256
 let z:=y+y / 65536
 (z+z / 4294967296) % 128
theorem d6e (d0 d1 d2 d3 d4 d5 d6 d7)(h0:d0<=8)(h1:d1<=8)(h2:d2<=8)(h3:d3<=8)(h4:d4<=8)(h5:d5<=8)(h6:d6<=8)(h7:d7<=8)(x0 x1 x2 x3 x4 x5 x6 x7 y z)(e0:x0=256*x1+d0)(e1:x1=256*x2+d1)(e2:x2=256*x3+d2)(e3:x3=256*x4+d3)(e4:x4=256*x5+d4)(e5:x5=256*x6+d5)(e6:x6=256*x7+d6)(e7:x7=d7)(hy:y=x0+x0/256)(hz:z=y+y/65536):(z+z/4294967296)%128=d0+d1+d2+d3+d4+d5+d6+d7:=by
 have q1:x0/256=x1:=by rw[e0];omega
 rw[q1]at hy;have q2:y=65536*(x2+x3)+(256*(d1+d2)+(d0+d1)):=zy;have q3:y/65536=x2+x3:=by rw[q2];omega
 rw[q3]at hz;have q4:z=4294967296*(x4+x5+x6+x7)+(16777216*(d3+d4+d5+d6)+65536*(d2+d3+d4+d5)+256*(d1+d2+d3+d4)+(d0+d1+d2+d3)):=zy;have q5:z/4294967296=x4+x5+x6+x7:=by rw[q4,Nat.mul_add_div zq,Nat.div_eq_of_lt zy,vZ]
 rw[q5];have q6:z+(x4+x5+x6+x7)=128*(2*(x1+x2+x3+x4+x5+x6+x7))+(d0+d1+d2+d3+d4+d5+d6+d7):=by rw[hz,hy,e0];clear q2 q3 q4 q5 hy hz q1 e0 h0 h1 h2 h3 h4 h5 h6 h7;omega
 have q7:d0+d1+d2+d3+d4+d5+d6+d7<128:=by clear q2 q3 q4 q5 hy hz q1 e0 e1 e2 e3 e4 e5 e6 e7 q6;omega
 rw[q6,Nat.mul_add_mod,uG q7]
theorem e5b (n)(hn:n<18446744073709551616)(h:pop n=1):∃i,i<64/\n=2^i:=by
 obtain⟨c0,c1,c2,c3,c4,c5,c6,c7,h0,h1,h2,h3,h4,h5,h6,h7,e,e3⟩:=e7S n hn;have hs:b3 c0+b3 c1+b3 c2+b3 c3+b3 c4+b3 c5+b3 c6+b3 c7=1:=by rw[<-d6e (b3 c0) (b3 c1) (b3 c2) (b3 c3) (b3 c4) (b3 c5) (b3 c6) (b3 c7) (a6W c0 h0).2.2.2.2 (a6W c1 h1).2.2.2.2 (a6W c2 h2).2.2.2.2 (a6W c3 h3).2.2.2.2 (a6W c4 h4).2.2.2.2 (a6W c5 h5).2.2.2.2 (a6W c6 h6).2.2.2.2 (a6W c7 h7).2.2.2.2 (a3 8 n) _ _ _ _ _ _ _ _ _ e3 rfl rfl rfl rfl rfl rfl rfl rfl rfl];exact h
 clear e3 h hn;generalize k0:b3 c0=d0 at*;generalize k1:b3 c1=d1 at*;generalize k2:b3 c2=d2 at*;generalize k3:b3 c3=d3 at*;generalize k4:b3 c4=d4 at*;generalize k5:b3 c5=d5 at*;generalize k6:b3 c6=d6 at*;generalize k7:b3 c7=d7 at*;have zz:=λ(b d:Nat) (hb:b<256) (k:b3 b=d) (h:d=0)=>e9J b hb (k.trans h);by_cases q0:d0=1;obtain⟨i,hi,hc⟩:=b2S c0 h0 (k0.trans q0);refine⟨i+0,zy,?_⟩;rw[e,zz c1 d1 h1 k1 zy,zz c2 d2 h2 k2 zy,zz c3 d3 h3 k3 zy,zz c4 d4 h4 k4 zy,zz c5 d5 h5 k5 zy,zz c6 d6 h6 k6 zy,zz c7 d7 h7 k7 zy,hc,sw];clear hs e;simp only[tT,wM,vZ,Nat.reducePow,vQ];by_cases q1:d1=1;obtain⟨i,hi,hc⟩:=b2S c1 h1 (k1.trans q1);refine⟨i+8,zy,?_⟩;rw[e,zz c0 d0 h0 k0 zy,zz c2 d2 h2 k2 zy,zz c3 d3 h3 k3 zy,zz c4 d4 h4 k4 zy,zz c5 d5 h5 k5 zy,zz c6 d6 h6 k6 zy,zz c7 d7 h7 k7 zy,hc,sw];clear hs e;simp only[tT,wM,vZ,Nat.reducePow];omega;by_cases q2:d2=1;obtain⟨i,hi,hc⟩:=b2S c2 h2 (k2.trans q2);refine⟨i+16,zy,?_⟩;rw[e,zz c0 d0 h0 k0 zy,zz c1 d1 h1 k1 zy,zz c3 d3 h3 k3 zy,zz c4 d4 h4 k4 zy,zz c5 d5 h5 k5 zy,zz c6 d6 h6 k6 zy,zz c7 d7 h7 k7 zy,hc,sw];clear hs e;simp only[tT,wM,vZ,Nat.reducePow];omega;by_cases q3:d3=1;obtain⟨i,hi,hc⟩:=b2S c3 h3 (k3.trans q3);refine⟨i+24,zy,?_⟩;rw[e,zz c0 d0 h0 k0 zy,zz c1 d1 h1 k1 zy,zz c2 d2 h2 k2 zy,zz c4 d4 h4 k4 zy,zz c5 d5 h5 k5 zy,zz c6 d6 h6 k6 zy,zz c7 d7 h7 k7 zy,hc,sw];clear hs e;simp only[tT,wM,vZ,Nat.reducePow];omega;by_cases q4:d4=1;obtain⟨i,hi,hc⟩:=b2S c4 h4 (k4.trans q4);refine⟨i+32,zy,?_⟩;rw[e,zz c0 d0 h0 k0 zy,zz c1 d1 h1 k1 zy,zz c2 d2 h2 k2 zy,zz c3 d3 h3 k3 zy,zz c5 d5 h5 k5 zy,zz c6 d6 h6 k6 zy,zz c7 d7 h7 k7 zy,hc,sw];clear hs e;simp only[tT,wM,vZ,Nat.reducePow];omega;by_cases q5:d5=1;obtain⟨i,hi,hc⟩:=b2S c5 h5 (k5.trans q5);refine⟨i+40,zy,?_⟩;rw[e,zz c0 d0 h0 k0 zy,zz c1 d1 h1 k1 zy,zz c2 d2 h2 k2 zy,zz c3 d3 h3 k3 zy,zz c4 d4 h4 k4 zy,zz c6 d6 h6 k6 zy,zz c7 d7 h7 k7 zy,hc,sw];clear hs e;simp only[tT,wM,vZ,Nat.reducePow];omega;by_cases q6:d6=1;obtain⟨i,hi,hc⟩:=b2S c6 h6 (k6.trans q6);refine⟨i+48,zy,?_⟩;rw[e,zz c0 d0 h0 k0 zy,zz c1 d1 h1 k1 zy,zz c2 d2 h2 k2 zy,zz c3 d3 h3 k3 zy,zz c4 d4 h4 k4 zy,zz c5 d5 h5 k5 zy,zz c7 d7 h7 k7 zy,hc,sw];clear hs e;simp only[tT,wM,vZ,Nat.reducePow];omega;obtain⟨i,hi,hc⟩:=b2S c7 h7 (k7.trans zy);refine⟨i+56,zy,?_⟩;rw[e,zz c0 d0 h0 k0 zy,zz c1 d1 h1 k1 zy,zz c2 d2 h2 k2 zy,zz c3 d3 h3 k3 zy,zz c4 d4 h4 k4 zy,zz c5 d5 h5 k5 zy,zz c6 d6 h6 k6 zy,hc,sw];clear hs e;simp only[vZ,Nat.reducePow];omega
theorem d6o (i)(hi:i<64):pop (2^i)=1:=by have:M0 (λi=>Nat.beq (pop (2^i)) 1) (upN 64)=true:=zw;exact wo (a9b _ _ this i hi)
theorem d5d (n)(h:n<18446744073709551616):N8 .u64 (Int.ofNat n)=Int.ofNat n:=b0j .u64 n h
def a6k (n:Nat):Option Nat:=List.rec (motive:=λ_=>Option Nat) none (λi _ ih=>bcase (Nat.beq n (2^i)) (some i) ih) (upN 64)
theorem b0F {n i}(h:a6k n=some i):i<64/\n=2^i:=by
 have key:∀l:List Nat,List.rec (motive:=λ_=>Option Nat) none (λi _ ih=>bcase (Nat.beq n (2^i)) (some i) ih) l=some i->i∈l/\n=2^i:=by intro l;induction l with|nil=>intro h;cases h|cons j l ih=>intro h;cases q:Nat.beq n (2^j)with|true=>have h':bcase (Nat.beq n (2^j)) (some j) (List.rec (motive:=λ_=>Option Nat) none (λi _ ih=>bcase (Nat.beq n (2^i)) (some i) ih) l)=some i:=h;rw[q]at h';cases h';exact⟨vC,wo q⟩|false=>have h':bcase (Nat.beq n (2^j)) (some j) (List.rec (motive:=λ_=>Option Nat) none (λi _ ih=>bcase (Nat.beq n (2^i)) (some i) ih) l)=some i:=h;rw[q]at h';obtain⟨h1,h2⟩:=ih h';exact⟨vW _ h1,h2⟩
 obtain⟨h1,h2⟩:=key (upN 64) h;exact⟨uw.1 h1,h2⟩
theorem b8r {n}(h:a6k n=none)(i)(hi:i<64):n≠2^i:=by
 have key:∀l:List Nat,List.rec (motive:=λ_=>Option Nat) none (λi _ ih=>bcase (Nat.beq n (2^i)) (some i) ih) l=none->∀i∈l,n≠2^i:=by intro l;induction l with|nil=>intro _ i hi;cases hi|cons j l ih=>intro h i hi;have h':bcase (Nat.beq n (2^j)) (some j) (List.rec (motive:=λ_=>Option Nat) none (λi _ ih=>bcase (Nat.beq n (2^i)) (some i) ih) l)=none:=h;cases q:Nat.beq n (2^j)with|true=>rw[q]at h';cases h'|false=>rw[q]at h';rcases vG.1 hi with rfl|hm;intro e;rw[e,J4]at q;cases q;exact ih h' i hm
 exact key (upN 64) h i (uw.2 hi)
theorem d2y (n)(hn:n<18446744073709551616):decide (pop n=1)=(a6k n).isSome:=by cases h:a6k n with|some i=>obtain⟨h1,rfl⟩:=b0F h;rw[d6o i h1];rfl|none=>show _=false;rw[uq];intro e;obtain⟨i,h1,h2⟩:=e5b n hn e;exact b8r h i h1 h2
theorem b3N (p T t x y n m)(h:m<=64):a0J p T .shr t x y (.int .u64 (.ofNat n)) (.int .u64 (.ofNat m))=M.pure (.int .u64 (.ofNat (n/2^m))):=by
 rw[U9 p T t x y .u64 .u64 (.ofNat n) m h];have e:(Int.ofNat n).fdiv (2^m)=Int.ofNat (n/2^m):=by have:=Int.ofNat_fdiv n (2^m);rw[Int.natCast_pow]at this;exact this.symm
 rw[e]
theorem e8h (p T t x y n m)(h1:n<18446744073709551616)(h2:m<9223372036854775808):a0J p T .and t x y (.int .i64 (.ofNat n)) (.int .i64 (.ofNat m))=M.pure (.int .i64 (.ofNat (Nat.land n m))):=by refine b1x p T rfl rfl ?_;show some (Value.int .i64 (N8 .i64 (.ofNat (Nat.land (Nat.mod n (Nat.pow 2 64)) (Nat.mod m (Nat.pow 2 64))))))=_;rw[show Nat.mod n (Nat.pow 2 64)=n from uG h1,show Nat.mod m (Nat.pow 2 64)=m from uG (tV h2 zq),b0U (Nat.land n m) (uU (show Nat.land n m<=m from uF) h2)]
theorem b4H (p T t x y n m)(h:n+m<18446744073709551616):a0J p T .add t x y (.int .u64 (.ofNat n)) (.int .u64 (.ofNat m))=M.pure (.int .u64 (.ofNat (n+m))):=by rw[M4,show Int.ofNat n+Int.ofNat m=Int.ofNat (n+m)from rfl,d5d _ h]
theorem e7P:rp 85 8=6148914691236517205:=zq
theorem e7U:rp 51 8=3689348814741910323:=zq
theorem e8V:rp 15 8=1085102592571150095:=zq
theorem e9Y (N call n)(h:n<18446744073709551616):c0B o9 N call (.int .u64 (.ofNat n))=M.pure (.ret (.int .i64 (.ofNat (pop n)))):=by
 have u1:a1 8 n=Nat.land (n/2^1) 6148914691236517205+Nat.land n 6148914691236517205:=by unfold a1;rw[e7P];rfl
 have u2:a2 8 n=Nat.land (a1 8 n/2^2) 3689348814741910323+Nat.land (a1 8 n) 3689348814741910323:=by unfold a2;rw[e7U];rfl
 have u3:a3 8 n=Nat.land (a2 8 n/2^4+a2 8 n) 1085102592571150095:=by unfold a3;rw[e8V];rfl
 have b1:Nat.land (n/2^1) 6148914691236517205<=6148914691236517205:=uF;have b2:Nat.land n 6148914691236517205<=6148914691236517205:=uF;have b3:Nat.land (a1 8 n/2^2) 3689348814741910323<=3689348814741910323:=uF;have b4:Nat.land (a1 8 n) 3689348814741910323<=3689348814741910323:=uF;have b5:Nat.land (a2 8 n/2^4+a2 8 n) 1085102592571150095<=1085102592571150095:=uF;have l1:n/2^1<18446744073709551616:=uU (pW _ _) h;have l2:a1 8 n<18446744073709551616:=by rw[u1];omega
 have l3:a1 8 n/2^2<18446744073709551616:=uU (pW _ _) l2;have l4:a2 8 n<=7378697629483820646:=by rw[u2];omega
 have l5:a2 8 n/2^4+a2 8 n<18446744073709551616:=zy;have l6:a3 8 n<=1085102592571150095:=by rw[u3];exact b5
 have e1:N8 .i64 (Int.ofNat ((a3 8 n+a3 8 n/2^8+(a3 8 n+a3 8 n/2^8)/2^16)+(a3 8 n+a3 8 n/2^8+(a3 8 n+a3 8 n/2^8)/2^16)/2^32))=Int.ofNat ((a3 8 n+a3 8 n/2^8+(a3 8 n+a3 8 n/2^8)/2^16)+(a3 8 n+a3 8 n/2^8+(a3 8 n+a3 8 n/2^8)/2^16)/2^32):=b0U _ zy;have k1:a3 8 n/2^8<=1085102592571150095/256:=zy;have e2:=λ(t:TypeId) (x y:Operand)=>e8h Tryz.prog tab t x y ((a3 8 n+a3 8 n/2^8+(a3 8 n+a3 8 n/2^8)/2^16)+(a3 8 n+a3 8 n/2^8+(a3 8 n+a3 8 n/2^8)/2^16)/2^32) 127 zy zq;have e3:Nat.land ((a3 8 n+a3 8 n/2^8+(a3 8 n+a3 8 n/2^8)/2^16)+(a3 8 n+a3 8 n/2^8+(a3 8 n+a3 8 n/2^8)/2^16)/2^32) 127=pop n:=(Nat.and_two_pow_sub_one_eq_mod _ 7).trans rfl;rw[e5R];simp only[U1];simp only[V.e7i,b3N,b0O _ _ _ _ _ _ _ l1 (by decide:6148914691236517205<18446744073709551616),b0O _ _ _ _ _ _ _ h (by decide:6148914691236517205<18446744073709551616),(by decide:(1:Nat)<=64)];rw[b4H _ _ _ _ _ _ _ zy,<-u1];simp only[V.e7i,b3N,b0O _ _ _ _ _ _ _ l3 (by decide:3689348814741910323<18446744073709551616),b0O _ _ _ _ _ _ _ l2 (by decide:3689348814741910323<18446744073709551616),(by decide:(2:Nat)<=64)];rw[b4H _ _ _ _ _ _ _ zy,<-u2];simp only[V.e7i,b3N,(by decide:(4:Nat)<=64)];rw[b4H _ _ _ _ _ _ _ l5];simp only[V.e7i,b0O _ _ _ _ _ _ _ l5 (by decide:1085102592571150095<18446744073709551616)];rw[<-u3];simp only[V.e7i,b3N,(by decide:(8:Nat)<=64)];rw[b4H _ _ _ _ _ _ _ zy];simp only[V.e7i,b3N,(by decide:(16:Nat)<=64)];rw[b4H _ _ _ _ _ _ _ zy];simp only[V.e7i,b3N,(by decide:(32:Nat)<=64)];rw[b4H _ _ _ _ _ _ _ zy];simp only[V.e7i,a1t,e1,e2,e3]
def b7R (z:Int):Option Value:=match z with|.ofNat n=>bcase (Nat.blt n 18446744073709551616) (some (.int .i64 (.ofNat (pop n)))) none|.negSucc _=>none
theorem d1Q {z v}(h:b7R z=some v):∃n,n<18446744073709551616/\z=.ofNat n/\v=.int .i64 (.ofNat (pop n)):=by
 cases z with
  |ofNat n=>have h':bcase (Nat.blt n 18446744073709551616) (some (Value.int .i64 (.ofNat (pop n)))) none=some v:=h;cases q:Nat.blt n 18446744073709551616 with|true=>rw[q]at h';cases h';exact⟨n,by simpa[uE]using q,rfl,rfl⟩|false=>rw[q]at h';cases h'
  |negSucc n=>cases h
theorem d6x (n)(h:n<18446744073709551616):b7R (.ofNat n)=some (.int .i64 (.ofNat (pop n))):=by show bcase (Nat.blt n 18446744073709551616) _ _=_;rw[L8 h];rfl
theorem d1p:V6 Tryz.prog tab (L6 mL) 187 (X1 .u64 b7R):=b7N a0n U6 pL4 Tryz.func187 zw rfl λz v h=>by obtain⟨n,hn,rfl,rfl⟩:=d1Q h;exact⟨rfl,2,by rw[a1j (q:=c0B) (N:=NN) zw 1];exact a4B.pure (e9Y _ _ n hn)⟩
def c5Y (z:Int):Option Value:=match z with
 |.ofNat n=>match a6k n with|some i=>some (.int .i64 (.ofNat i))|none=>none
 |.negSucc _=>none
theorem d8k (mL):M0 (λi=>b1f (o8 a5N 5 188 [.int .u64 (.ofNat (2^i))] (Go.V.a3a (L6 mL))) i) (upN 64)=true:=zw
theorem c9Y:V6 Tryz.prog tab (L6 mL) 188 (X1 .u64 c5Y):=a7B λz v h=>by
 cases z with
  |ofNat n=>have h':(match a6k n with|some i=>some (Value.int .i64 (.ofNat i))|none=>none)=some v:=h;cases q:a6k n with|some i=>rw[q]at h';cases h';obtain⟨h1,rfl⟩:=b0F q;obtain⟨s,hr⟩:=a9L ((R5 _ _).1 (d8k mL) i (uw.2 h1));exact⟨rfl,a3z a0n U6 a4M a1Y a4K b0R Tryz.func188 zw rfl rfl rfl hr⟩|none=>rw[q]at h';cases h'
  |negSucc n=>cases h
end
def e1V (r:Option (Value×S)):Option Value:=match r with|some x=>some x.1|none=>none
theorem d3d {r v}(h:e1V r=some v):∃s,r=some (v,s):=by cases r with|none=>cases h|some x=>obtain⟨u,s⟩:=x;cases h;exact⟨s,rfl⟩
theorem c9e (mL):e1V (a7c Tryz.prog tab a4Z 400 11 [] (Go.V.a3a (L6 mL)))=some (.bool true):=zw
theorem c2y {mL}:a6Q Tryz.prog (L6 mL) 11 [] (.bool true):=by obtain⟨s,h⟩:=d3d (c9e mL);exact c4h a0n U6 a4M a1Y a4K Tryz.func11 zw rfl rfl rfl h
section
attribute [local congr] q9 x8 A8 z8 D5 x9 D6
def alX (bs:List Value):Option Value:=match bs with|[]=>some (.bool true)|_=>none
theorem d4W:V6 Tryz.prog tab (L6 mL) 11 (λbs=>M.lift (alX bs)):=a9u λbs v h=>by unfold alX at h;split at h;cases h;exact⟨rfl,rfl,c2y⟩;cases h
theorem e2v (mL):M0 (λz=>b7r (o8 a5N 5 164 [.int .u8 (.ofNat z)] (Go.V.a3a (L6 mL))) (dgI z)) (upN 256)=true:=zw
theorem d0X:V6 Tryz.prog tab (L6 mL) 164 (X1 .u8 (a3n qDg)):=a7B λz v h=>by obtain⟨m,hm,rfl,rfl⟩:=b0q h;obtain⟨s,hr⟩:=b7t ((R5 _ _).1 (e2v mL) m (uw.2 hm));exact⟨rfl,a3z a0n U6 a4M a1Y a4K b0R Tryz.func164 zw rfl rfl rfl hr⟩
def ze1:Nat->Option (List Value->M Value):=J8 a4Z 127 (a8Q (a0i X4) 125 3)
def zs1:a1r:=R4 a5N 127 (a8Q (a0i X4) 125 3)
theorem zL1:Shelf' Tryz.prog tab (L6 mL) NN ze1 zs1:=(⟨a4K,b0R⟩:Shelf' Tryz.prog tab (L6 mL) NN a4Z a5N).add d2e
theorem d0F (n c h r w):go (o8 zs1 (n+1) 127 []) ⟨c,h,r,w⟩=some (.ret (.slice (some ⟨c,0,some 0⟩) 125 3),⟨c+1,V.upd h c (.cells (J7 (λv=>(v,0)) (a0i X4)) 0 false),r,c::w⟩):=by
 rw[a9k zs1 n 127 [] (g:=a8Q (a0i X4) 125 3) zw,M5];have e:go (a8Q (a0i X4) 125 3 []) ⟨c,h,r,w⟩=some (.slice (some ⟨c,0,some 0⟩) 125 3,⟨c+1,V.upd h c (.cells (J7 (λv=>(v,0)) (a0i X4)) 0 false),r,c::w⟩):=by show go (M.bind (a0b (a0i X4)) λa=>M.pure (Value.slice (some a) 125 3)) ⟨c,h,r,w⟩=_;rw[M5,a2I c h r w _ zw];rfl
 rw[e];rfl
theorem e4c:V6 Tryz.prog tab (L6 mL) 97 (X1 .i64 λz=>some (a7H (a0a z X4))):=b7N a0n U6 zL1 Tryz.func97 zw rfl λz v h=>by cases h;refine⟨?_,2,?_⟩;cases a0a z X4<;>rfl;rw[a1j (q:=c7K) (N:=NN) zw 1];exactλc h r w=>t97 NN zq _ (d0F 0) z c h r w
def ze2:Nat->Option (List Value->M Value):=J8 ze1 97 (X1 .i64 λz=>some (a7H (a0a z X4)))
def zs2:a1r:=R4 zs1 97 (X1 .i64 λz=>some (a7H (a0a z X4)))
theorem zL2:Shelf' Tryz.prog tab (L6 mL) NN ze2 zs2:=zL1.add e4c
theorem d4v (n z):o8 zs2 (n+1) 97 [.int .i64 z]=M.pure (.ret (a7H (a0a z X4))):=a6G (q:=λz=>some (a7H (a0a z X4))) zw n rfl
def c1x (z:Int):List UInt8:=match a0a z X4 with|some r=>r.2.1|none=>[]
theorem n45 (N call)(h97:∀n,call 97 [.int .i64 n]=M.pure (.ret (a7H (a0a n X4))))(z):a4B (c7W o9 N call (.int .i64 z)) (.string ⟨⟨c1x z⟩⟩):=by intro c h r w;unfold c1x;have e:=h97 z;cases hf:a0a z X4 with|none=>rw[hf]at e;simp(disch:=first|exact dx|fail)only[e1o,e,a7H,c7r,U1,Y8,M5,M9,a1K,J3,l_0,V.e7i,G7,a3B,U0,O5,O4,a1I,a1s,a2g,a5p,Z5,a1L,a3w,L8,o7,a2w,a3g,Y7,a4L,a0D,Y5,a5f,a3p,a1A,a1X];exact l9.done ⟨rfl,λj hj=>yV⟩|some q=>rw[hf]at e;simp(disch:=first|exact dx|fail)only[e1o,e,a7H,b5A,U1,Y8,M5,M9,a1K,J3,l_0,V.e7i,G7,a3B,U0,O5,O4,a1I,a1s,a2g,a5p,Z5,a1L,a3w,L8,o7,a2w,a3g,Y7,a4L,a0D,Y5,a5f,a3p,a1A,a1X];exact l9.done ⟨rfl,λj hj=>yV⟩
theorem e6g:V6 Tryz.prog tab (L6 mL) 45 (X1 .i64 λz=>some (.string ⟨⟨c1x z⟩⟩)):=b7N a0n U6 zL2 Tryz.func45 zw rfl λz v h=>by cases h;exact⟨rfl,2,by rw[a1j (q:=c7W) (N:=NN) zw 1];exact n45 _ _ (d4v 0) z⟩
theorem c5L:V6 Tryz.prog tab (L6 mL) 46 (X1 .i64 λz=>some (.int .i64 (.ofNat (P9 z)))):=b7N a0n U6 zL2 Tryz.func46 zw rfl λz v h=>by cases h;exact⟨rfl,2,by rw[a1j (q:=c5K) (N:=NN) zw 1];exact t46 _ _ (d4v 0) z⟩
def ze3:Nat->Option (List Value->M Value):=J8 (J8 ze2 45 (X1 .i64 λz=>some (.string ⟨⟨c1x z⟩⟩))) 46 (X1 .i64 λz=>some (.int .i64 (.ofNat (P9 z))))
def zs3:a1r:=R4 (R4 zs2 45 (X1 .i64 λz=>some (.string ⟨⟨c1x z⟩⟩))) 46 (X1 .i64 λz=>some (.int .i64 (.ofNat (P9 z))))
theorem zL3:Shelf' Tryz.prog tab (L6 mL) NN ze3 zs3:=(zL2.add e6g).add c5L
theorem c4p (mL):M0 (λx=>b1f (o8 zs3 400 98 [.int .i64 (.ofNat x.1)] (Go.V.a3a (L6 mL))) x.2) a1V=true:=zw
theorem d4l:V6 Tryz.prog tab (L6 mL) 98 (X1 .i64 a4p):=a7B λz v h=>by unfold a4p at h;split at h;rename_i a ha;cases h;obtain⟨x,hm,rfl,rfl⟩:=b4Q z a1V a ha;obtain⟨s,hr⟩:=a9L ((R5 _ _).1 (c4p mL) x hm);exact⟨rfl,a3z a0n U6 a4M a1Y (zL3 (mL:=mL)).e (zL3 (mL:=mL)).s Tryz.func98 zw rfl rfl rfl hr⟩;cases h
def a2v (l:List (Nat×List UInt8))(T:List UInt8):Option Nat:=List.rec (motive:=λ_=>Option Nat) none (λx _ ih=>bcase (beqBytes x.2 T) (some x.1) ih) l
theorem a2V (x l T):a2v (x::l) T=bcase (beqBytes x.2 T) (some x.1) (a2v l T):=rfl
theorem e8Y (N:Nat)(call:I5)(b1 len:Nat)(T:List UInt8)(rows:List a5j)(hlen:len=rows.length)(hsm:rows.length<4294967296)(c:Nat)(h:Trie VObj)(hb1:b1<c)(h1:h.get b1=some (.cells (J7 (λv=>(v,0)) (a0i rows)) 0 false)):∀(l:List a5j) (i k:Nat) (xs:List Value) (r w:List Nat),rows.drop i=l->l.length<k->C8 xs 20=.int .i64 (.ofNat i)->l9 (go (Q5 (c9g o9 N call (.slice (some ⟨b1,0,some 0⟩) len 3) (.string ⟨⟨T⟩⟩)) k xs) ⟨c,h,r,w⟩) λx s=>s.c=c/\s.h=h/\match a2v (J7 (λr=>(r.1,r.2.1)) l) T with|some q=>x.1=.ret/\C8 x.2 16=.int .i64 (.ofNat q)/\C8 x.2 17=.bool true|none=>x.1=.exit 0:=by
 intro l;induction l with
  |nil=>
   intro i k xs r w hd hk hx;obtain⟨k,rfl⟩:∃m,k=m+1:=⟨k-1,by simp at hk;omega⟩;have hi:Nat.blt i len=false:=by
    have:rows.length<=i:=by simpa[List.drop_eq_nil_iff]using hd
    cases q:Nat.blt i len with
     |false=>rfl|true=>
      have:i<len:=by simpa[uE]using q
      omega
   simp(disch:=first|exact dx|fail)only[a0C,b4J,hx,b3H,hi,U1,M9,a1K,G5,l_0,l_s,N7,a2x,V.e7i,I7,M4,U7];exact l9.done ⟨rfl,rfl,rfl⟩|cons q l ih=>
   intro i k xs r w hd hk hx;obtain⟨k,rfl⟩:∃m,k=m+1:=⟨k-1,by simp at hk;omega⟩;have hil:i<len:=by have:=wO List.length hd;simp at this;omega
   have hi:Nat.blt i len=true:=L8 hil;have hd':rows.drop (i+1)=l:=yX;have hdr:F8 (J7 (λv=>(v,0)) (a0i rows)) (i*3)=(.int .i64 (.ofNat q.1),0)::(.string ⟨⟨q.2.1⟩⟩,0)::(.int .i64 (.ofNat q.2.2),0)::J7 (λv=>(v,0)) (a0i l):=by rw[b9b,hd];rfl
   have hdr1:F8 (J7 (λv=>(v,0)) (a0i rows)) (i*3+1)=(.string ⟨⟨q.2.1⟩⟩,0)::(.int .i64 (.ofNat q.2.2),0)::J7 (λv=>(v,0)) (a0i l):=by rw[a3y,hdr];rfl
   have hinc:=G9 i zy;have em:J7 (λr:a5j=>(r.1,r.2.1)) (q::l)=(q.1,q.2.1)::J7 (λr:a5j=>(r.1,r.2.1)) l:=rfl;rw[em,a2V];cases hb:beqBytes q.2.1 T with|true=>simp(disch:=first|exact dx|fail)only[a0C,b4J,hx,hb,b3H,hi,hdr,hdr1,h1,U1,M5,M9,a1K,a6f,G6,l_0,l_s,N7,V.e7i,a4S,I7,M4,a3B,U7,a1d,a1I,a1s,a4R,Z5,a1L,L8,a0D,Y5,a5f,vZ,a3l];exact l9.done ⟨rfl,rfl,rfl,rfl,rfl⟩|false=>simp(disch:=first|exact dx|fail)only[a0C,b4J,hx,hb,b3H,hi,hdr,hdr1,h1,hinc,U1,M5,M9,a1K,a6f,G6,G5,l_0,l_s,N7,V.e7i,a4S,I7,M4,a3B,U7,a1d,a1I,a1s,a4R,Z5,a1L,L8,a0D,Y5,a5f,vZ,I6];exact ih (i+1) k _ _ _ hd' (by simp at hk;omega) rfl
theorem c3I:a1y=J7 (λr:a5j=>(r.1,r.2.1)) X4:=zw
def opV (T:List UInt8):Value:=match a2v a1y T with|some op=>.tuple ⟨[.int .i64 (.ofNat op),.bool true]⟩|none=>.tuple ⟨[.int .i64 (.ofNat 0),.bool false]⟩
theorem f0z (call)(hc:∀c h r w,go (call 127 []) ⟨c,h,r,w⟩=some (.ret (.slice (some ⟨c,0,some 0⟩) 125 3),⟨c+1,V.upd h c (.cells (J7 (λv=>(v,0)) (a0i X4)) 0 false),r,c::w⟩))(T c h r w):l9 (go (b9C o9 NN call (.string ⟨⟨T⟩⟩)) ⟨c,h,r,w⟩) λx s=>x=.ret (opV T)/\∀i,i<c->s.h.get i=h.get i:=by simp(disch:=first|exact dx|fail)only[e4E,hc,U1,Y6,Y8,b0n,M5,M9,J3,a2T,V.e7i,G7];refine l9.bindS (e8Y NN call c 125 T X4 rfl zq (c+1) _ zy (o7 _ _ _) X4 0 NN _ _ _ rfl (by show 125<NN;decide) rfl) λx s hq=>?_;obtain⟨x1,x2⟩:=x;obtain⟨c',h',r',w'⟩:=s;obtain⟨rfl,rfl,hq⟩:=hq;unfold opV;rw[c3I];cases hf:a2v (J7 (λr:a5j=>(r.1,r.2.1)) X4) T with|none=>rw[hf]at hq;obtain rfl:=hq;simp(disch:=first|exact dx|fail)only[M5,M9,a1K,G6,a2x,J4];refine l9.done ⟨rfl,λi hi=>?_⟩;simp(disch:=first|exact dx|fail)only[d9]|some q=>rw[hf]at hq;obtain⟨rfl,e15,e16⟩:=hq;simp only at e15 e16;simp(disch:=first|exact dx|fail)only[M5,M9,a1K,a3l,e15,e16];refine l9.done ⟨rfl,λi hi=>?_⟩;simp(disch:=first|exact dx|fail)only[d9]
theorem d0G (T):M7 8 (opV T)=true:=by unfold opV;cases a2v a1y T<;>rfl
theorem c8U:V6 Tryz.prog tab (L6 mL) 152 (λbs=>M.lift (XT opV bs)):=a2n a0n U6 (zL1 (mL:=mL)).e (zL1 (mL:=mL)).s Tryz.func152 zw rfl λbs v h=>by obtain⟨T,rfl,rfl⟩:=c3F h;refine⟨d0G T,λc hh r w=>⟨2,?_⟩⟩;rw[a1j (q:=b9C) (N:=NN) zw 1];exact f0z _ (d0F 0) T c hh r w
theorem n54 (N call a):c7S o9 N call (.int .i64 a)=M.pure (.ret (.bool (a7k a))):=by simp only[e9P,U1,Y6,Q4,Q3,Q6,Q7,l_0,l_s,a7o,I6,V.e7i,a9T,a3N];rfl
theorem n50 (call)(hc:∀a,call 54 [.int .i64 a]=M.pure (.ret (.bool (a7k a))))(j)(v1:a7k (.ofNat j)=true)(c h r w):l9 (go (c8c o9 NN call (.int .i64 (.ofNat j))) ⟨c,h,r,w⟩) λx s=>x=.ret (.string ⟨⟨a1f (.ofNat j)⟩⟩)/\∀i,i<c->s.h.get i=h.get i:=by
 obtain rfl|rfl|rfl|rfl:j=1\/j=2\/j=3\/j=4:=by unfold a7k at v1;simp only[wh,uz,uL]at v1;omega
 all_goals simp(disch:=first|exact dx|fail)only[e8v,hc,v1,U1,Y8,M5,a1K,J3,a6f,a6A,N7,V.e7i,T9,a6J,a1o,G5,M9,a9E,a9h,a3I,b2D,b1Q,a7T,a6Z,a1L,X7,a7g,a5n,a9o,G6,a1d,a1s,Z5,L8,o7,a2w,a3g,a5f,vQ,Y7,a4L,a0D,Y5,a6c,l_0];exact l9.done ⟨rfl,λi hi=>d9 zy⟩
def q50 (z:Int):Option Value:=bcase (a7k z) (some (.string ⟨⟨a1f z⟩⟩)) none
theorem e5G:V6 Tryz.prog tab (L6 mL) 50 (X1 .i64 q50):=b7N a0n U6 zL3 Tryz.func50 zw rfl λz v h=>by
 obtain⟨h1,rfl⟩:=b8w h;obtain⟨j,rfl⟩:∃j:Nat,z=.ofNat j:=by have h2:=h1;unfold a7k at h2;simp only[wh,uz]at h2;exact⟨z.toNat,yT⟩
 refine⟨rfl,2,?_⟩;rw[a1j (q:=c8c) (N:=NN) zw 1];exactλc h r w=>n50 _ (λa=>by rw[a1j (q:=c7S) (N:=NN) zw 0];exact n54 _ _ a) j h1 c h r w
def ze4:Nat->Option (List Value->M Value):=J8 ze3 50 (X1 .i64 q50)
def zs4:a1r:=R4 zs3 50 (X1 .i64 q50)
theorem zL4:Shelf' Tryz.prog tab (L6 mL) NN ze4 zs4:=zL3.add e5G
theorem e3L (n z)(h:a7k z=true):o8 zs4 (n+1) 50 [.int .i64 z]=M.pure (.ret (.string ⟨⟨a1f z⟩⟩)):=a6G (q:=q50) zw n (by unfold q50;rw[h];rfl)
theorem e9t (call)(hc:∀z,a7k z=true->call 50 [.int .i64 z]=M.pure (.ret (.string ⟨⟨a1f z⟩⟩)))(T c h r w):l9 (go (b9H o9 NN call (.string ⟨⟨T⟩⟩)) ⟨c,h,r,w⟩) λx s=>x=.ret (a0E T)/\∀i,i<c->s.h.get i=h.get i:=by have d1:decide (Int.ofNat 1<=Int.ofNat 4)=true:=rfl;have d2:decide (Int.ofNat 2<=Int.ofNat 4)=true:=rfl;have d3:decide (Int.ofNat 3<=Int.ofNat 4)=true:=rfl;have d4:decide (Int.ofNat 4<=Int.ofNat 4)=true:=rfl;have d5:decide (Int.ofNat 5<=Int.ofNat 4)=false:=rfl;have i1:N8 .i64 (Int.ofNat 1+Int.ofNat 1)=Int.ofNat 2:=rfl;have i2:N8 .i64 (Int.ofNat 2+Int.ofNat 1)=Int.ofNat 3:=rfl;have i3:N8 .i64 (Int.ofNat 3+Int.ofNat 1)=Int.ofNat 4:=rfl;have i4:N8 .i64 (Int.ofNat 4+Int.ofNat 1)=Int.ofNat 5:=rfl;have c1:=hc (.ofNat 1) rfl;have c2:=hc (.ofNat 2) rfl;have c3:=hc (.ofNat 3) rfl;have c4:=hc (.ofNat 4) rfl;rw[vn1]at c1;rw[vn2]at c2;rw[vn3]at c3;rw[vn4]at c4;obtain⟨k,hN⟩:∃k,NN=k+6:=⟨NN-6,zq⟩;rw[hN];unfold a0E a6v;cases q1:beqBytes [105,51,50] T with|true=>simp(disch:=first|exact dz|fail)only[b6e,a9O,a0C,c1,d1,q1,bY];exact l9.done ⟨rfl,λi hi=>rfl⟩|false=>cases q2:beqBytes [105,54,52] T with|true=>simp(disch:=first|exact dz|fail)only[b6e,a9O,a0C,c1,c2,d1,d2,i1,q1,q2,bY];exact l9.done ⟨rfl,λi hi=>rfl⟩|false=>cases q3:beqBytes [102,117,110,99,114,101,102] T with|true=>simp(disch:=first|exact dz|fail)only[b6e,a9O,a0C,c1,c2,c3,d1,d2,d3,i1,i2,q1,q2,q3,bY];exact l9.done ⟨rfl,λi hi=>rfl⟩|false=>cases q4:beqBytes [101,120,116,101,114,110,114,101,102] T with|true=>simp(disch:=first|exact dz|fail)only[b6e,a9O,a0C,c1,c2,c3,c4,d1,d2,d3,d4,i1,i2,i3,q1,q2,q3,q4,bY];exact l9.done ⟨rfl,λi hi=>rfl⟩|false=>simp(disch:=first|exact dz|fail)only[b6e,a9O,a0C,c1,c2,c3,c4,d1,d2,d3,d4,d5,i1,i2,i3,i4,q1,q2,q3,q4,bY];exact l9.done ⟨rfl,λi hi=>rfl⟩
theorem d0N:V6 Tryz.prog tab (L6 mL) 194 (λbs=>M.lift (XT a0E bs)):=a2n a0n U6 (zL4 (mL:=mL)).e (zL4 (mL:=mL)).s Tryz.func194 zw rfl λbs v h=>by obtain⟨T,rfl,rfl⟩:=c3F h;refine⟨b1s T,λc hh r w=>⟨2,?_⟩⟩;rw[a1j (q:=b9H) (N:=NN) zw 1];exact e9t _ (e3L 0) T c hh r w
end
end Go.Proofs.YtmomonnlmbljoaaGreatDoor
