import Derived.Test.YtmomonnlmbljoaaGreatDoorHav
import Derived.Test.YtmomonnlmbljoaaGreatDoorHay
set_option maxRecDepth 1000000
set_option maxHeartbeats 4000000
set_option linter.unusedVariables false
set_option linter.unusedSimpArgs false
section
namespace Go.Proofs.YtmomonnlmbljoaaGreatDoor.S
open Go.ChangeShapes Go.WideShapes Go.ChangeAt Go.RowKit Go.V
abbrev YR:Type:=Ins×Value×Value
structure HandI (W:World) (a:Addr) (i:Nat) (y:YR):Prop where
 cells:∀ (j:Nat) (x:Value),(a2M y)[j]?=some x→W.cell? ⟨a.block,a.off+(i * 9+j),none⟩=some x
 N:y.1.N<18446744073709551616
 t:a9K W y.2.1 y.1.types
 l:a9K W y.2.2 y.1.labels
def a4a (Ys:List YR):List IR:=Ys.mapIdx λi y=>(y.1,b1f (8+2*i) y.2.1,b1f (8+2*i+1) y.2.2)
def a6C (Ys:List YR):a0E:=(Ys.mapIdx λi y=>[(λ(_:Nat) (y:YR)=>A7 y.1.types) (0+i) y,(λ(_:Nat) (y:YR)=>A7 y.1.labels) (0+i) y]).flatten
def a7x (Ys:List YR):List (Nat×Nat):=(Ys.mapIdx λi y=>[(λ(_:Nat) (y:YR)=>pOf y.2.1) (0+i) y,(λ(_:Nat) (y:YR)=>pOf y.2.2) (0+i) y]).flatten
noncomputable def N9 (mL:Int)(Ys:List YR):a0E:=A2 mL++((a4a Ys).flatMap a2M::a6C Ys)
def a3L (p:Nat×Nat)(Ys:List YR):List (Nat×Nat):=[(0,0),(1,0),(2,0),(3,0),(4,0),(5,0),(6,0)]++(p::a7x Ys)
theorem b8t {Ys i y}(h:Ys[i]?=some y):(a4a Ys)[i]?=some (y.1,b1f (8+2*i) y.2.1,b1f (8+2*i+1) y.2.2):=by unfold a4a;rw[tS,h];rfl
theorem b8z (Ys):(a4a Ys).length=Ys.length:=by unfold a4a;rw[List.length_mapIdx]
theorem b7R (mL Ys):(N9 mL Ys)[7]?=some ((a4a Ys).flatMap a2M):=rfl
theorem d5k (p Ys):(a3L p Ys)[7]?=some p:=rfl
theorem b9f (mL Ys k):(N9 mL Ys)[8+k]?=(a6C Ys)[k]?:=by show(A2 mL++((a4a Ys).flatMap a2M::a6C Ys))[8+k]?=_;rw[wo (by show 7<=_;omega),show 8+k-(A2 mL).length=k+1 by show 8+k-7=_;omega,vT]
theorem b3W (p Ys k):(a3L p Ys)[8+k]?=(a7x Ys)[k]?:=by show([(0,0),(1,0),(2,0),(3,0),(4,0),(5,0),(6,0)]++(p::a7x Ys))[8+k]?=_;rw[wo (by show 7<=_;omega),show 8+k-([(0,0),(1,0),(2,0),(3,0),(4,0),(5,0),(6,0)]:List (Nat×Nat)).length=k+1 by show 8+k-7=_;omega,vT]
theorem a9j (Ys i):(a6C Ys)[2*i]?=(Ys[i]?).map (λy=>A7 y.1.types)/\(a6C Ys)[2*i+1]?=(Ys[i]?).map λy=>A7 y.1.labels:=b5Q (λ(_:Nat) (y:YR)=>A7 y.1.types) (λ(_:Nat) (y:YR)=>A7 y.1.labels) Ys 0 i
theorem a6X (Ys i):(a7x Ys)[2*i]?=(Ys[i]?).map (λy=>pOf y.2.1)/\(a7x Ys)[2*i+1]?=(Ys[i]?).map λy=>pOf y.2.2:=b5Q (λ(_:Nat) (y:YR)=>pOf y.2.1) (λ(_:Nat) (y:YR)=>pOf y.2.2) Ys 0 i
theorem c8c (k):k=2*(k/2)\/k=2*(k/2)+1:=zy
theorem d0i (Ys):(a7x Ys).length=(a6C Ys).length:=by
 have h:∀k:Nat,((a7x Ys)[k]?).isSome=((a6C Ys)[k]?).isSome:=by intro k;rcases c8c k with q|q;rw[q,(a6X Ys (k/2)).1,(a9j Ys (k/2)).1];cases Ys[k/2]? <;>rfl;rw[q,(a6X Ys (k/2)).2,(a9j Ys (k/2)).2];cases Ys[k/2]? <;>rfl
 rcases tA (a7x Ys).length (a6C Ys).length with q|q|q;have:=h (a7x Ys).length;rw[ww (xR _),xP q]at this;cases this;exact q;have:=h (a6C Ys).length;rw[ww (l:=a6C Ys) (xR _),xP q]at this;cases this
theorem c4L (mL W a Ys)(hY:∀i y,Ys[i]?=some y->HandI W a i y)(v)(hv:v=.slice (some ⟨7,0,some 0⟩) Ys.length 9\/(Ys=[]/\∃o e,v=.slice o 0 e)):InsL (Go.V.a1e (N9 mL Ys)).c (Go.V.a1e (N9 mL Ys)).h v (a4a Ys):=by
 refine⟨?_,λx hx=>?_⟩;rcases hv with rfl|⟨rfl,o,e,rfl⟩;refine⟨_,9,by rw[b8z],Or.inr ⟨7,0,0,((a4a Ys).flatMap a2M).map λx=>(x,0),0,true,rfl,rfl,?_,?_,λi x hx=>?_⟩⟩;show 7<j9 (N9 mL Ys);rw[y9];exact(xQ.1 (b7R mL Ys)).1;rw[S4,b7R];have hi:i<(a4a Ys).length:=(xQ.1 hx).1;have hn:=b9K (a4a Ys);rw[wt,Q8,<-List.map_drop,d2p _ _ (by rw[wM];omega)];congr 1;refine wE λj=>?_;rcases wK j 9 with q|q;rw[vY,wT q,vr];exact b8Y _ i j x hx q;rw[ww (by rw[vV];omega),ww (by show 9<=j;exact q)];exact⟨o,e,rfl,Or.inl rfl⟩;obtain⟨i,hi⟩:=uv.1 hx;cases q:Ys[i]? with
  |none=>
   have:(a4a Ys)[i]?=none:=by unfold a4a;rw[tS,q];rfl
   rw[this]at hi;cases hi|some y=>
   rw[b8t q]at hi;cases hi;have h1:(N9 mL Ys)[8+2*i]?=some (A7 y.1.types):=by rw[b9f,(a9j Ys i).1,q];rfl
   have h2:(N9 mL Ys)[8+2*i+1]?=some (A7 y.1.labels):=by rw[uq,b9f,(a9j Ys i).2,q];rfl
   exact⟨b5R (hY i y q).t h1,b5R (hY i y q).l h2⟩
theorem c0z {H}{enc:TypeId×Value->H}{W fuel v x}(h:DataW.trod enc Tryz.prog W 0 (λ_=>true) true fuel 32 [v]=some x):(v=.slice none 0 0)\/∃(a:Addr) (cap:Nat) (Ys:List YR),v=.slice (some a) Ys.length cap/\Ys.length<=cap/\∀i y,Ys[i]?=some y->HandI W a i y:=by
 have k30:Tryz.prog.cellsOf 30=9:=zw;rcases Go.Deep.open_slice Tryz.underlying32 h with⟨e0,_⟩|⟨a,len,cap,m,n,D,Pl,e0,_,hle,_,hm,_,hi⟩;exact Or.inl zg;have hm':m=cap:=by rw[hm];rfl
 subst hm';have e0':v=.slice (some a) len m:=zg;rw[k30]at hi;have key:∀i,i<len->∃y:YR,HandI W a i y:=by
  intro i hil;obtain⟨cs',h1,h2⟩:=hi i zy;obtain⟨op,A,B,N,k,v1,i1,tv,lv,n',x1,x2,rfl,wN,_,t1,t2⟩:=b4m h2;obtain⟨N,rfl,hN⟩:=c7K wN;obtain⟨lt,Ht⟩:=b3Y Tryz.underlying27 Tryz.underlying24 zw t1;obtain⟨ll,Hl⟩:=b3Y Tryz.underlying28 Tryz.underlying3 zw t2;refine⟨(⟨op,A,B,N,k,v1,i1,lt,ll⟩,tv,lv),⟨λj x hj=>?_,hN,Ht,Hl⟩⟩;have hj9:j<9:=(xQ.1 hj).1;unfold World.cells? at h1;rw[wT (wR _)]at h1;have hx:=mapM_some_get h1 j j (by simp[hj9]);have hs:a.spot=none\/a.spot≠none:=by cases a.spot<;>simp
  have c0:=mapM_some_get h1 0 0 zu;have hx':W.cell? ((a.add (i*9)).add j)=some x:=hx.trans hj;rw[Go.Deep.add_add]at hx';have hsp:=World.cell?_spot hx';have e:a.add (i*9+j)=⟨a.block,a.off+(i*9+j),none⟩:=by obtain⟨ab,ao,asp⟩:=a;unfold Addr.add at hsp⊢;by_cases q:i*9+j=0;rw[wT q]at hsp⊢;simp only at hsp;rw[hsp,q];rfl;rw[wX q]
  rw[e]at hx';exact hx'
 obtain⟨Ys,hlen,hY⟩:=d2o len key;exact Or.inr ⟨a,m,Ys,by rw[hlen];exact e0',zy,hY⟩
theorem c8N {W a p Ys i y}(hy:Ys[i]?=some y)(HI:HandI W a i y)(j:Nat)(x)(hx:(a2M (y.1,b1f (8+2*i) y.2.1,b1f (8+2*i+1) y.2.2))[j]?=some x):∃x',(a2M y)[j]?=some x'/\VR (a2I (a3L p Ys)) x' x:=by
 have g1:(a3L p Ys)[8+2*i]?=some (pOf y.2.1):=by rw[b3W,(a6X Ys i).1,hy];rfl
 have g2:(a3L p Ys)[8+2*i+1]?=some (pOf y.2.2):=by rw[uq,b3W,(a6X Ys i).2,hy];rfl
 rcases j with _|_|_|_|_|_|_|_|_|j;cases hx;exact⟨_,rfl,VR.plain rfl⟩;cases hx;exact⟨_,rfl,VR.plain rfl⟩;cases hx;exact⟨_,rfl,VR.plain rfl⟩;cases hx;exact⟨_,rfl,VR.plain rfl⟩;cases hx;exact⟨_,rfl,VR.plain rfl⟩;cases hx;exact⟨_,rfl,VR.plain rfl⟩;cases hx;exact⟨_,rfl,VR.plain rfl⟩;cases hx;exact⟨_,rfl,b8T HI.t g1⟩;cases hx;exact⟨_,rfl,b8T HI.l g2⟩;cases hx
end Go.Proofs.YtmomonnlmbljoaaGreatDoor.S
end
section
namespace Go.Proofs.YtmomonnlmbljoaaGreatDoor
open Go.V Go.RowKit Go.Shelf Go.Proofs
variable {mL:Int}
attribute [local congr] m0 l9 n8 n9 q9 m8 s9
noncomputable def a8m (q:List UInt8->List UInt8->Value)(bs:List Value):Option Value:=match bs with|[.string s,.string s']=>some (q s.data.toList s'.data.toList)|_=>none
theorem b9e {q bs v}(h:a8m q bs=some v):∃T P,bs=[.string ⟨⟨T⟩⟩,.string ⟨⟨P⟩⟩]/\v=q T P:=by unfold a8m at h;split at h;rename_i s s';cases h;exact⟨s.data.toList,s'.data.toList,rfl,rfl⟩;cases h
noncomputable def a9P (T P:List UInt8):Value:=.bool (Q3 T P)
theorem d4H:B6 Tryz.prog tab (A2 mL) 117 (λbs=>M.lift (a8m a9P bs)):=Z3 J6 D7 (pL2 (mL:=mL)).e (pL2 (mL:=mL)).s Tryz.func117 zw rfl λbs v h=>by obtain⟨T,P,rfl,rfl⟩:=b9e h;refine⟨rfl,λc hh r w=>⟨2,U1.pureE ?_ c hh r w⟩⟩;rw[Z9 (q:=b7z) (N:=NN) zw 1];exact e4C NN _ T P
theorem c3N:B6 Tryz.prog tab (A2 mL) 40 (X1 .i64 λz=>some (.string ⟨⟨I0 z⟩⟩)):=a6f J6 D7 pL2 Tryz.func40 zw rfl λz v h=>by cases h;exact⟨rfl,2,by rw[O0 (q:=c0g) (N:=NN) zw 1];exact U1.pure (t40 _ _ z)⟩
noncomputable def pe3:Nat->Option (List Value->M Value):=(C8 (C8 (C8 (C8 (C8 (C8 pe2 81 (XSI 4294967295 a4A)) 186 (λbs=>M.lift (a8n bs))) 117 (λbs=>M.lift (a8m a9P bs))) 40 (X1 .i64 λz=>some (.string ⟨⟨I0 z⟩⟩))) 39 (X1 .i64 λz=>bcase (B3 z) (some (.int .i64 (.ofNat (w6 z)))) none)) 94 (X1 .i64 a4L))
noncomputable def ps3:a0g:=(I3 (I3 (I3 (I3 (I3 (I3 ps2 81 (XSI 4294967295 a4A)) 186 (λbs=>M.lift (a8n bs))) 117 (λbs=>M.lift (a8m a9P bs))) 40 (X1 .i64 λz=>some (.string ⟨⟨I0 z⟩⟩))) 39 (X1 .i64 λz=>bcase (B3 z) (some (.int .i64 (.ofNat (w6 z)))) none)) 94 (X1 .i64 a4L))
theorem pL3:Shelf' Tryz.prog tab (A2 mL) NN pe3 ps3:=(((((((((((pL2.add e1D)).add d6I)).add d4H).add c3N)).add c5k).add d1b)))
theorem d8m (n T P):j0 ps3 (n+1) 117 [.string ⟨⟨T⟩⟩,.string ⟨⟨P⟩⟩]=M.pure (.ret (.bool (Q3 T P))):=K6 ps3 n 117 _ (g:=a8m a9P) zw rfl
theorem e2n (n z):j0 ps3 (n+1) 40 [.int .i64 z]=M.pure (.ret (.string ⟨⟨I0 z⟩⟩)):=U7 (q:=λz=>some (.string ⟨⟨I0 z⟩⟩)) zw n rfl
theorem d9n:B6 Tryz.prog tab (A2 mL) 80 (λbs=>M.lift (a8m a9P bs)):=Z3 J6 D7 (pL3 (mL:=mL)).e (pL3 (mL:=mL)).s Tryz.func80 zw rfl λbs v h=>by obtain⟨T,P,rfl,rfl⟩:=b9e h;refine⟨rfl,λc hh r w=>⟨2,U1.pureE ?_ c hh r w⟩⟩;rw[Z9 (q:=c7U) (N:=NN) zw 1];simp(disch:=first|exact dz|fail)only[F80,d8m,bX];rfl
noncomputable def a1C (T:List UInt8):Option Nat:=bcase (beqBytes [105,51,50] T) (some 1) (bcase (beqBytes [105,54,52] T) (some 2) (bcase (beqBytes [102,117,110,99,114,101,102] T) (some 3) (bcase (beqBytes [101,120,116,101,114,110,114,101,102] T) (some 4) none)))
noncomputable def a0H (T:List UInt8):Value:=match a1C T with|some k=>.tuple ⟨[.int .i64 (.ofNat k),.bool true]⟩|none=>.tuple ⟨[.int .i64 (.ofNat 0),.bool false]⟩
theorem vn1:I0 (Int.ofNat 1)=[105,51,50]:=xK rfl rfl
theorem vn2:I0 (Int.ofNat 2)=[105,54,52]:=xK rfl rfl
theorem vn3:I0 (Int.ofNat 3)=[102,117,110,99,114,101,102]:=xK rfl rfl
theorem vn4:I0 (Int.ofNat 4)=[101,120,116,101,114,110,114,101,102]:=xK rfl rfl
theorem e6o (call)(hc:∀z,call 40 [.int .i64 z]=M.pure (.ret (.string ⟨⟨I0 z⟩⟩)))(T c h r w):d8 (go (b7d i7 NN call (.string ⟨⟨T⟩⟩)) ⟨c,h,r,w⟩) λx s=>x=.ret (a0H T)/\∀i,i<c->s.h.get i=h.get i:=by have d1:decide (Int.ofNat 1<=Int.ofNat 4)=true:=rfl;have d2:decide (Int.ofNat 2<=Int.ofNat 4)=true:=rfl;have d3:decide (Int.ofNat 3<=Int.ofNat 4)=true:=rfl;have d4:decide (Int.ofNat 4<=Int.ofNat 4)=true:=rfl;have d5:decide (Int.ofNat 5<=Int.ofNat 4)=false:=rfl;have i1:G8 .i64 (Int.ofNat 1+Int.ofNat 1)=Int.ofNat 2:=rfl;have i2:G8 .i64 (Int.ofNat 2+Int.ofNat 1)=Int.ofNat 3:=rfl;have i3:G8 .i64 (Int.ofNat 3+Int.ofNat 1)=Int.ofNat 4:=rfl;have i4:G8 .i64 (Int.ofNat 4+Int.ofNat 1)=Int.ofNat 5:=rfl;obtain⟨k,hN⟩:∃k,NN=k+6:=⟨NN-6,zv⟩;rw[hN];unfold a0H a1C;cases q1:beqBytes [105,51,50] T with|true=>simp(disch:=first|exact dz|fail)only[b9F,b9x,M6,hc,vn1,d1,q1,bY];exact d8.done ⟨rfl,λi hi=>rfl⟩|false=>cases q2:beqBytes [105,54,52] T with|true=>simp(disch:=first|exact dz|fail)only[b9F,b9x,M6,hc,vn1,vn2,d1,d2,i1,q1,q2,bY];exact d8.done ⟨rfl,λi hi=>rfl⟩|false=>cases q3:beqBytes [102,117,110,99,114,101,102] T with|true=>simp(disch:=first|exact dz|fail)only[b9F,b9x,M6,hc,vn1,vn2,vn3,d1,d2,d3,i1,i2,q1,q2,q3,bY];exact d8.done ⟨rfl,λi hi=>rfl⟩|false=>cases q4:beqBytes [101,120,116,101,114,110,114,101,102] T with|true=>simp(disch:=first|exact dz|fail)only[b9F,b9x,M6,hc,vn1,vn2,vn3,vn4,d1,d2,d3,d4,i1,i2,i3,q1,q2,q3,q4,bY];exact d8.done ⟨rfl,λi hi=>rfl⟩|false=>simp(disch:=first|exact dz|fail)only[b9F,b9x,M6,hc,vn1,vn2,vn3,vn4,d1,d2,d3,d4,d5,i1,i2,i3,i4,q1,q2,q3,q4,bY];exact d8.done ⟨rfl,λi hi=>rfl⟩
noncomputable def XT (q:List UInt8->Value)(bs:List Value):Option Value:=match bs with|[.string s]=>some (q s.data.toList)|_=>none
theorem d5n {q bs v}(h:XT q bs=some v):∃T,bs=[.string ⟨⟨T⟩⟩]/\v=q T:=by unfold XT at h;split at h;rename_i s;cases h;exact⟨s.data.toList,rfl,rfl⟩;cases h
theorem b5e (T):C1 8 (a0H T)=true:=by unfold a0H;cases a1C T<;>rfl
theorem d6F:B6 Tryz.prog tab (A2 mL) 182 (λbs=>M.lift (XT a0H bs)):=Z3 J6 D7 (pL3 (mL:=mL)).e (pL3 (mL:=mL)).s Tryz.func182 zw rfl λbs v h=>by obtain⟨T,rfl,rfl⟩:=d5n h;refine⟨b5e T,λc hh r w=>⟨2,?_⟩⟩;rw[O0 (q:=b7d) (N:=NN) zw 1];exact e6o _ (e2n 0) T c hh r w
noncomputable def c4E (b:UInt8):Bool:=decide (b.toNat=36)||(decide (48<=b.toNat)&&decide (b.toNat<=57))
noncomputable def b5t (T:List UInt8):Bool:=match T with|[]=>false|b::_=>c4E b
noncomputable def M2 (k:Nat)(T:List UInt8):Bool:=decide (k=2)&&b5t T
theorem M9 (a b):decide (Int.ofNat a=Int.ofNat b)=decide (a=b):=by by_cases q:a=b;rw[xL q,q,xL rfl];rw[xO q];simp only[wu,wz];omega
theorem c3z (b T):b3C (.string ⟨⟨b::T⟩⟩) (.int .i64 (.ofNat 0))=M.pure (.int .u8 (.ofNat b.toNat)):=rfl
theorem b8B (b T):beqBytes (b::T) []=false:=xK rfl rfl
theorem d4d:beqBytes [] []=true:=xK rfl rfl
theorem e4n (N call k p T a n e c h r w):d8 (go (b6M i7 N call (.agg ⟨[.int .i64 (.ofNat k),.int .i64 (.ofNat p),.string ⟨⟨T⟩⟩,.slice a n e]⟩)) ⟨c,h,r,w⟩) λx s=>x=.ret (.bool (M2 k T))/\∀i,i<c->s.h.get i=h.get i:=by unfold M2;have hf:∀i,i<c->i≠c:=λi hi=>zy;cases q1:decide (k=2)with|false=>simp(disch:=first|exact dz|fail)only[b9m,M9,q1,bY];exact d8.done ⟨rfl,λi hi=>zC⟩|true=>cases T with|nil=>simp(disch:=first|exact dz|fail)only[b9m,M9,q1,d4d,b5t,bY];exact d8.done ⟨rfl,λi hi=>zC⟩|cons b T=>unfold b5t c4E;cases q2:decide (b.toNat=36)with|true=>simp(disch:=first|exact dz|fail)only[b9m,M9,q1,q2,b8B,c3z,bY];exact d8.done ⟨rfl,λi hi=>zC⟩|false=>cases q3:decide (48<=b.toNat)with|false=>simp(disch:=first|exact dz|fail)only[b9m,M9,dle,q1,q2,q3,b8B,c3z,bY];exact d8.done ⟨rfl,λi hi=>zC⟩|true=>simp(disch:=first|exact dz|fail)only[b9m,M9,dle,q1,q2,q3,b8B,c3z,bY];exact d8.done ⟨rfl,λi hi=>zC⟩
noncomputable def XN (q:Nat->List UInt8->Value)(bs:List Value):Option Value:=match bs with|[.agg ⟨[.int .i64 (.ofNat k),.int .i64 (.ofNat _),.string s,.slice _ _ _]⟩]=>some (q k s.data.toList)|_=>none
theorem d5Q {q bs v}(h:XN q bs=some v):∃k p T a n e,bs=[.agg ⟨[.int .i64 (.ofNat k),.int .i64 (.ofNat p),.string ⟨⟨T⟩⟩,.slice a n e]⟩]/\v=q k T:=by unfold XN at h;split at h;cases h;exact⟨_,_,_,_,_,_,rfl,rfl⟩;cases h
noncomputable def c2N (k:Nat)(T:List UInt8):Value:=.bool (M2 k T)
theorem d8X:B6 Tryz.prog tab (A2 mL) 184 (λbs=>M.lift (XN c2N bs)):=Z3 J6 D7 (pL3 (mL:=mL)).e (pL3 (mL:=mL)).s Tryz.func184 zw rfl λbs v h=>by obtain⟨k,p,T,a,n,e,rfl,rfl⟩:=d5Q h;refine⟨rfl,λc hh r w=>⟨2,?_⟩⟩;rw[O0 (q:=b6M) (N:=NN) zw 1];exact e4n _ _ k p T a n e c hh r w
structure Sl where
 a:Option Addr
 n:Nat
 e:Nat
inductive Nd where
 | mk (k p:Nat) (t:List UInt8) (l:List Nd)
def Nd.k:Nd->Nat|.mk k _ _ _=>k
def Nd.p:Nd->Nat|.mk _ p _ _=>p
def Nd.t:Nd->List UInt8|.mk _ _ t _=>t
def Nd.l:Nd->List Nd|.mk _ _ _ l=>l
def ndV (n:Nd)(v:Sl):Value:=.agg ⟨[.int .i64 (.ofNat n.k),.int .i64 (.ofNat n.p),.string ⟨⟨n.t⟩⟩,.slice v.a v.n v.e]⟩
inductive NdL (U:Nat→Prop) (h:Trie VObj):Sl→List Nd→Prop
 | nil:NdL U h ⟨none, 0, 0⟩ []
 | row {b o g cur:Nat} {cs:List (Value×Nat)} {ro:Bool} {l:List Nd} (vs:Nat→Sl):U b→h.get b=some (.cells cs cur ro)→l.length<90000 →
  (∀ (i:Nat) n,l[i]?=some n→n.t.length<90000∧j8 g (z7 cs (o+i * 4)) 4=some [.int .i64 (.ofNat n.k),.int .i64 (.ofNat n.p),.string ⟨⟨n.t⟩⟩,.slice (vs i).a (vs i).n (vs i).e]) →
  (∀ (i:Nat) n,l[i]?=some n→NdL U h (vs i) n.l)→NdL U h ⟨some ⟨b,o,some g⟩,l.length, 4⟩ l
theorem NdL.mono {U U' h h' v l}(H:NdL U h v l)(hu:∀i,U i->U' i/\h'.get i=h.get i):NdL U' h' v l:=by induction H with|nil=>exact .nil|row vs h1 h2 h3 h4 _ ih=>exact .row vs (hu _ h1).1 ((hu _ h1).2.trans h2) h3 h4 ih
theorem NdL.len {U h v l}(H:NdL U h v l):v.n=l.length/\l.length<90000:=by cases H with|nil=>exact⟨rfl,zv⟩|row vs h1 h2 h3 h4 h5=>exact⟨rfl,h3⟩
theorem NdL.get {U h v l}(H:NdL U h v l){i n}(hi:l[i]?=some n):∃b q g cs cur ro lv,U b/\h.get b=some (.cells cs cur ro)/\NdL U h lv n.l/\n.t.length<90000/\(∀k,a6i 4 (.slice v.a v.n v.e) (.int k (.ofNat i))=M.pure (.pointer (some ⟨b,q,some g⟩)))/\j8 g (z7 cs q) 4=some [.int .i64 (.ofNat n.k),.int .i64 (.ofNat n.p),.string ⟨⟨n.t⟩⟩,.slice lv.a lv.n lv.e]/\j8 g (z7 cs q) 1=some [.int .i64 (.ofNat n.k)]/\j8 g (z7 cs (q+1)) 1=some [.int .i64 (.ofNat n.p)]/\j8 g (z7 cs (q+2)) 1=some [.string ⟨⟨n.t⟩⟩]/\j8 g (z7 cs (q+3)) 1=some [.slice lv.a lv.n lv.e]:=by
 cases H with
  |nil=>cases hi| @row b o g cur cs ro _ vs h1 h2 h3 h4 h5=>
   have hl:i<l.length:=(xQ.1 hi).1;obtain⟨ht,h6⟩:=h4 i n hi;have one:∀(j:Nat) (y:Value),([.int .i64 (.ofNat n.k),.int .i64 (.ofNat n.p),.string ⟨⟨n.t⟩⟩,.slice (vs i).a (vs i).n (vs i).e]:List Value)[j]?=some y->j8 g (z7 cs (o+i*4+j)) 1=some [y]:=by intro j y hy;rw[a2i];exact a1D h6 j y hy
   exact⟨b,o+i*4,g,cs,cur,ro,vs i,h1,h2,h5 i n hi,ht,λk=>a0d 4 i l.length k b o (some g) hl zv,h6,one 0 _ rfl,one 1 _ rfl,one 2 _ rfl,one 3 _ rfl⟩
structure RV where
 i:Nat
 op:Nat
 A:Nat
 B:Nat
 N:Nat
 k:Nat
 v:Nat
 bi:Nat
 ts:Sl
 ls:Sl
 nm:List UInt8
structure PV where
 out:Sl
 lb:Nat
 p:Nat
 e:Nat
def a0y (R:RV):List Value:=[.int .i64 (.ofNat R.op),.int .i64 (.ofNat R.A),.int .i64 (.ofNat R.B),.int .u64 (.ofNat R.N),.int .i64 (.ofNat R.k),.int .i64 (.ofNat R.v),.int .i64 (.ofNat R.bi),.slice R.ts.a R.ts.n R.ts.e,.slice R.ls.a R.ls.n R.ls.e]
def z8 (ap:Nat)(lv:Sl)(q:Nat)(R:RV):List (Value×Nat):=[(.pointer (some ⟨ap,0,some 0⟩),0),(.slice lv.a lv.n lv.e,0),(.int .i64 (.ofNat R.i),0),(.int .i64 (.ofNat q),0),(.int .i64 (.ofNat R.op),0),(.int .i64 (.ofNat R.A),0),(.int .i64 (.ofNat R.B),0),(.int .u64 (.ofNat R.N),0),(.int .i64 (.ofNat R.k),0),(.int .i64 (.ofNat R.v),0),(.int .i64 (.ofNat R.bi),0),(.slice R.ts.a R.ts.n R.ts.e,0),(.slice R.ls.a R.ls.n R.ls.e,0),(.string ⟨⟨R.nm⟩⟩,0)]
def w7 (sv fo:Value)(P:PV):List (Value×Nat):=[(sv,0),(.slice P.out.a P.out.n P.out.e,0),(.int .i64 (.ofNat P.lb),0),(.int .i64 (.ofNat P.p),0),(.int .i64 (.ofNat P.e),0),(fo,0)]
structure At (U:Nat→Prop) (h0:Trie VObj) (sv fo:Value) (ar ap:Nat) (lv:Sl) (q c:Nat) (h:Trie VObj) (R:RV) (P:PV):Prop where
 u:∀ i,U i→i<c∧i≠ar∧i≠ap∧h.get i=h0.get i
 r:ar<c
 p:ap<c
 ne:ar≠ap
 hr:h.get ar=some (.cells (z8 ap lv q R) 0 false)
 hp:h.get ap=some (.cells (w7 sv fo P) 0 false)
inductive Rs where
 | ok (R:RV)
 | er (p e:Nat)
def Rs.P (P:PV):Rs->PV|.ok _=>P|.er p e=>{P with p:=p,e:=e}
def Rs.b:Rs->Bool|.ok _=>true|.er _ _=>false
structure Fin (U:Nat→Prop) (h0:Trie VObj) (sv fo:Value) (ar ap:Nat) (lv:Sl) (q c:Nat) (h:Trie VObj) (P:PV) (rs:Rs) (s:V.S):Prop where
 le:c≤s.c
 same:∀ i,i<c→i≠ar→i≠ap→s.h.get i=h.get i
 at':∃ R',At U h0 sv fo ar ap lv q s.c s.h R' (rs.P P)∧∀ R1,rs=.ok R1→R'=R1
theorem At.fin {U h0 sv fo ar ap lv q c c' h h' R P r w}(H:At U h0 sv fo ar ap lv q c h R P)(R' rs)(hc:c<=c')(hs:∀i,i<c->i≠ar->i≠ap->h'.get i=h.get i)(hr:h'.get ar=some (.cells (z8 ap lv q R') 0 false))(hp:h'.get ap=some (.cells (w7 sv fo (rs.P P)) 0 false))(hR:∀R1,rs=.ok R1->R'=R1):Fin U h0 sv fo ar ap lv q c h P rs ⟨c',h',r,w⟩:=⟨hc,hs,R',⟨λi hi=>⟨xI (H.u i hi).1 hc,(H.u i hi).2.1,(H.u i hi).2.2.1,(hs i (H.u i hi).1 (H.u i hi).2.1 (H.u i hi).2.2.1).trans (H.u i hi).2.2.2⟩,xI H.r hc,xI H.p hc,H.ne,hr,hp⟩,hR⟩
theorem c5m (m:Nat)(s:ByteArray):a8Q tab 94 (.map (some m)) (.string s) true=M.bind (a4M m) λes=>M.obind (U6 (.string s) es) λo=>match o with|some v=>M.pure (.tuple ⟨[v,.bool true]⟩)|none=>M.pure (.tuple ⟨[.int .i64 (.ofNat 0),.bool false]⟩):=zw
theorem b8K (m:Nat)(n:Int):a8Q tab 90 (.map (some m)) (.int .i64 n) false=M.bind (a4M m) λes=>M.obind (U6 (.int .i64 n) es) λo=>match o with|some v=>M.pure v|none=>M.pure (.pointer none):=zw
theorem a7N (m c h r w es)(hm:m<c)(e:h.get m=some (.map es)):go (a4M m) ⟨c,h,r,w⟩=some (es,⟨c,h,m::r,w⟩):=by unfold a4M;rw[B4];show H7 (rd m ⟨c,h,r,w⟩) _=_;rw[b1u,A5 hm,e];rfl
theorem b0B (t:Nat)(a):R9 Tryz.prog tab .neq 44 (.tmp t) (.const (.pointer none)) (.pointer (some a)) (.pointer none)=M.pure (.bool true):=zw
theorem b0G (t:Nat)(m):R9 Tryz.prog tab .neq 90 (.tmp t) (.const (.map none)) (.map (some m)) (.map none)=M.pure (.bool true):=zw
theorem d0A (t:Nat)(a):R9 Tryz.prog tab .eql 93 (.tmp t) (.const (.pointer none)) (.pointer (some a)) (.pointer none)=M.pure (.bool false):=zw
noncomputable def a7K (v:Value)(k:Nat):M (List (Value×Value)):=R5 v λa=>M.bind (loadN a 2) λvs=>match vs with
 |[.map (some m),_]=>M.bind (a4M m) λes=>M.obind (U6 (.int .i64 (.ofNat k)) es) λo=>M.obind o λpv=>R5 pv λb=>M.bind (loadN b 3) λws=>match ws with|[_,_,.map (some m2)]=>a4M m2|_=>M.fail
 |_=>M.fail
noncomputable def b2r (fs:List (Value×Value))(T:List UInt8):Option Value:=bcase (Q3 T [36]) (match U6 (.string ⟨⟨T⟩⟩) fs with|some (some (.int .i64 n))=>some (.tuple ⟨[.int .i64 n,.int .i64 (.ofNat 0)]⟩)|some none=>some (.tuple ⟨[.int .i64 (.ofNat 0),.int .i64 (.ofNat 24)]⟩)|_=>none) (bcase (Nat.blt (j9 T) 90000) (some (a4A T)) none)
noncomputable def XF (bs:List Value):M Value:=match bs with|[v,.int .i64 (.ofNat k),.string s]=>M.bind (a7K v k) λfs=>M.lift (b2r fs s.data.toList)|_=>M.fail
theorem a0S {α v}{k:Addr->M α}{s s' u}(h:R5 v k s=some (u,s')):∃a,v=.pointer (some a)/\k a s=some (u,s'):=by unfold R5 at h;split at h;obtain⟨a,e,h2⟩:=x8 h;exact⟨a,by rw[e],h2⟩;cases h
theorem b0h {a n s s' vs}(h:loadN a n s=some (vs,s')):∃b o g cs cur ro,a=⟨b,o,some g⟩/\b<s.c/\s.h.get b=some (.cells cs cur ro)/\j8 g (z7 cs o) n=some vs/\s'.c=s.c/\s'.h=s.h:=by obtain⟨b,o,sp⟩:=a;unfold loadN at h;obtain⟨g,hg,h⟩:=x8 h;obtain⟨ob,s1,h1,h2⟩:=o7 h;obtain⟨r1,r2,r3,r4⟩:=a7T h1;cases ob with|cells cs cur ro=>obtain⟨q1,q2⟩:=a1j (h2:M.lift (j8 g (z7 cs o) n) s1=_);subst q2;exact⟨b,o,g,cs,cur,ro,by cases hg;rfl,r1,r2,q1,r3,r4⟩|_=>cases h2
theorem b8x {m s s' es}(h:a4M m s=some (es,s')):m<s.c/\s.h.get m=some (.map es)/\s'.c=s.c/\s'.h=s.h:=by unfold a4M at h;obtain⟨ob,s1,h1,h2⟩:=o7 h;obtain⟨r1,r2,r3,r4⟩:=a7T h1;cases ob with|map es'=>obtain⟨rfl,rfl⟩:=j7 (h2:M.pure es' s1=_);exact⟨r1,r2,r3,r4⟩|_=>cases h2
structure KindAt (U:Nat→Prop) (h:Trie VObj) (v:Value) (k:Nat) (fs:List (Value×Value)):Prop where
 ex:∃ sb so g cs cur ro m lv es kb ko kg ds cur2 ro2 n nm m2,v=.pointer (some ⟨sb,so,some g⟩)∧U sb∧h.get sb=some (.cells cs cur ro)∧j8 g (z7 cs so) 2=some [.map (some m),lv]∧U m∧h.get m=some (.map es) ∧
  U6 (.int .i64 (.ofNat k)) es=some (some (.pointer (some ⟨kb,ko,some kg⟩)))∧U kb∧h.get kb=some (.cells ds cur2 ro2)∧j8 kg (z7 ds ko) 3=some [n,nm,.map (some m2)]∧U m2∧h.get m2=some (.map fs)
theorem KindAt.mono {U U' h h' v k fs}(H:KindAt U h v k fs)(hu:∀i,U i->U' i/\h'.get i=h.get i):KindAt U' h' v k fs:=by obtain⟨sb,so,g,cs,cur,ro,m,lv,es,kb,ko,kg,ds,cur2,ro2,n,nm,m2,rfl,h1,h2,h3,h4,h5,h6,h7,h8,h9,h10,h11⟩:=H.ex;exact⟨sb,so,g,cs,cur,ro,m,lv,es,kb,ko,kg,ds,cur2,ro2,n,nm,m2,rfl,(hu _ h1).1,(hu _ h1).2.trans h2,h3,(hu _ h4).1,(hu _ h4).2.trans h5,h6,(hu _ h7).1,(hu _ h7).2.trans h8,h9,(hu _ h10).1,(hu _ h10).2.trans h11⟩
theorem c3h {v k s s' fs}(h:a7K v k s=some (fs,s')):KindAt (λi=>i<s.c) s.h v k fs/\s'.c=s.c/\s'.h=s.h:=by unfold a7K at h;obtain⟨a,rfl,g1⟩:=a0S h;obtain⟨vs,s1,h1,g2⟩:=o7 g1;obtain⟨sb,so,g,cs,cur,ro,rfl,a1,a2,a3,a4,a5⟩:=b0h h1;split at g2;rename_i m lv;obtain⟨es,s2,h2,g3⟩:=o7 g2;obtain⟨b1,b2,b3,b4⟩:=b8x h2;obtain⟨o,ho,g4⟩:=x8 g3;obtain⟨pv,hpv,g5⟩:=x8 g4;obtain⟨b,rfl,g6⟩:=a0S g5;obtain⟨ws,s3,h3,g7⟩:=o7 g6;obtain⟨kb,ko,kg,ds,cur2,ro2,rfl,c1,c2,c3,c4,c5⟩:=b0h h3;split at g7;rename_i n nm m2;obtain⟨d1,d2,d3,d4⟩:=b8x g7;subst hpv;refine⟨⟨sb,so,g,cs,cur,ro,m,lv,es,kb,ko,kg,ds,cur2,ro2,n,nm,m2,rfl,a1,a2,a3,zy,by rw[<-a5];exact b2,ho,zy,by rw[<-a5,<-b4];exact c2,c3,zy,by rw[<-a5,<-b4,<-c5];exact d2⟩,zy,by rw[d4,c5,b4,a5]⟩;cases g7;cases g2
theorem e1s (bs):Fr (XF bs):=by unfold XF;split;refine Fr.bind ?_ λ_=>Fr.lift _;unfold a7K;refine Fr.asPtr _ λa=>Fr.bind (Fr.loadN _ _) λvs=>?_;split;refine Fr.bind (Fr.mapAt _) λes=>Fr.obind _ λo=>Fr.obind _ λpv=>Fr.asPtr _ λb=>Fr.bind (Fr.loadN _ _) λws=>?_;split;exact Fr.mapAt _;exact Fr.fail;exact Fr.fail;exact Fr.fail
theorem b3z {fs T y}(h:b2r fs T=some y):(Q3 T [36]=true/\((∃n,U6 (.string ⟨⟨T⟩⟩) fs=some (some (.int .i64 n))/\y=.tuple ⟨[.int .i64 n,.int .i64 (.ofNat 0)]⟩)\/(U6 (.string ⟨⟨T⟩⟩) fs=some none/\y=.tuple ⟨[.int .i64 (.ofNat 0),.int .i64 (.ofNat 24)]⟩)))\/(Q3 T [36]=false/\T.length<90000/\y=a4A T):=by unfold b2r at h;cases q:Q3 T [36]with|true=>rw[q]at h;refine Or.inl ⟨rfl,?_⟩;have h':(match U6 (.string ⟨⟨T⟩⟩) fs with|some (some (.int .i64 n))=>some (Value.tuple ⟨[.int .i64 n,.int .i64 (.ofNat 0)]⟩)|some none=>some (.tuple ⟨[.int .i64 (.ofNat 0),.int .i64 (.ofNat 24)]⟩)|_=>none)=some y:=h;split at h';rename_i n e;cases h';exact Or.inl ⟨n,e,rfl⟩;rename_i e;cases h';exact Or.inr ⟨e,rfl⟩;cases h'|false=>rw[q]at h;have h':bcase (Nat.blt (j9 T) 90000) (some (a4A T)) none=some y:=h;cases q2:Nat.blt (j9 T) 90000 with|true=>rw[q2]at h';cases h';exact Or.inr ⟨rfl,by rw[y9]at q2;simpa using q2,rfl⟩|false=>rw[q2]at h';cases h'
noncomputable def pe4:Nat->Option (List Value->M Value):=(C8 (C8 (C8 pe3 80 (λbs=>M.lift (a8m a9P bs))) 182 (λbs=>M.lift (XT a0H bs))) 184 (λbs=>M.lift (XN c2N bs)))
noncomputable def ps4:a0g:=(I3 (I3 (I3 ps3 80 (λbs=>M.lift (a8m a9P bs))) 182 (λbs=>M.lift (XT a0H bs))) 184 (λbs=>M.lift (XN c2N bs)))
theorem pL4:Shelf' Tryz.prog tab (A2 mL) NN pe4 ps4:=(((pL3.add d9n)).add d6F).add d8X
theorem b3J (n T P):j0 ps4 (n+1) 80 [.string ⟨⟨T⟩⟩,.string ⟨⟨P⟩⟩]=M.pure (.ret (.bool (Q3 T P))):=K6 ps4 n 80 _ (g:=a8m a9P) zw rfl
theorem d1V (n T)(h:T.length<90000):j0 ps4 (n+1) 81 [.string ⟨⟨T⟩⟩,.int .i64 (.ofNat 4294967295)]=M.pure (.ret (a4A T)):=K6 ps4 n 81 _ (g:=a9D 4294967295 a4A) zw (b1M _ _ T h)
theorem b4q (n a):j0 ps4 (n+1) 79 [a]=b5i i7 NN (j0 ps4 n) a:=O0 (q:=b5i) (N:=NN) zw n a
theorem b9I (n a b):j0 ps4 (n+1) 106 [a,b]=b7b i7 NN (j0 ps4 n) a b:=Z9 (q:=b7b) (N:=NN) zw n a b
theorem c0c (T):a4A T=.tuple ⟨[.int .i64 (.ofNat (a2r T).1),.int .i64 (.ofNat (a2r T).2)]⟩:=rfl
theorem e5D {c c0 h v k fs}(H:KindAt (λi=>i<c0) h v k fs)(hc:c0<=c){T y}(hy:b2r fs T=some y)(r w):d8 (go (b6I i7 NN (j0 ps4 3) v (.int .i64 (.ofNat k)) (.string ⟨⟨T⟩⟩)) ⟨c,h,r,w⟩) λx s=>x=.ret y/\∀i,i<c->s.h.get i=h.get i:=by
 obtain⟨sb,so,g,cs,cur,ro,m,lv,es,kb,ko,kg,ds,cur2,ro2,n,nm,m2,rfl,h1,h2,h3,h4,h5,h6,h7,h8,h9,h10,h11⟩:=H.ex;have a1:sb<c:=zy;have a2:m<c:=zy;have a3:kb<c:=zy;have a4:m2<c:=zy;have t1:j8 g (z7 cs so) 1=some [.map (some m)]:=a1D h3 0 _ rfl▸by rw[J7]
 have t2:j8 kg (z7 ds (ko+2)) 1=some [.map (some m2)]:=by rw[a2i];exact a1D h9 2 _ rfl
 have e1:=λr w=>a7N m c h r w es a2 h5;have e2:=λr w=>a7N m2 c h r w fs a4 h11;rcases b3z hy with⟨p1,⟨z,p2,rfl⟩|⟨p2,rfl⟩⟩|⟨p1,p2,rfl⟩;simp(disch:=first|exact dz|fail)only[c9T,b4q,F79,b9I,c8C,b3J,b8K,c5m,b0B,b0G,d0A,h2,h8,t1,t2,e1,e2,h6,p1,p2,bY];exact d8.done ⟨rfl,λi hi=>rfl⟩;simp(disch:=first|exact dz|fail)only[c9T,b4q,F79,b9I,c8C,b3J,b8K,c5m,b0B,b0G,d0A,h2,h8,t1,t2,e1,e2,h6,p1,p2,bY];exact d8.done ⟨rfl,λi hi=>rfl⟩;simp(disch:=first|exact dz|fail)only[c9T,b4q,F79,b9I,c8C,b3J,d1V,b8K,b0B,b0G,d0A,h2,t1,e1,h6,p1,c0c,bY];exact d8.done ⟨rfl,λi hi=>rfl⟩
theorem d8j:B6 Tryz.prog tab (A2 mL) 207 XF:=a5t J6 D7 (pL4 (mL:=mL)).e (pL4 (mL:=mL)).s Tryz.func207 zw rfl e1s λbs s y s1 hq=>by unfold XF at hq;split at hq;rename_i v k t;obtain⟨fs,s2,h1,h2⟩:=o7 hq;obtain⟨h3,rfl⟩:=a1j h2;obtain⟨h4,h5,h6⟩:=c3h h1;refine⟨?_,h5,h6,λc hc=>⟨4,?_⟩⟩;rcases b3z h3 with⟨_,⟨z,_,rfl⟩|⟨_,rfl⟩⟩|⟨_,_,rfl⟩<;>rfl;rw[b1q (q:=b6I) (N:=NN) zw 3];exact e5D h4 hc h3 _ _;cases hq
def a2O (s:List UInt8):Value:=.string ⟨⟨s⟩⟩
noncomputable def X3 (vs:List Value):Option (List (List UInt8)):=List.rec (motive:=λ_=>Option (List (List UInt8))) (some []) (λv _ ih=>match v with
 |.string s=>match ih with|some l=>some (s.data.toList::l)|none=>none
 |_=>none) vs
theorem c7q (l):X3 (l.map a2O)=some l:=by induction l with|nil=>rfl|cons x l ih=>show(match X3 (l.map a2O)with|some l=>some (x::l)|none=>none)=_;rw[ih]
theorem a9L:∀{vs} {l},X3 vs=some l->vs=l.map a2O:=by
 intro vs;induction vs with
  |nil=>intro l h;cases h;rfl|cons v vs ih=>
   intro l h;cases v with
    |string s=>have h':(match X3 vs with|some l=>some (s.data.toList::l)|none=>none)=some l:=h;cases q:X3 vs with|none=>rw[q]at h';cases h'|some l'=>rw[q]at h';cases h';rw[ih q];rfl
    |_=>cases h
def SlU (U:Nat->Prop)(h:Trie VObj)(v:Sl)(vs:List Value):Prop:=v.n=vs.length/\(vs=[]\/∃b o g cs cur ro,v.a=some ⟨b,o,some g⟩/\v.e=1/\U b/\h.get b=some (.cells cs cur ro)/\j8 g (z7 cs o) vs.length=some vs)
theorem SlU.mono {U U' h h' v vs}(H:SlU U h v vs)(hu:∀i,U i->U' i/\h'.get i=h.get i):SlU U' h' v vs:=by obtain⟨h0,h1|⟨b,o,g,cs,cur,ro,h1,h2,h3,h4,h5⟩⟩:=H;exact⟨h0,Or.inl h1⟩;exact⟨h0,Or.inr ⟨b,o,g,cs,cur,ro,h1,h2,(hu _ h3).1,(hu _ h3).2.trans h4,h5⟩⟩
theorem SlU.of {c h a n e vs}(H:C0 c h (.slice a n e) vs):SlU (λi=>i<c) h ⟨a,n,e⟩ vs:=by obtain⟨a',e',h0,h1⟩:=H;cases h0;exact⟨rfl,h1⟩
structure LabAt (U:Nat→Prop) (h:Trie VObj) (v:Value) (L:List (List UInt8)):Prop where
 ex:∃ sb so g cs cur ro m lv,v=.pointer (some ⟨sb,so,some g⟩)∧U sb∧h.get sb=some (.cells cs cur ro)∧j8 g (z7 cs so) 2=some [.map (some m),.slice (Sl.a lv) lv.n lv.e]∧SlU U h lv (L.map a2O)
 len:L.length<90000
theorem LabAt.mono {U U' h h' v L}(H:LabAt U h v L)(hu:∀i,U i->U' i/\h'.get i=h.get i):LabAt U' h' v L:=by obtain⟨⟨sb,so,g,cs,cur,ro,m,lv,rfl,h1,h2,h3,h4⟩,h5⟩:=H;exact⟨⟨sb,so,g,cs,cur,ro,m,lv,rfl,(hu _ h1).1,(hu _ h1).2.trans h2,h3,h4.mono hu⟩,h5⟩
noncomputable def a9H (v:Value):M (List (List UInt8)):=R5 v λa=>M.bind (loadN a 2) λvs=>match vs with|[.map (some _),.slice la ln le]=>M.bind (b4V (.slice la ln le)) λws=>M.obind (X3 ws) λL=>M.guard (Nat.blt (j9 L) 90000) (M.pure L)|_=>M.fail
theorem c7g {v s s' L}(h:a9H v s=some (L,s')):LabAt (λi=>i<s.c) s.h v L/\s'.c=s.c/\s'.h=s.h:=by unfold a9H at h;obtain⟨a,rfl,g1⟩:=a0S h;obtain⟨vs,s1,h1,g2⟩:=o7 g1;obtain⟨sb,so,g,cs,cur,ro,rfl,a1,a2,a3,a4,a5⟩:=b0h h1;split at g2;rename_i m la ln le;obtain⟨ws,s2,h2,g3⟩:=o7 g2;obtain⟨b1,b2,b3⟩:=b9S h2;obtain⟨L',hL,g4⟩:=x8 g3;obtain⟨g5,g6⟩:=y8 g4;obtain⟨rfl,rfl⟩:=j7 g6;rw[a9L hL]at b1;refine⟨⟨⟨sb,so,g,cs,cur,ro,m,⟨la,ln,le⟩,rfl,a1,a2,a3,?_⟩,by rw[y9]at g5;simpa using g5⟩,zy,by rw[b3,a5]⟩;have:=SlU.of b1;rw[a4,a5]at this;exact this;cases g2
noncomputable def a4m (T:List UInt8):List (List UInt8)->Nat->Option Nat|[],_=>none|x::t,i=>bcase (beqBytes x T) (some i) (a4m T t (i+1))
noncomputable def b4G (L:List (List UInt8))(T:List UInt8):Value:=match a4m T L.reverse 0 with|some n=>.tuple ⟨[.int .i64 (.ofNat n),.int .i64 (.ofNat 0)]⟩|none=>.tuple ⟨[.int .i64 (.ofNat 0),.int .i64 (.ofNat 24)]⟩
noncomputable def b2J (L:List (List UInt8))(T:List UInt8):Option Value:=bcase (Q3 T [36]) (some (b4G L T)) (bcase (Nat.blt (j9 T) 90000) (some (a4A T)) none)
noncomputable def b2n (bs:List Value):M Value:=match bs with|[v,.string s]=>M.bind (a9H v) λL=>M.lift (b2J L s.data.toList)|_=>M.fail
theorem d3t (bs):Fr (b2n bs):=by unfold b2n;split;refine Fr.bind ?_ λ_=>Fr.lift _;unfold a9H;refine Fr.asPtr _ λa=>Fr.bind (Fr.loadN _ _) λvs=>?_;split;exact Fr.bind (Fr.rdSl _) λ_=>Fr.obind _ λ_=>Fr.guard _ (Fr.pure _);exact Fr.fail;exact Fr.fail
theorem c3X (L T):C1 8 (b4G L T)=true:=by unfold b4G;cases a4m T L.reverse 0<;>rfl
theorem d6x {L:List (List UInt8)}{i x}(h:L.reverse[i]?=some x):L[L.length-1-i]?=some x:=by have hi:=(xQ.1 h).1;rw[wA]at hi;rw[List.getElem?_reverse hi]at h;exact h
theorem c7P (N call T)(L:List (List UInt8))(hl:L.length<90000)(c h sb so sg css curs ros lv)(m:Nat)(hs1:sb<c)(hs2:h.get sb=some (.cells css curs ros))(hs3:j8 sg (z7 css (so+1)) 1=some [.slice lv.a lv.n lv.e])(H:SlU (λi=>i<c) h lv (L.map a2O)):∀(t) (i k) (g0 g1 g2 g3 g4 g5 g6 g7 g8 g9 g10 g11 g12 g13 g14 g15 g16 g17 g18 g19 g20 g21 g22) (r w),L.reverse.drop i=t->t.length<k->d8 (go (I9 (d1A i7 N call (.int .i64 (.ofNat L.length)) (.pointer (some ⟨sb,so,some sg⟩)) (.string ⟨⟨T⟩⟩)) k [g0,g1,g2,g3,g4,g5,g6,g7,g8,g9,g10,g11,g12,g13,g14,g15,g16,g17,g18,g19,g20,g21,g22,.int .i64 (.ofNat i)]) ⟨c,h,r,w⟩) λx s=>s.c=c/\s.h=h/\((a4m T t i=none/\x.1=.exit 0)\/∃n,a4m T t i=some n/\x.1=.ret/\r6 x.2 20=.int .i64 (.ofNat n)/\r6 x.2 21=.int .i64 (.ofNat 0)):=by
 intro t;induction t with
  |nil=>
   intro i k g0 g1 g2 g3 g4 g5 g6 g7 g8 g9 g10 g11 g12 g13 g14 g15 g16 g17 g18 g19 g20 g21 g22 r w hd hk;obtain⟨k,rfl⟩:∃m,k=m+1:=⟨k-1,zb⟩;have hi:decide (i<L.length)=false:=by have:L.length<=i:=yz;rw[wu];omega
   simp(disch:=first|exact dz|fail)only[M6,L32,P5,hi,bY];exact d8.done ⟨rfl,rfl,Or.inl ⟨rfl,rfl⟩⟩|cons x t ih=>
   intro i k g0 g1 g2 g3 g4 g5 g6 g7 g8 g9 g10 g11 g12 g13 g14 g15 g16 g17 g18 g19 g20 g21 g22 r w hd hk;obtain⟨k,rfl⟩:∃m,k=m+1:=⟨k-1,zb⟩;have hil:i<L.length:=zQ;have hi:decide (i<L.length)=true:=by rw[wa];exact hil
   have hq:L.reverse[i]?=some x:=zM;have hd':L.reverse.drop (i+1)=t:=zP;have hx:=d6x hq;have hinc:=B8 i zy;obtain⟨hn,hor⟩:=H;rcases hor with h0|⟨b,o,g,cs,cur,ro,ha,he,hb,hg,ht⟩;have:L=[]:=by simpa using h0
   subst this;simp at hil;obtain⟨la,ln,le⟩:=lv;simp only at hn ha he;subst ha;subst he;rw[xF]at hn;subst hn;have e1:G8 .i64 (Int.ofNat L.length-Int.ofNat 1)=Int.ofNat (L.length-1):=by rw[show Int.ofNat L.length-Int.ofNat 1=Int.ofNat (L.length-1) by simp only[wz];omega];exact b2U _ zy
   have e2:G8 .i64 (Int.ofNat (L.length-1)-Int.ofNat i)=Int.ofNat (L.length-1-i):=by rw[show Int.ofNat (L.length-1)-Int.ofNat i=Int.ofNat (L.length-1-i) by simp only[wz];omega];exact b2U _ zy
   have e3:=a0d 1 (L.length-1-i) L.length .i64 b o (some g) zy zv;have e4:j8 g (z7 cs (o+(L.length-1-i)*1)) 1=some [.string ⟨⟨x⟩⟩]:=by rw[a2i,wI];exact a1D ht (L.length-1-i) _ (by rw[wc,hx];rfl)
   generalize hj:L.length-1-i=j at*;generalize hj2:o+j*1=o2 at*;have hlen:=I5 (some ⟨b,o,some g⟩) L.length 1;cases q:beqBytes x T with|true=>simp(disch:=first|exact dz|fail)only[M6,L32,F32,P5,hi,hs2,hs3,hlen,e1,e2,e3,e4,hg,q,bY];exact d8.done ⟨rfl,rfl,Or.inr ⟨i,by show bcase (beqBytes x T) _ _=_;rw[q];rfl,rfl,rfl,rfl⟩⟩|false=>simp(disch:=first|exact dz|fail)only[M6,L32,F32,P5,hi,hs2,hs3,hlen,e1,e2,e3,e4,hg,q,hinc,bY];rw[show a4m T (x::t) i=a4m T t (i+1) by show bcase (beqBytes x T) _ _=_;rw[q];rfl];exact ih (i+1) k _ _ _ _ _ _ _ _ _ _ _ _ _ _ _ _ _ _ _ _ _ _ _ _ _ hd' zb
theorem n32 {c c0 h v L}(H:LabAt (λi=>i<c0) h v L)(hc:c0<=c){T y}(hy:b2J L T=some y)(r w):d8 (go (c2u i7 NN (j0 ps4 3) v (.string ⟨⟨T⟩⟩)) ⟨c,h,r,w⟩) λx s=>x=.ret y/\∀i,i<c->s.h.get i=h.get i:=by
 obtain⟨⟨sb,so,g,cs,cur,ro,m,lv,rfl,h1,h2,h3,h4⟩,h5⟩:=H.mono (U':=λi=>i<c) (h':=h) (λi hi=>⟨xI hi hc,rfl⟩);have a1:sb<c:=h1;have t1:j8 g (z7 cs so) 1=some [.map (some m)]:=a1D h3 0 _ rfl▸by rw[J7]
 have t2:j8 g (z7 cs (so+1)) 1=some [.slice lv.a lv.n lv.e]:=by rw[a2i];exact a1D h3 1 _ rfl
 have hn:lv.n=L.length:=by rw[h4.1,xF]
 have hlen:=I5 lv.a L.length lv.e;unfold b2J at hy;cases p1:Q3 T [36]with
  |true=>rw[p1]at hy;cases hy;simp(disch:=first|exact dz|fail)only[F32,b4q,F79,b3J,b0B,b0G,h2,t1,t2,p1,hn,hlen,bY];have hlp:=c7P NN (j0 ps4 3) T L h5 c h sb so g cs cur ro lv m a1 h2 t2 h4 L.reverse 0 NN undef undef undef undef undef undef undef undef undef undef undef undef undef undef undef undef undef undef undef undef (.int .i64 (.ofNat 0)) (.int .i64 (.ofNat 0)) undef;refine d8.bindS (hlp _ _ rfl (by rw[wA];exact vF h5 zv)) λx s hq=>?_;obtain⟨x1,x2⟩:=x;obtain⟨c',h',r',w'⟩:=s;obtain⟨rfl,rfl,⟨e1,rfl⟩|⟨n,e1,rfl,e2,e3⟩⟩:=hq;simp(disch:=first|exact dz|fail)only[bY];exact d8.done ⟨by unfold b4G;rw[e1],λi hi=>rfl⟩;simp only at e2 e3;simp(disch:=first|exact dz|fail)only[e2,e3,bY];exact d8.done ⟨by unfold b4G;rw[e1],λi hi=>rfl⟩|false=>
   rw[p1]at hy;have hy':bcase (Nat.blt (j9 T) 90000) (some (a4A T)) none=some y:=hy;cases q2:Nat.blt (j9 T) 90000 with
    |false=>rw[q2]at hy';cases hy'|true=>
     rw[q2]at hy';cases hy';have p2:T.length<90000:=by rw[y9]at q2;simpa using q2
     simp(disch:=first|exact dz|fail)only[F32,b4q,F79,b3J,d1V,b0B,b0G,h2,t1,p1,c0c,bY];exact d8.done ⟨rfl,λi hi=>rfl⟩
theorem e2V:B6 Tryz.prog tab (A2 mL) 32 b2n:=a5t J6 D7 (pL4 (mL:=mL)).e (pL4 (mL:=mL)).s Tryz.func32 zw rfl d3t λbs s y s1 hq=>by
 unfold b2n at hq;split at hq;rename_i v t;obtain⟨L,s2,h1,h2⟩:=o7 hq;obtain⟨h3,rfl⟩:=a1j h2;obtain⟨h4,h5,h6⟩:=c7g h1;refine⟨?_,h5,h6,λc hc=>⟨4,?_⟩⟩;unfold b2J at h3;cases qp:Q3 t.data.toList [36]with|true=>rw[qp]at h3;cases h3;exact c3X _ _|false=>rw[qp]at h3;cases q:Nat.blt (j9 t.data.toList) 90000 with|true=>have h3':bcase (Nat.blt (j9 t.data.toList) 90000) (some (a4A t.data.toList)) none=some y:=h3;rw[q]at h3';cases h3';rfl|false=>have h3':bcase (Nat.blt (j9 t.data.toList) 90000) (some (a4A t.data.toList)) none=some y:=h3;rw[q]at h3';cases h3'
 rw[Z9 (q:=c2u) (N:=NN) zw 3];exact n32 h4 hc h3 _ _;cases hq
noncomputable def b2G (a:Option Addr)(n e:Nat):M (Option (Nat×List UInt8)):=match n with|0=>M.pure none|_+1=>M.guard (Nat.beq e 4) (M.obind a λa=>M.bind (loadN a 4) λvs=>match vs with|[.int .i64 (.ofNat k),_,.string s,_]=>M.pure (some (k,s.data.toList))|_=>M.fail)
theorem Fr.rdHd (a:Option Addr)(n e:Nat):Fr (b2G a n e):=by unfold Proofs.YtmomonnlmbljoaaGreatDoor.b2G;split;exact Fr.pure _;refine Fr.guard _ (Fr.obind _ λa=>Fr.bind (Fr.loadN _ _) λvs=>?_);split;exact Fr.pure _;exact Fr.fail
def b0A (U:Nat->Prop)(h:Trie VObj)(a:Option Addr)(n e:Nat)(o:Option (Nat×List UInt8)):Prop:=(n=0/\o=none)\/∃m b off g cs cur ro k x s y,n=m+1/\e=4/\a=some ⟨b,off,some g⟩/\U b/\h.get b=some (.cells cs cur ro)/\j8 g (z7 cs off) 4=some [.int .i64 (.ofNat k),x,.string ⟨⟨s⟩⟩,y]/\o=some (k,s)
theorem b0A.mono {U U' h h' a n e o}(H:b0A U h a n e o)(hu:∀i,U i->U' i/\h'.get i=h.get i):b0A U' h' a n e o:=by rcases H with h1|⟨m,b,off,g,cs,cur,ro,k,x,s,y,h1,h2,h3,h4,h5,h6,h7⟩;exact Or.inl h1;exact Or.inr ⟨m,b,off,g,cs,cur,ro,k,x,s,y,h1,h2,h3,(hu _ h4).1,(hu _ h4).2.trans h5,h6,h7⟩
theorem c8Z {a n e s s' o}(h:b2G a n e s=some (o,s')):b0A (λi=>i<s.c) s.h a n e o/\s'.c=s.c/\s'.h=s.h:=by unfold b2G at h;split at h;obtain⟨rfl,rfl⟩:=j7 h;exact⟨Or.inl ⟨rfl,rfl⟩,rfl,rfl⟩;rename_i m;obtain⟨h1,h2⟩:=y8 h;obtain⟨ad,ha,h3⟩:=x8 h2;obtain⟨vs,s1,h4,h5⟩:=o7 h3;obtain⟨sb,so,g,cs,cur,ro,rfl,a1,a2,a3,a4,a5⟩:=b0h h4;split at h5;rename_i k x t y;obtain⟨rfl,rfl⟩:=j7 h5;exact⟨Or.inr ⟨m,sb,so,g,cs,cur,ro,k,x,t.data.toList,y,rfl,xS h1,ha,a1,a2,a3,rfl⟩,a4,a5⟩;cases h5
noncomputable def W7 (k:Nat)(o:Option (Nat×List UInt8))(W:List UInt8):Bool:=match o with|none=>false|some x=>decide (k=0)&&(decide (x.1=2)&&beqBytes x.2 W)
noncomputable def XBg (bs:List Value):M Value:=match bs with|[.agg ⟨[.int .i64 (.ofNat k),.int .i64 (.ofNat _),.string _,.slice a n e]⟩,.string w]=>M.bind (b2G a n e) λo=>M.pure (.bool (W7 k o w.data.toList))|_=>M.fail
theorem d4i (bs):Fr (XBg bs):=by unfold XBg;split;exact Fr.bind (Fr.rdHd _ _ _) λ_=>Fr.pure _;exact Fr.fail
theorem e5T (N call k p T W a n e c c0 h o)(H:b0A (λi=>i<c0) h a n e o)(hc:c0<=c)(r w):d8 (go (b7H i7 N call (.agg ⟨[.int .i64 (.ofNat k),.int .i64 (.ofNat p),.string ⟨⟨T⟩⟩,.slice a n e]⟩) (.string ⟨⟨W⟩⟩)) ⟨c,h,r,w⟩) λx s=>x=.ret (.bool (W7 k o W))/\∀i,i<c->s.h.get i=h.get i:=by
 have hf:∀i,i<c->i≠c:=λi hi=>zy;have hlen:=I5 a n e;rcases H with⟨rfl,rfl⟩|⟨m,b,off,g,cs,cur,ro,k1,x,s,y,rfl,rfl,rfl,h4,h5,h6,rfl⟩;have d0:decide (Int.ofNat 0<Int.ofNat 0)=false:=rfl;cases q1:decide (k=0)with|false=>simp(disch:=first|exact dz|fail)only[c0o,M9,q1,bY];exact d8.done ⟨rfl,λi hi=>zC⟩|true=>simp(disch:=first|exact dz|fail)only[c0o,M9,q1,hlen,d0,bY];exact d8.done ⟨rfl,λi hi=>zC⟩
 have d0:decide (Int.ofNat 0<Int.ofNat (m+1))=true:=by simp only[wa,wz];omega
 have hb:b<c:=zy;have hb2:b≠c:=zy;have e3:=a0d 4 0 (m+1) .i64 b off (some g) zy zv;rw[vW,wV]at e3;have t0:j8 g (z7 cs off) 1=some [.int .i64 (.ofNat k1)]:=a1D h6 0 _ rfl▸by rw[J7]
 have t2:j8 g (z7 cs (off+2)) 1=some [.string ⟨⟨s⟩⟩]:=by rw[a2i];exact a1D h6 2 _ rfl
 unfold W7;cases q1:decide (k=0)with|false=>simp(disch:=first|exact dz|fail)only[c0o,M9,q1,bY];exact d8.done ⟨rfl,λi hi=>zC⟩|true=>cases q2:decide (k1=2)with|false=>simp(disch:=first|exact dz|fail)only[c0o,M9,q1,q2,hlen,d0,e3,h5,t0,bY];exact d8.done ⟨rfl,λi hi=>zC⟩|true=>simp(disch:=first|exact dz|fail)only[c0o,M9,q1,q2,hlen,d0,e3,h5,t0,t2,bY];exact d8.done ⟨rfl,λi hi=>zC⟩
theorem d7e:B6 Tryz.prog tab (A2 mL) 113 XBg:=a5t J6 D7 (pL4 (mL:=mL)).e (pL4 (mL:=mL)).s Tryz.func113 zw rfl d4i λbs s y s1 hq=>by unfold XBg at hq;split at hq;rename_i k p t a n e w;obtain⟨o,s2,h1,h2⟩:=o7 hq;obtain⟨rfl,rfl⟩:=j7 h2;obtain⟨h4,h5,h6⟩:=c8Z h1;refine⟨rfl,h5,h6,λc hc=>⟨2,?_⟩⟩;rw[Z9 (q:=b7H) (N:=NN) zw 1];exact e5T _ _ k p t.data.toList w.data.toList a n e c s.c s.h o h4 hc _ _;cases hq
end Go.Proofs.YtmomonnlmbljoaaGreatDoor
end
