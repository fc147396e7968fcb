import Derived.Test.YtmomonnlmbljoaaGreatDoorHak
import Derived.Test.YtmomonnlmbljoaaGreatDoorHas
import Derived.Test.YtmomonnlmbljoaaGreatDoorHat
import Derived.Test.YtmomonnlmbljoaaGreatDoorHau
set_option maxRecDepth 1000000
set_option maxHeartbeats 4000000
set_option linter.unusedVariables false
set_option linter.unusedSimpArgs false
section
namespace Go.Proofs.YtmomonnlmbljoaaGreatDoor
open Go.V Go.RowKit Go.Shelf Go.Proofs
variable {mL:Int}
attribute [local congr] m0 l9 n8 n9 q9
theorem a1B {α b}{x:α}{v}(h:bcase b (some x) none=some v):b=true/\v=x:=by cases b with|true=>cases h;exact⟨rfl,rfl⟩|false=>cases h
noncomputable def D8:List (Nat×List UInt8×Nat):=[(0,[117,110,114,101,97,99,104,97,98,108,101],0),(1,[110,111,112],0),(2,[98,108,111,99,107],1),(3,[108,111,111,112],1),(4,[105,102],1),(5,[101,108,115,101],0),(11,[101,110,100],0),(12,[98,114],2),(13,[98,114,95,105,102],2),(14,[98,114,95,116,97,98,108,101],3),(15,[114,101,116,117,114,110],0),(16,[99,97,108,108],4),(17,[99,97,108,108,95,105,110,100,105,114,101,99,116],5),(26,[100,114,111,112],0),(27,[115,101,108,101,99,116],0),(28,[115,101,108,101,99,116],6),(32,[108,111,99,97,108,46,103,101,116],7),(33,[108,111,99,97,108,46,115,101,116],7),(34,[108,111,99,97,108,46,116,101,101],7),(35,[103,108,111,98,97,108,46,103,101,116],8),(36,[103,108,111,98,97,108,46,115,101,116],8),(37,[116,97,98,108,101,46,103,101,116],9),(38,[116,97,98,108,101,46,115,101,116],9),(40,[105,51,50,46,108,111,97,100],17),(41,[105,54,52,46,108,111,97,100],17),(44,[105,51,50,46,108,111,97,100,56,95,115],17),(45,[105,51,50,46,108,111,97,100,56,95,117],17),(46,[105,51,50,46,108,111,97,100,49,54,95,115],17),(47,[105,51,50,46,108,111,97,100,49,54,95,117],17),(48,[105,54,52,46,108,111,97,100,56,95,115],17),(49,[105,54,52,46,108,111,97,100,56,95,117],17),(50,[105,54,52,46,108,111,97,100,49,54,95,115],17),(51,[105,54,52,46,108,111,97,100,49,54,95,117],17),(52,[105,54,52,46,108,111,97,100,51,50,95,115],17),(53,[105,54,52,46,108,111,97,100,51,50,95,117],17),(54,[105,51,50,46,115,116,111,114,101],17),(55,[105,54,52,46,115,116,111,114,101],17),(58,[105,51,50,46,115,116,111,114,101,56],17),(59,[105,51,50,46,115,116,111,114,101,49,54],17),(60,[105,54,52,46,115,116,111,114,101,56],17),(61,[105,54,52,46,115,116,111,114,101,49,54],17),(62,[105,54,52,46,115,116,111,114,101,51,50],17),(63,[109,101,109,111,114,121,46,115,105,122,101],13),(64,[109,101,109,111,114,121,46,103,114,111,119],13),(65,[105,51,50,46,99,111,110,115,116],18),(66,[105,54,52,46,99,111,110,115,116],19),(69,[105,51,50,46,101,113,122],0),(70,[105,51,50,46,101,113],0),(71,[105,51,50,46,110,101],0),(72,[105,51,50,46,108,116,95,115],0),(73,[105,51,50,46,108,116,95,117],0),(74,[105,51,50,46,103,116,95,115],0),(75,[105,51,50,46,103,116,95,117],0),(76,[105,51,50,46,108,101,95,115],0),(77,[105,51,50,46,108,101,95,117],0),(78,[105,51,50,46,103,101,95,115],0),(79,[105,51,50,46,103,101,95,117],0),(80,[105,54,52,46,101,113,122],0),(81,[105,54,52,46,101,113],0),(82,[105,54,52,46,110,101],0),(83,[105,54,52,46,108,116,95,115],0),(84,[105,54,52,46,108,116,95,117],0),(85,[105,54,52,46,103,116,95,115],0),(86,[105,54,52,46,103,116,95,117],0),(87,[105,54,52,46,108,101,95,115],0),(88,[105,54,52,46,108,101,95,117],0),(89,[105,54,52,46,103,101,95,115],0),(90,[105,54,52,46,103,101,95,117],0),(103,[105,51,50,46,99,108,122],0),(104,[105,51,50,46,99,116,122],0),(105,[105,51,50,46,112,111,112,99,110,116],0),(106,[105,51,50,46,97,100,100],0),(107,[105,51,50,46,115,117,98],0),(108,[105,51,50,46,109,117,108],0),(109,[105,51,50,46,100,105,118,95,115],0),(110,[105,51,50,46,100,105,118,95,117],0),(111,[105,51,50,46,114,101,109,95,115],0),(112,[105,51,50,46,114,101,109,95,117],0),(113,[105,51,50,46,97,110,100],0),(114,[105,51,50,46,111,114],0),(115,[105,51,50,46,120,111,114],0),(116,[105,51,50,46,115,104,108],0),(117,[105,51,50,46,115,104,114,95,115],0),(118,[105,51,50,46,115,104,114,95,117],0),(119,[105,51,50,46,114,111,116,108],0),(120,[105,51,50,46,114,111,116,114],0),(121,[105,54,52,46,99,108,122],0),(122,[105,54,52,46,99,116,122],0),(123,[105,54,52,46,112,111,112,99,110,116],0),(124,[105,54,52,46,97,100,100],0),(125,[105,54,52,46,115,117,98],0),(126,[105,54,52,46,109,117,108],0),(127,[105,54,52,46,100,105,118,95,115],0),(128,[105,54,52,46,100,105,118,95,117],0),(129,[105,54,52,46,114,101,109,95,115],0),(130,[105,54,52,46,114,101,109,95,117],0),(131,[105,54,52,46,97,110,100],0),(132,[105,54,52,46,111,114],0),(133,[105,54,52,46,120,111,114],0),(134,[105,54,52,46,115,104,108],0),(135,[105,54,52,46,115,104,114,95,115],0),(136,[105,54,52,46,115,104,114,95,117],0),(137,[105,54,52,46,114,111,116,108],0),(138,[105,54,52,46,114,111,116,114],0),(167,[105,51,50,46,119,114,97,112,95,105,54,52],0),(172,[105,54,52,46,101,120,116,101,110,100,95,105,51,50,95,115],0),(173,[105,54,52,46,101,120,116,101,110,100,95,105,51,50,95,117],0),(192,[105,51,50,46,101,120,116,101,110,100,56,95,115],0),(193,[105,51,50,46,101,120,116,101,110,100,49,54,95,115],0),(194,[105,54,52,46,101,120,116,101,110,100,56,95,115],0),(195,[105,54,52,46,101,120,116,101,110,100,49,54,95,115],0),(196,[105,54,52,46,101,120,116,101,110,100,51,50,95,115],0),(208,[114,101,102,46,110,117,108,108],20),(209,[114,101,102,46,105,115,95,110,117,108,108],0),(210,[114,101,102,46,102,117,110,99],4),(64520,[109,101,109,111,114,121,46,105,110,105,116],15),(64521,[100,97,116,97,46,100,114,111,112],16),(64522,[109,101,109,111,114,121,46,99,111,112,121],14),(64523,[109,101,109,111,114,121,46,102,105,108,108],13),(64524,[116,97,98,108,101,46,105,110,105,116],11),(64525,[101,108,101,109,46,100,114,111,112],12),(64526,[116,97,98,108,101,46,99,111,112,121],10),(64527,[116,97,98,108,101,46,103,114,111,119],9),(64528,[116,97,98,108,101,46,115,105,122,101],9),(64529,[116,97,98,108,101,46,102,105,108,108],9)]
abbrev a1U:=Nat×List UInt8×Nat
noncomputable def b2y (x:a1U):List Value:=[.int .i64 (.ofNat x.1),.string ⟨⟨x.2.1⟩⟩,.int .i64 (.ofNat x.2.2)]
noncomputable def X4 (l:List a1U):List Value:=List.rec (motive:=λ_=>List Value) [] (λx _ ih=>.int .i64 (.ofNat x.1)::.string ⟨⟨x.2.1⟩⟩::.int .i64 (.ofNat x.2.2)::ih) l
noncomputable def c8h (r:Option (CR×S)):Option (Nat×Nat×List Value×Bool):=match r with
 |some x=>match x.1 with
  |.ret v=>match v with
   |.slice a n e=>match a with
    |some a=>match a.spot with
     |some g=>match Nat.beq a.off 0 with
      |true=>match x.2.h.get a.block with|some (.cells cs _ ro)=>some (n,e,G4 (·.1) cs,A9 (λx=>plain x.1&&Nat.ble x.2 g) cs&& !ro)|_=>none
      |false=>none
     |none=>none
    |none=>none
   |_=>none
  |_=>none
 |none=>none
theorem c7T {r n e vs}(h:c8h r=some (n,e,vs,true)):∃b2 g2 s2 cs cur,r=some (.ret (.slice (some ⟨b2,0,some g2⟩) n e),s2)/\s2.h.get b2=some (.cells cs cur false)/\G4 (·.1) cs=vs/\A9 (λx=>plain x.1&&Nat.ble x.2 g2) cs=true:=by
 unfold c8h at h;split at h;rename_i x;split at h;rename_i v hv;split at h;rename_i a n' e';split at h;rename_i a;split at h;rename_i g hg;split at h;rename_i ho;split at h;rename_i cs cur ro hc;have h':=vQ h;simp only[Prod.mk.injEq,xM]at h';obtain⟨rfl,rfl,rfl,h4,h5⟩:=h';obtain⟨b,off,sp⟩:=a;obtain rfl:off=0:=xS ho;obtain rfl:sp=some g:=hg;obtain rfl:ro=false:=by simpa using h5
 obtain⟨x1,x2⟩:=x;obtain rfl:x1=.ret (.slice (some ⟨b,0,some g⟩) n' e'):=hv;exact⟨b,g,x2,cs,cur,rfl,hc,rfl,h4⟩;cases h;cases h;cases h;cases h;cases h;cases h;cases h
theorem c9i (mL):c8h (j0 a4N 400 127 [] (Go.V.a1e (A2 mL)))=some (125,3,X4 D8,true):=zw
theorem c9S:B6 Tryz.prog tab (A2 mL) 127 (a9e (X4 D8) 125 3):=by obtain⟨b2,g2,s2,cs,cur,h1,h2,h3,h4⟩:=c7T (c9i mL);rw[<-h3];exact b9l J6 D7 a4o a0O a3u b0f Tryz.func127 zw rfl h1 h2 h4
theorem a5o (k n)(h:n<a1s k):G8 k (.ofNat n)=.ofNat n:=by
 unfold G8;have:Nat.blt n (a1s k)=true:=by simpa[wB]using h
 simp only[this]
theorem B8 (i)(h:i<4294967296):G8 .i64 (Int.ofNat i+Int.ofNat 1)=Int.ofNat (i+1):=a5o .i64 (i+1) (by show i+1<9223372036854775808;omega)
theorem a0A (i n):decide (Int.ofNat i<Int.ofNat n)=Nat.blt i n:=by
 cases h:Nat.blt i n with
  |true=>
   have:i<n:=by simpa[wB]using h
   simp only[wa,wz];omega|false=>
   have:¬i<n:=λq=>by rw[A5 q]at h;cases h
   simp only[wu,wz];omega
noncomputable def G7 (n:Int):List a1U->Option a1U|[]=>none|r::l=>bcase (decide (Int.ofNat r.1=n)) (some r) (G7 n l)
noncomputable def c4X:List Value:=[.int .i64 (.ofNat 0),.string ⟨⟨[]⟩⟩,.int .i64 (.ofNat 0)]
noncomputable def a7j (o:Option a1U):Value:=match o with|some r=>.tuple ⟨[.agg ⟨b2y r⟩,.bool true]⟩|none=>.tuple ⟨[.agg ⟨c4X⟩,.bool false]⟩
theorem c6N (rows):∀(i),z7 (G4 (λv=>(v,0)) (X4 rows)) (i*3)=G4 (λv=>(v,0)) (X4 (rows.drop i)):=by induction rows with|nil=>intro i;rw[Q8];simp[X4,G4]|cons r l ih=>intro i;cases i with|zero=>rw[vW,J7];rfl|succ i=>rw[show(i+1)*3=i*3+1+1+1 by omega];exact ih i
theorem c7V (N:Nat)(call:A8)(b0 b1 len:Nat)(n:Int)(rows:List a1U)(hlen:len=rows.length)(hsm:rows.length<4294967296)(x0 x1 x2:Value)(c:Nat)(h:Trie VObj)(hb0:b0<c)(hb1:b1<c)(h0:h.get b0=some (.cells [(x0,0),(x1,0),(x2,0)] 0 false))(h1:h.get b1=some (.cells (G4 (λv=>(v,0)) (X4 rows)) 0 false)):∀(l:List a1U) (i k:Nat) (g0 g1 g2 g3 g4 g5 g6 g7 g8 g9 g10 g11 g12 g13 g14 g16 g17:Value) (r w:List Nat),rows.drop i=l->l.length<k->d8 (go (I9 (d0Q i7 N call (.slice (some ⟨b1,0,some 0⟩) len 3) (.int .i64 n) (.pointer (some ⟨b0,0,some 0⟩))) k [g0,g1,g2,g3,g4,g5,g6,g7,g8,g9,g10,g11,g12,g13,g14,.bool false,g16,g17,.int .i64 (.ofNat i)]) ⟨c,h,r,w⟩) λx s=>s.c=c/\match G7 n l with|some q=>x.1=.ret/\r6 x.2 15=.bool true/\s.h=O2 h b0 (.cells [(.int .i64 (.ofNat q.1),0),(.string ⟨⟨q.2.1⟩⟩,0),(.int .i64 (.ofNat q.2.2),0)] 0 false)|none=>x.1=.exit 0/\s.h=h:=by
 intro l;induction l with
  |nil=>
   intro i k g0 g1 g2 g3 g4 g5 g6 g7 g8 g9 g10 g11 g12 g13 g14 g16 g17 r w hd hk;obtain⟨k,rfl⟩:∃m,k=m+1:=⟨k-1,zb⟩;have hi:Nat.blt i len=false:=by have:rows.length<=i:=yz;cases q:Nat.blt i len with|false=>rfl|true=>have:i<len:=yb;omega
   simp(disch:=first|exact dx|fail)only[M6,c0p,a0A,hi,E9,B2,N2,m7,J9,K7,B5,Y8,V.e3y,x9,A6,I5];exact d8.done ⟨rfl,rfl,rfl⟩|cons q l ih=>
   intro i k g0 g1 g2 g3 g4 g5 g6 g7 g8 g9 g10 g11 g12 g13 g14 g16 g17 r w hd hk;obtain⟨k,rfl⟩:∃m,k=m+1:=⟨k-1,zb⟩;have hil:i<len:=zQ;have hi:Nat.blt i len=true:=A5 hil;have hd':rows.drop (i+1)=l:=zP;have hdr:z7 (G4 (λv=>(v,0)) (X4 rows)) (i*3)=(.int .i64 (.ofNat q.1),0)::(.string ⟨⟨q.2.1⟩⟩,0)::(.int .i64 (.ofNat q.2.2),0)::G4 (λv=>(v,0)) (X4 l):=by rw[c6N,hd];rfl
   have hinc:=B8 i zy;simp(disch:=first|exact dx|fail)only[M6,c0p,a0A,hi,hdr,h1,E9,B4,B2,N2,a0q,o9,J9,K7,B5,V.e3y,G0,x9,A6,a3z,I5,a0d,a0w,a1f,a2W,a3U,O4,U8,A5,W5,I6,a7R,wV];rw[c0O];refine d8.cases (λhb=>?_) (λhb=>?_);simp(disch:=first|exact dx|fail)only[h0,B2,N2,a0Q,U8,a2V,a2h,a0e,a0u];refine d8.done ⟨rfl,?_⟩;have e:G7 n (q::l)=some q:=by unfold G7;rw[hb];rfl
   rw[e];exact⟨rfl,rfl,rfl⟩;simp(disch:=first|exact dx|fail)only[hinc,B2,w9];have e:G7 n (q::l)=G7 n l:=by show bcase (decide (Int.ofNat q.1=n)) (some q) (G7 n l)=_;rw[hb];rfl
   rw[e];exact ih (i+1) k _ _ _ _ _ _ _ _ _ _ _ _ _ _ _ _ _ _ _ hd' zb
theorem t97 (N)(hN:1000<N)(call)(hc:∀c h r w,go (call 127 []) ⟨c,h,r,w⟩=some (.ret (.slice (some ⟨c,0,some 0⟩) 125 3),⟨c+1,O2 h c (.cells (G4 (λv=>(v,0)) (X4 D8)) 0 false),r,c::w⟩))(n c h r w):d8 (go (c2X i7 N call (.int .i64 n)) ⟨c,h,r,w⟩) λx s=>x=.ret (a7j (G7 n D8))/\∀i,i<c->s.h.get i=h.get i:=by simp(disch:=first|exact dx|fail)only[e6a,hc,E9,I1,J2,a4Z,B4,B2,A4,a2j,V.e3y,r9,a2m,a6O,a8g,a1z,a2z];refine d8.bindS (c7V N call c (c+1) 125 n D8 rfl zv _ _ _ (c+1+1) _ zy zy (by rw[c9 zy,d9]) (by rw[d9]) D8 0 N _ _ _ _ _ _ _ _ _ _ _ _ _ _ _ _ _ _ _ rfl (by show 125<N;omega)) λx s hq=>?_;obtain⟨x1,x2⟩:=x;obtain⟨c',h',r',w'⟩:=s;obtain⟨rfl,hq⟩:=hq;cases hf:G7 n D8 with|none=>rw[hf]at hq;obtain⟨rfl,rfl⟩:=hq;simp(disch:=first|exact dx|fail)only[B4,B2,N2,V8,o9,Y8,a0w,a3U,O4,U8,a2V,A5,d9,c9,J7,W5,I6,a2h,a0e,a0u,I4];refine d8.done ⟨rfl,λi hi=>?_⟩;simp(disch:=first|exact dx|fail)only[c9]|some q=>rw[hf]at hq;obtain⟨rfl,e15,rfl⟩:=hq;simp only at e15;simp(disch:=first|exact dx|fail)only[B4,B2,N2,V8,a0Q,O4,U8,A5,d9,J7,W5,I6,e15];refine d8.done ⟨rfl,λi hi=>?_⟩;simp(disch:=first|exact dx|fail)only[c9]
def X5 (a:Int):Bool:=decide (1<=a)&&decide (a<=4)
noncomputable def I0 (a:Int):List UInt8:=bcase (decide (a=1)) [105,51,50] (bcase (decide (a=2)) [105,54,52] (bcase (decide (a=3)) [102,117,110,99,114,101,102] (bcase (decide (a=4)) [101,120,116,101,114,110,114,101,102] [])))
theorem t40 (N call a):c0g i7 N call (.int .i64 a)=M.pure (.ret (.string ⟨⟨I0 a⟩⟩)):=by simp only[e6m,E9,C3,B5,V.e3y,a5B,a8Z,G0];rfl
noncomputable def B3 (z:Int):Bool:=match G7 z D8 with|some _=>true|none=>false
noncomputable def w6 (z:Int):Nat:=match G7 z D8 with|some r=>r.2.2|none=>0
theorem a1w (z):∀(l) (r),G7 z l=some r->r∈l/\z=Int.ofNat r.1:=by intro l;induction l with|nil=>intro r h;cases h|cons q l ih=>intro r h;have h':bcase (decide (Int.ofNat q.1=z)) (some q) (G7 z l)=some r:=h;by_cases hq:Int.ofNat q.1=z;rw[xL hq]at h';cases h';exact⟨wH,hq.symm⟩;rw[xO hq]at h';obtain⟨h1,h2⟩:=ih r h';exact⟨wY _ h1,h2⟩
theorem t46 (N call)(h97:∀n,call 97 [.int .i64 n]=M.pure (.ret (a7j (G7 n D8))))(z):U1 (c4K i7 N call (.int .i64 z)) (.int .i64 (.ofNat (w6 z))):=by intro c h r w;unfold w6;have e:=h97 z;cases hf:G7 z D8 with|none=>rw[hf]at e;simp(disch:=first|exact dx|fail)only[d7h,e,a7j,c4X,E9,J2,B4,B2,N2,A4,J9,V.e3y,r9,a3z,E5,E8,E6,a0w,a1f,a3U,a8g,O4,U8,a2V,A5,d9,a1z,a2z,J7,a5j,W5,I6,a7R,a2h,a0e,a0u];exact d8.done ⟨rfl,λj hj=>by simp(disch:=first|exact dx|fail)only[c9]⟩|some q=>rw[hf]at e;simp(disch:=first|exact dx|fail)only[d7h,e,a7j,b2y,E9,J2,B4,B2,N2,A4,J9,V.e3y,r9,a3z,E5,E8,E6,a0w,a1f,a3U,a8g,O4,U8,a2V,A5,d9,a1z,a2z,J7,a5j,W5,I6,a7R,a2h,a0e,a0u];exact d8.done ⟨rfl,λj hj=>by simp(disch:=first|exact dx|fail)only[c9]⟩
theorem d7H (mL):A9 (λr:a1U=>b0K (j0 a4N 400 39 [.int .i64 (.ofNat r.1)] (Go.V.a1e (A2 mL))) r.2.2) D8=true:=zw
theorem c5k:B6 Tryz.prog tab (A2 mL) 39 (X1 .i64 λz=>bcase (B3 z) (some (.int .i64 (.ofNat (w6 z)))) none):=a6w λz v h=>by obtain⟨h1,rfl⟩:=a1B h;unfold B3 at h1;unfold w6;cases hf:G7 z D8 with|none=>rw[hf]at h1;cases h1|some r=>obtain⟨hm,rfl⟩:=a1w z D8 r hf;obtain⟨s,hr⟩:=b0p ((C9 _ _).1 (d7H mL) r hm);exact⟨rfl,a3B J6 D7 a4o a0O a3u b0f Tryz.func39 zw rfl rfl rfl hr⟩
noncomputable def R7:List (Nat×Nat):=[(40,2),(41,3),(44,0),(45,0),(46,1),(47,1),(48,0),(49,0),(50,1),(51,1),(52,2),(53,2),(54,2),(55,3),(58,0),(59,1),(60,0),(61,1),(62,2)]
noncomputable def N4 (l:List (Nat×Nat))(z:Int):Option Nat:=List.rec (motive:=λ_=>Option Nat) none (λx _ ih=>bcase (decide (z=Int.ofNat x.1)) (some x.2) ih) l
theorem c1j (z):∀(l) (a),N4 l z=some a->∃x∈l,z=Int.ofNat x.1/\a=x.2:=by intro l;induction l with|nil=>intro a h;cases h|cons q l ih=>intro a h;have h':bcase (decide (z=Int.ofNat q.1)) (some q.2) (N4 l z)=some a:=h;by_cases hq:z=Int.ofNat q.1;rw[xL hq]at h';cases h';exact⟨q,wH,hq,rfl⟩;rw[xO hq]at h';obtain⟨x,h1,h2⟩:=ih a h';exact⟨x,wY _ h1,h2⟩
noncomputable def a4L (z:Int):Option Value:=match N4 R7 z with|some a=>some (.int .i64 (.ofNat a))|none=>none
theorem c6u (mL):A9 (λx=>b0K (j0 a4N 400 94 [.int .i64 (.ofNat x.1)] (Go.V.a1e (A2 mL))) x.2) R7=true:=zw
theorem d1b:B6 Tryz.prog tab (A2 mL) 94 (X1 .i64 a4L):=a6w λz v h=>by unfold a4L at h;split at h;rename_i a ha;cases h;obtain⟨x,hm,rfl,rfl⟩:=c1j z R7 a ha;obtain⟨s,hr⟩:=b0p ((C9 _ _).1 (c6u mL) x hm);exact⟨rfl,a3B J6 D7 a4o a0O a3u b0f Tryz.func94 zw rfl rfl rfl hr⟩;cases h
end Go.Proofs.YtmomonnlmbljoaaGreatDoor
end
section
end
section
namespace Go.Proofs.YtmomonnlmbljoaaGreatDoor
open Go.Shelf Go.RowKit Go.Sort Go.Lib
set_option maxHeartbeats 6400000 in set_option maxRecDepth 100000 in theorem b6w (u:Nat)(hu64:u<18446744073709551616)(w:World)(htab:Lib.TabIs Tryz.prog w "internal/strconv.uint64pow10" .u64 Lib.pow10Tab):Calls Tryz.prog 126 #[.int .u64 u,.int .i64 10] w λe w'=>e=.returned (.string ⟨(Lib.decDigits u).toArray⟩)/\∃k os,w'=grow (w.drewN k) os:=by
 have e167:∀args w,(callFunc 167 args).run Tryz.prog w=.ok (.enter 167 args) w:=sX Tryz.func167 zw rfl;have e168:∀args w,(callFunc 168 args).run Tryz.prog w=.ok (.enter 168 args) w:=sX Tryz.func168 zw rfl;have e169:∀args w,(callFunc 169 args).run Tryz.prog w=.ok (.enter 169 args) w:=sX Tryz.func169 zw rfl;by_cases hs:u<100;have hwr:IntKind.i64.wrap (u:Int)=(u:Int):=by rw[IntKind.wrap_i64];omega
 go_enter Tryz.func126,Tryz.ntmps126;go_wp2_with (go_at_call 167;refine(Any.internal_strconv_small {Tryz.lFormatInt with} u hs _).mono ?_;rintro e w' ⟨rfl,rfl⟩);go_ret;exact⟨rfl,0,#[],by simp[World.drewN_zero]⟩;have hu1:1<=u:=zy;have hnd20:Lib.nDigits u<=20:=by have:=Lib.numDigits_eq u hu1 hu64;split at this<;>omega
 have hb3:Lib.nDigits u<=24:=zy;have hal:Tryz.prog.arrayLen 222=24:=by simp[Program.arrayLen,Tryz.underlying222]
 have hsl1:∀W,(Instr.sliceAt 222 (.pointer (some ⟨w.heap.size,0,none⟩)) none (some (.int .i64 (Lib.nDigits u:Int))) none).run Tryz.prog W=.ok (.slice (some ⟨w.heap.size,0,none⟩) (Lib.nDigits u) 24) W:=λW=>by rw[run_sliceAt_array_h W 222 ⟨w.heap.size,0,none⟩ (by simp[Program.arrayLen,Program.elem,Tryz.underlying222]) .i64 (Lib.nDigits u:Int) zy (by rw[hal];omega)];go_simp
 have hH0:=Lib.holds_zero0 w 222 (Lib.nDigits u) zy;have hfmt:=Any.internal_strconv_formatBase10 {Tryz.lFormatInt with} w.heap.size 0 24 u (Array.replicate (Lib.nDigits u) 0) (w.alloc (.cells Lib.zeros24 222)) hH0 (by rw[uO];exact Lib.lt_pow_nDigits u) hu64 (by rw[uO];omega);rw[uO]at hfmt;have HH0:=Lib.hid hH0;clear hH0;go_enter Tryz.func126,Tryz.ntmps126;go_wp2_with (first|(go_at_call 168;refine(Any.internal_strconv_numDigits {Tryz.lFormatInt with} u hu1 hu64 _ (Lib.tabIs_alloc htab _)).mono ?_;rintro e w' ⟨rfl,rfl⟩));go_at_call 169;refine hfmt.mono ?_;rintro e w' ⟨rfl,k,v',dk,rfl,hF⟩;have hcv:(convert 149 9 (.slice (some ⟨w.heap.size,0,none⟩) (Lib.nDigits u) 24)).run Tryz.prog ((putRow (λ(b:UInt8)=>Value.int .u8 (b.toNat:Int)) (w.alloc (.cells Lib.zeros24 222)) w.heap.size 0 dk).drewN k)=.ok (.string ⟨(Lib.decDigits u).toArray⟩) ((putRow (λ(b:UInt8)=>Value.int .u8 (b.toNat:Int)) (w.alloc (.cells Lib.zeros24 222)) w.heap.size 0 dk).drewN k):=by have h:=run_convert_bytes_back (P:=Tryz.prog) ((putRow (λ(b:UInt8)=>Value.int .u8 (b.toNat:Int)) (w.alloc (.cells Lib.zeros24 222)) w.heap.size 0 dk).drewN k) 149 9 5 ⟨w.heap.size,0,none⟩ 24 (Lib.decDigits u) Tryz.underlying149 Tryz.underlying5 Tryz.underlying9 (λj hj=>by rw[Lib.row_is_numeral hF j hj,Lib.add_plain,World.cell?_drewN];exact cell?_putRow (λ(b:UInt8)=>Value.int .u8 (b.toNat:Int)) _ w.heap.size 0 _ dk HH0.out (by rw[hF.size,uO]) j (by rw[hF.size];rw[Lib.decDigits_length]at hj;exact hj));rw[Lib.decDigits_length]at h;exact h
 go_wp2;go_ret;obtain⟨os,eo⟩:=Lib.fin_at w (.cells Lib.zeros24 222) dk k 0;exact⟨rfl,k,os,eo⟩
end Go.Proofs.YtmomonnlmbljoaaGreatDoor
end
section
namespace Go.Proofs.YtmomonnlmbljoaaGreatDoor.S
open Go.V Go.RowKit Go.Shelf Go.Proofs
variable {mL:Int}
theorem a9Q (w k os):Below w.heap.size w (Sort.grow (w.drewN k) os):=⟨rfl,rfl,rfl,by simp[Sort.grow,World.drewN],λi hi=>by show(w.heap++os)[i]?=_;rw[Array.getElem?_append_left hi]⟩
theorem d0k:Tryz.prog.globalNamed "internal/strconv.uint64pow10"=some 2:=zw
theorem b8v:a7P=Lib.pow10Tab.map λz=>Value.int .u64 z:=zw
theorem b2K {w}(h:LaidV (A2 mL) w):Lib.TabIs Tryz.prog w "internal/strconv.uint64pow10" .u64 Lib.pow10Tab:=by obtain⟨t,fz,e⟩:=h.row 2 a7P rfl (by rw[b8v];decide);show w.var? Tryz.prog _=_;unfold World.var?;rw[d0k];show(match w.heap[2]? with|some (.cells cs _ _)=>some cs|_=>none)=_;rw[e,b8v]
noncomputable def b1L (bs:List Value):Option Value:=match bs with|[.int .i64 n]=>bcase (decide (-9223372036854775808<=n)&&decide (n<=9223372036854775807)) (some (.string ⟨⟨Lib.itoa n⟩⟩)) none|_=>none
noncomputable def a9l (bs:List Value):Option Value:=match bs with|[.int .i64 n,.int .i64 10]=>bcase (decide (-9223372036854775808<=n)&&decide (n<=9223372036854775807)) (some (.string ⟨⟨Lib.itoa n⟩⟩)) none|_=>none
noncomputable def a2x (bs:List Value):Option Value:=match bs with|[.int .u64 (.ofNat u),.int .i64 10]=>bcase (Nat.blt u 18446744073709551616) (some (.string ⟨⟨Lib.decDigits u⟩⟩)) none|_=>none
theorem c8B:B6 Tryz.prog tab (A2 mL) 37 (λbs=>M.lift (b1L bs)):=a1V λbs v h=>by unfold b1L at h;split at h;rename_i n;obtain⟨h1,rfl⟩:=a1B h;simp only[xM,wa]at h1;refine⟨rfl,rfl,λw hL=>⟨J5 Tryz.func37 zw rfl,?_⟩⟩;refine(Any.strconv_Itoa Tryz.lItoa n h1.1 h1.2 w (b2K hL)).mono λe w' hq=>?_;obtain⟨rfl,k,os,rfl⟩:=hq;exact⟨rfl,a9Q w k os⟩;cases h
theorem c3G:B6 Tryz.prog tab (A2 mL) 95 (λbs=>M.lift (a9l bs)):=a1V λbs v h=>by unfold a9l at h;split at h;rename_i n;obtain⟨h1,rfl⟩:=a1B h;simp only[xM,wa]at h1;refine⟨rfl,rfl,λw hL=>⟨J5 Tryz.func95 zw rfl,?_⟩⟩;refine(Any.strconv_FormatInt_10 Tryz.lFormatInt n h1.1 h1.2 w (b2K hL)).mono λe w' hq=>?_;obtain⟨rfl,k,os,rfl⟩:=hq;exact⟨rfl,a9Q w k os⟩;cases h
theorem c0G:B6 Tryz.prog tab (A2 mL) 126 (λbs=>M.lift (a2x bs)):=a1V λbs v h=>by unfold a2x at h;split at h;rename_i u;obtain⟨h1,rfl⟩:=a1B h;refine⟨rfl,rfl,λw hL=>⟨J5 Tryz.func126 zw rfl,?_⟩⟩;refine(b6w u (by simpa[wB]using h1) w (b2K hL)).mono λe w' hq=>?_;obtain⟨rfl,k,os,rfl⟩:=hq;exact⟨rfl,a9Q w k os⟩;cases h
end Go.Proofs.YtmomonnlmbljoaaGreatDoor.S
end
section
namespace Go.Proofs.YtmomonnlmbljoaaGreatDoor.S
open Go.V Go.RowKit Go.Shelf Go.Proofs
variable {mL:Int}
attribute [local congr] m0 l9 n8 n9 q9
def idxB (a:Int):Bool:=decide (0<=a)&&decide (a<4294967296)
theorem t86 (N call a):c3k i7 N call (.int .i64 a)=M.pure (.ret (.bool (idxB a))):=by simp only[e4J,E9,I1,B9,C3,C6,C4,J9,K7,a0B,w9,V.e3y,x9,Z6];rfl
theorem t59 (N call a):c2B i7 N call (.int .i64 a)=M.pure (.ret (.bool (idxB a))):=by simp only[e4g,E9,I1,B9,C3,C6,C4,J9,K7,a0B,w9,V.e3y,x9,Z6];rfl
theorem t88 (N call a):c2L i7 N call (.int .i64 a)=M.pure (.ret (.bool (X5 a))):=by simp only[e6c,E9,I1,B9,C3,C6,C4,J9,K7,a0B,w9,V.e3y,a4c,Z6];rfl
theorem t61 (N call a):c4T i7 N call (.int .i64 a)=M.pure (.ret (.bool (X5 a))):=by simp only[e5q,E9,I1,B9,C3,C6,C4,J9,K7,a0B,w9,V.e3y,a4c,Z6];rfl
theorem t43 (N call a):c2J i7 N call (.int .i64 a)=M.pure (.ret (.string ⟨⟨bcase (decide (a=3)) [102,117,110,99] [101,120,116,101,114,110]⟩⟩)):=by simp only[e5x,E9,C3,B5,V.e3y,a5B,a8Z,G0];rfl
theorem b6l (m)(h:m<10):Lib.decDigits m=[UInt8.ofNat (48+m)]:=by rw[Lib.decDigits,dif_pos h]
theorem d2N (m)(h:¬m<10):Lib.decDigits m=Lib.decDigits (m/10)++[UInt8.ofNat (48+m%10)]:=by rw[Lib.decDigits,dif_neg h]
theorem c2n (k):∀m,m<10^(k+1)->(Lib.decDigits m).length<=k+1:=by induction k with|zero=>intro m h;rw[b6l m zy];simp|succ k ih=>intro m h;by_cases h1:m<10;rw[b6l m h1];simp;rw[d2N m h1];have:=ih (m/10) (by rw[Nat.pow_succ]at h;omega);simp;omega
theorem a5e (m)(h:m<18446744073709551616):(Lib.decDigits m).length<=20:=c2n 19 m zy
theorem c8T (n):Lib.itoa (Int.ofNat n)=Lib.decDigits n:=by unfold Lib.itoa;rw[wX yu];rfl
theorem d0t (n):Lib.itoa (Int.negSucc n)=45::Lib.decDigits (n+1):=by unfold Lib.itoa;rw[wT (Int.negSucc_lt_zero n)];rfl
theorem a6k (z)(h1:-9223372036854775808<=z)(h2:z<=18446744073709551615):j9 (Lib.itoa z)<=21:=by rw[y9];cases z with|ofNat n=>rw[c8T];have:=a5e n (by simp only[wz]at h2;omega);omega|negSucc n=>rw[d0t];have:=a5e (n+1) zy;simp;omega
def sgn (w n:Nat):Int:=if n<2^(w-1)then(n:Int)else(n:Int)-2^w
noncomputable def a7s (z w:Int):Option Value:=match z with
 |.ofNat n=>match w with|.ofNat w=>bcase ((Nat.beq w 32&&Nat.blt n 4294967296)||(Nat.beq w 64&&Nat.blt n 18446744073709551616)) (some (.string ⟨⟨Lib.itoa (sgn w n)⟩⟩)) none|.negSucc _=>none
 |.negSucc _=>none
theorem a2y (k n):G8 k n=k.wrap n:=V.a2y k n
theorem b2P (n)(hn:n<4294967296):-9223372036854775808<=sgn 32 n:=zB
theorem b2Z (n)(hn:n<4294967296):sgn 32 n<=9223372036854775807:=zB
theorem c4s (n)(hn:n<4294967296):(G8 .i64 (Int.ofNat (n*4294967296))).fdiv 4294967296=sgn 32 n:=yM
theorem c7D (n)(hn:n<4294967296)(t x y):R9 Tryz.prog tab .shl t x y (.int .u64 (.ofNat n)) (.int .i64 (.ofNat 32))=M.pure (.int .u64 (.ofNat (n*4294967296))):=by rw[a5a _ _ _ _ _ _ _ _ _ zv,show(2:Nat)^32=4294967296 from rfl,a5o .u64 _ (by show n*4294967296<18446744073709551616;omega)]
theorem c5T (n)(hn:n<4294967296)(t x y):R9 Tryz.prog tab .shr t x y (.int .i64 (G8 .i64 (Int.ofNat (n*4294967296)))) (.int .i64 (.ofNat 32))=M.pure (.int .i64 (sgn 32 n)):=by rw[F7 _ _ _ _ _ _ _ _ _ zv,show(2:Int)^32=4294967296 from rfl,c4s n hn]
theorem d5o (N call n)(hn:n<4294967296)(hc:∀z,-9223372036854775808<=z->z<=9223372036854775807->call 95 [.int .i64 z,.int .i64 (.ofNat 10)]=M.pure (.ret (.string ⟨⟨Lib.itoa z⟩⟩))):b4u i7 N call (.int .u64 (.ofNat n)) (.int .i64 (.ofNat 32))=M.pure (.ret (.string ⟨⟨Lib.itoa (sgn 32 n)⟩⟩)):=by have e4:=hc _ (b2P n hn) (b2Z n hn);have e2:=c7D n hn;have e5:=c5T n hn;generalize n*4294967296=b at e2 e5;have e1:G8 .i64 (Int.ofNat 64-Int.ofNat 32)=Int.ofNat 32:=zv;have b1:decide (Int.ofNat 32<Int.ofNat 1)=false:=zv;have b2:decide (Int.ofNat 64<Int.ofNat 32)=false:=zv;simp only[d7b,E9,I1,J2,e1,b1,b2,A3,m7,C3,C6,C4,a2D,J9,K7,E2,B5,w9,V.e3y,x9,B7,G1,S8,e2,e5,e4,b4o]
theorem d5A (N call n)(hn:n<18446744073709551616)(hc:∀z,-9223372036854775808<=z->z<=9223372036854775807->call 95 [.int .i64 z,.int .i64 (.ofNat 10)]=M.pure (.ret (.string ⟨⟨Lib.itoa z⟩⟩))):b4u i7 N call (.int .u64 (.ofNat n)) (.int .i64 (.ofNat 64))=M.pure (.ret (.string ⟨⟨Lib.itoa (sgn 64 n)⟩⟩)):=by have e1:G8 .i64 (Int.ofNat 64-Int.ofNat 64)=Int.ofNat 0:=zv;have e2:G8 .u64 (Int.ofNat n)=Int.ofNat n:=a5o .u64 _ hn;have e3:(G8 .i64 (Int.ofNat n)).fdiv 1=sgn 64 n:=yM;have e4:call 95 [.int .i64 (sgn 64 n),.int .i64 (.ofNat 10)]=M.pure (.ret (.string ⟨⟨Lib.itoa (sgn 64 n)⟩⟩)):=hc _ zB zB;have b1:decide (Int.ofNat 64<Int.ofNat 1)=false:=zv;have b2:decide (Int.ofNat 64<Int.ofNat 64)=false:=zv;simp(maxSteps:=9999999) (disch:=try exact dx)only[gD,d7b,e1,b1,b2,A3,C3,C6,C4,E2,Nat.reducePow,Int.reducePow,x9,B7,G1,a5a,F7,S8,wI,e2,e3,e4]
noncomputable def I8 (m:Nat):List UInt8:=32::Lib.decDigits m
noncomputable def P9 (m:Nat):List UInt8:=bcase (Nat.beq m 0) [] (I8 m)
theorem I2 (a b):decide (Int.ofNat a=Int.ofNat b)=Nat.beq a b:=by
 cases h:Nat.beq a b with
  |true=>rw[xS h];simp|false=>
   have:a≠b:=λe=>by rw[e]at h;simp at h
   simp only[wu,wz];omega
noncomputable def a4s (m n:Nat):List UInt8:=bcase (Nat.beq m 0&&Nat.beq n 0) [] (I8 m++I8 n)
theorem a5k (m)(hm:m<18446744073709551616):j9 (I8 m)<=21:=by rw[y9];have:=a5e m hm;simp[I8];omega
theorem c0f {op}(hop:op=.eql\/op=.neq)(x y a b d a' b' d'):R9 Tryz.prog tab op 26 x y (.agg ⟨[.int .i64 a,.int .i64 b,.int .i64 d]⟩) (.agg ⟨[.int .i64 a',.int .i64 b',.int .i64 d']⟩)=M.pure (.bool (b2B op (a5O [a,b,d] [a',b',d']))):=by refine c1i (fs:=Tryz.prog.fieldsOf 26) hop zw zw zw ?_ rfl rfl (λi hi=>?_);refine⟨wj zw,zw,⟨.i64,zw⟩,⟨.i64,rfl,rfl⟩,?_⟩;refine⟨wj zw,zw,⟨.i64,zw⟩,⟨.i64,rfl,rfl⟩,?_⟩;refine⟨wj zw,zw,⟨.i64,zw⟩,⟨.i64,rfl,rfl⟩,?_⟩;trivial;have:tab.types.get 26=some c8E:=zw;rw[this]at hi;rw[<-vQ hi];have e:c8E.und=.struct (Tryz.prog.fieldsOf 26):=zw;exact e
theorem b7V (x y a b d a' b' d'):R9 Tryz.prog tab .eql 26 x y (.agg ⟨[.int .i64 a,.int .i64 b,.int .i64 d]⟩) (.agg ⟨[.int .i64 a',.int .i64 b',.int .i64 d']⟩)=M.pure (.bool (decide (a=a')&&(decide (b=b')&&(decide (d=d')&&true)))):=c0f (Or.inl rfl) x y a b d a' b' d'
theorem b0y (x y a b d a' b' d'):R9 Tryz.prog tab .neq 26 x y (.agg ⟨[.int .i64 a,.int .i64 b,.int .i64 d]⟩) (.agg ⟨[.int .i64 a',.int .i64 b',.int .i64 d']⟩)=M.pure (.bool (!(decide (a=a')&&(decide (b=b')&&(decide (d=d')&&true))))):=c0f (Or.inr rfl) x y a b d a' b' d'
theorem c7C:Int.ofNat 0=0:=rfl
theorem b8o:Int.ofNat 1=1:=rfl
theorem b9Y:Int.ofNat 2=2:=rfl
noncomputable def Z8 (k v i:Int):Bool:=bcase (decide (k=0)) (decide (v=0)&&decide (i=0)) (bcase (decide (k=1)) (X5 v&&decide (i=0)) (decide (k=2)&&decide (v=0)&&idxB i))
theorem t87 (N call)(h86:∀n,call 86 [.int .i64 n]=M.pure (.ret (.bool (idxB n))))(h88:∀n,call 88 [.int .i64 n]=M.pure (.ret (.bool (X5 n))))(k v i):U1 (c2K i7 N call (.agg ⟨[.int .i64 k,.int .i64 v,.int .i64 i]⟩)) (.bool (Z8 k v i)):=by intro c h r w;simp(maxSteps:=9999999) (disch:=try exact dx)only[gD,e4U,b7V,h86,h88,a0q,a3C,B9,C6,C4,a0h,a0B,a5B,a6m,a2m,c7C,b8o,b9Y,a1Q];refine d8.done ⟨?_,λj hj=>za⟩;unfold Z8;generalize decide (k=0)=b0;generalize decide (k=1)=b1;generalize decide (k=2)=b2;cases b0<;>cases b1<;>cases b2<;>cases decide (v=0)<;>rfl
theorem t58 (N call)(h59:∀n,call 59 [.int .i64 n]=M.pure (.ret (.bool (idxB n))))(h61:∀n,call 61 [.int .i64 n]=M.pure (.ret (.bool (X5 n))))(k v i):U1 (c4M i7 N call (.agg ⟨[.int .i64 k,.int .i64 v,.int .i64 i]⟩)) (.bool (Z8 k v i)):=by intro c h r w;simp(maxSteps:=9999999) (disch:=try exact dx)only[gD,e4k,h59,h61,a0q,a3C,B9,C6,C4,a0B,a5B,a6m,c7C,b8o,b9Y];refine d8.done ⟨?_,λj hj=>za⟩;unfold Z8;generalize decide (k=0)=b0;generalize decide (k=1)=b1;generalize decide (k=2)=b2;cases b0<;>cases b1<;>cases b2<;>cases decide (v=0)<;>rfl
noncomputable def a4C (k v i:Int):List UInt8:=bcase (decide (k=1)) (bcase (X5 v) (40::114::101::115::117::108::116::32::(I0 v++[41])) []) (bcase (decide (k=2)) (40::116::121::112::101::32::(Lib.itoa i++[41])) [])
theorem c3u (v):(!(beqBytes (I0 v) []))=X5 v:=by
 by_cases h:1<=v/\v<=4;have:v=1\/v=2\/v=3\/v=4:=zy;rcases this with rfl|rfl|rfl|rfl<;>rfl;have e:X5 v=false:=by simp only[X5,Bool.and_eq_false_iff,wu];omega
 rw[e];unfold I0;rw[show decide (v=1)=false by simp;omega,show decide (v=2)=false by simp;omega,show decide (v=3)=false by simp;omega,show decide (v=4)=false by simp;omega];rfl
theorem a6H (v):j9 (I0 v)<=9:=by unfold I0;cases decide (v=1)<;>cases decide (v=2)<;>cases decide (v=3)<;>cases decide (v=4)<;>decide
theorem t14 (N call)(h40:∀n,call 40 [.int .i64 n]=M.pure (.ret (.string ⟨⟨I0 n⟩⟩)))(k v i)(hi1:-9223372036854775808<=i)(hi2:i<=9223372036854775807)(h37:call 37 [.int .i64 i]=M.pure (.ret (.string ⟨⟨Lib.itoa i⟩⟩))):U1 (c2W i7 N call (.agg ⟨[.int .i64 k,.int .i64 v,.int .i64 i]⟩)) (.string ⟨⟨a4C k v i⟩⟩):=by intro c h r w;have l1:=a6k i hi1 zy;have l2:=a6H v;simp(maxSteps:=9999999) (disch:=try exact dx)only[gD,e4G,h40,h37,a0q,a3C,C3,a5B,a8Z,D1,X9,b8o,b9Y,c3u];refine d8.done ⟨?_,λj hj=>za⟩;unfold a4C;simp only[v8]
noncomputable def M0 (z:Int):List UInt8:=match G7 z D8 with|some r=>r.2.1|none=>[]
theorem c3a (z:Int):∀l:List a1U,(match(l.map λr=>(r.1,r.2.1)).find? (λx=>(Int.ofNat x.1)==z)with|some x=>(⟨⟨x.2⟩⟩:ByteArray)|none=>ByteArray.empty)=⟨⟨match G7 z l with|some r=>r.2.1|none=>[]⟩⟩:=by
 intro l;induction l with
  |nil=>rfl|cons r l ih=>
   rw[vh,sW];show _=(⟨⟨match bcase (decide (Int.ofNat r.1=z)) (some r) (G7 z l)with|some r=>r.2.1|none=>[]⟩⟩:ByteArray);by_cases h:Int.ofNat r.1=z;have h':(Int.ofNat r.1==z)=true:=by rw[beq_iff_eq];exact h
   simp only[h',xL h,o9];have h':(Int.ofNat r.1==z)=false:=by rw[beq_eq_false_iff_ne];exact h
   simp only[h',xO h,m7];exact ih
theorem c0j:S7=G4 (λr=>(r.1,r.2.1)) D8:=zw
theorem c5f (z):a9o z=⟨⟨M0 z⟩⟩:=by unfold a9o;rw[c0j,S9];exact c3a z D8
theorem d9y:B6 Tryz.prog tab (A2 mL) 35 (X1 .i64 λz=>some (.string ⟨⟨M0 z⟩⟩)):=a6w λz v h=>by cases h;refine⟨rfl,λw hL=>⟨J5 Tryz.func35 zw rfl,?_⟩⟩;refine(tW.1 (c1M 3 zy z w hL)).mono λe W' hq=>?_;obtain⟨rfl,hb⟩:=hq;exact⟨by rw[c5f],hb⟩
theorem b7S (z):∀(l),G7 z l=none->∀r∈l,Int.ofNat r.1≠z:=by intro l;induction l with|nil=>intro _ r h;cases h|cons q l ih=>intro h r hr;have h':bcase (decide (Int.ofNat q.1=z)) (some q) (G7 z l)=none:=h;by_cases hq:Int.ofNat q.1=z;rw[xL hq]at h';cases h';rw[xO hq]at h';rcases wG.1 hr with rfl|hr;exact hq;exact ih h' r hr
theorem c8P:A9 (λr:a1U=>!(beqBytes r.2.1 [])) D8=true:=zw
theorem d0u (z):(!(beqBytes (M0 z) []))=B3 z:=by unfold M0 B3;cases h:G7 z D8 with|none=>rfl|some r=>exact(C9 _ _).1 c8P r (a1w z D8 r h).1
theorem c5S:A9 (λr:a1U=>Nat.ble (j9 r.2.1) 20) D8=true:=zw
theorem K8 (z):j9 (M0 z)<=20:=by unfold M0;cases h:G7 z D8 with|none=>decide|some r=>exact wk ((C9 _ _).1 c5S r (a1w z D8 r h).1)
theorem t85 (N call)(h35:∀n,call 35 [.int .i64 n]=M.pure (.ret (.string ⟨⟨M0 n⟩⟩)))(z):c2V i7 N call (.int .i64 z)=M.pure (.ret (.bool (B3 z))):=by simp only[e5S,h35,E9,J2,A4,V.e3y,D1,d0u]
theorem t57 (N call)(h97:∀n,call 97 [.int .i64 n]=M.pure (.ret (a7j (G7 n D8))))(z):U1 (c2Y i7 N call (.int .i64 z)) (.bool (B3 z)):=by intro c h r w;unfold B3;have e:=h97 z;cases hf:G7 z D8 with|none=>rw[hf]at e;simp(maxSteps:=9999999) (disch:=try exact dx)only[gD,d6e,e,a7j,c4X,E5,E8,E6,a0w];exact d8.done ⟨rfl,λj hj=>za⟩|some q=>rw[hf]at e;simp(maxSteps:=9999999) (disch:=try exact dx)only[gD,d6e,e,a7j,b2y,E5,E8,E6,a0w];exact d8.done ⟨rfl,λj hj=>za⟩
theorem L0:Shelf' Tryz.prog tab (A2 mL) NN a4D a4N:=⟨a3u,b0f⟩
theorem e2D:B6 Tryz.prog tab (A2 mL) 86 (X1 .i64 (λz=>some (.bool (idxB z)))):=a6f J6 D7 L0 Tryz.func86 zw rfl λz v h=>by cases h;exact⟨rfl,1,by rw[O0 (q:=c3k) (N:=NN) zw 0];exact U1.pure (t86 _ _ z)⟩
theorem e0j:B6 Tryz.prog tab (A2 mL) 59 (X1 .i64 (λz=>some (.bool (idxB z)))):=a6f J6 D7 L0 Tryz.func59 zw rfl λz v h=>by cases h;exact⟨rfl,1,by rw[O0 (q:=c2B) (N:=NN) zw 0];exact U1.pure (t59 _ _ z)⟩
theorem e1F:B6 Tryz.prog tab (A2 mL) 88 (X1 .i64 (λz=>some (.bool (X5 z)))):=a6f J6 D7 L0 Tryz.func88 zw rfl λz v h=>by cases h;exact⟨rfl,1,by rw[O0 (q:=c2L) (N:=NN) zw 0];exact U1.pure (t88 _ _ z)⟩
theorem e0a:B6 Tryz.prog tab (A2 mL) 61 (X1 .i64 (λz=>some (.bool (X5 z)))):=a6f J6 D7 L0 Tryz.func61 zw rfl λz v h=>by cases h;exact⟨rfl,1,by rw[O0 (q:=c4T) (N:=NN) zw 0];exact U1.pure (t61 _ _ z)⟩
theorem c3N:B6 Tryz.prog tab (A2 mL) 40 (X1 .i64 (λz=>some (.string ⟨⟨I0 z⟩⟩))):=a6f J6 D7 L0 Tryz.func40 zw rfl λz v h=>by cases h;exact⟨rfl,1,by rw[O0 (q:=c0g) (N:=NN) zw 0];exact U1.pure (t40 _ _ z)⟩
theorem e0x:B6 Tryz.prog tab (A2 mL) 43 (X1 .i64 (λz=>some (.string ⟨⟨bcase (decide (z=3)) [102,117,110,99] [101,120,116,101,114,110]⟩⟩))):=a6f J6 D7 L0 Tryz.func43 zw rfl λz v h=>by cases h;exact⟨rfl,1,by rw[O0 (q:=c2J) (N:=NN) zw 0];exact U1.pure (t43 _ _ z)⟩
noncomputable def e1:Nat->Option (List Value->M Value):=(C8 (C8 (C8 (C8 (C8 (C8 (C8 (C8 (C8 (C8 (C8 a4D 127 (a9e (X4 D8) 125 3)) 35 (X1 .i64 (λz=>some (.string ⟨⟨M0 z⟩⟩)))) 37 (λbs=>M.lift (b1L bs))) 95 (λbs=>M.lift (a9l bs))) 126 (λbs=>M.lift (a2x bs))) 86 (X1 .i64 (λz=>some (.bool (idxB z))))) 59 (X1 .i64 (λz=>some (.bool (idxB z))))) 88 (X1 .i64 (λz=>some (.bool (X5 z))))) 61 (X1 .i64 (λz=>some (.bool (X5 z))))) 40 (X1 .i64 (λz=>some (.string ⟨⟨I0 z⟩⟩)))) 43 (X1 .i64 (λz=>some (.string ⟨⟨bcase (decide (z=3)) [102,117,110,99] [101,120,116,101,114,110]⟩⟩))))
noncomputable def s1:a0g:=(I3 (I3 (I3 (I3 (I3 (I3 (I3 (I3 (I3 (I3 (I3 a4N 127 (a9e (X4 D8) 125 3)) 35 (X1 .i64 (λz=>some (.string ⟨⟨M0 z⟩⟩)))) 37 (λbs=>M.lift (b1L bs))) 95 (λbs=>M.lift (a9l bs))) 126 (λbs=>M.lift (a2x bs))) 86 (X1 .i64 (λz=>some (.bool (idxB z))))) 59 (X1 .i64 (λz=>some (.bool (idxB z))))) 88 (X1 .i64 (λz=>some (.bool (X5 z))))) 61 (X1 .i64 (λz=>some (.bool (X5 z))))) 40 (X1 .i64 (λz=>some (.string ⟨⟨I0 z⟩⟩)))) 43 (X1 .i64 (λz=>some (.string ⟨⟨bcase (decide (z=3)) [102,117,110,99] [101,120,116,101,114,110]⟩⟩))))
theorem L1:Shelf' Tryz.prog tab (A2 mL) NN e1 s1:=(((((((((((((L0.add c9S).add d9y).add c8B).add c3G).add c0G)).add e2D).add e0j).add e1F).add e0a)).add c3N).add e0x)
theorem e1I (n z):j0 s1 (n+1) 35 [.int .i64 z]=M.pure (.ret (.string ⟨⟨M0 z⟩⟩)):=U7 (q:=λz=>some (.string ⟨⟨M0 z⟩⟩)) zw n rfl
theorem e0i (n z):j0 s1 (n+1) 86 [.int .i64 z]=M.pure (.ret (.bool (idxB z))):=U7 (q:=λz=>some (.bool (idxB z))) zw n rfl
theorem e0U (n z):j0 s1 (n+1) 59 [.int .i64 z]=M.pure (.ret (.bool (idxB z))):=U7 (q:=λz=>some (.bool (idxB z))) zw n rfl
theorem e0k (n z):j0 s1 (n+1) 88 [.int .i64 z]=M.pure (.ret (.bool (X5 z))):=U7 (q:=λz=>some (.bool (X5 z))) zw n rfl
theorem e1g (n z):j0 s1 (n+1) 61 [.int .i64 z]=M.pure (.ret (.bool (X5 z))):=U7 (q:=λz=>some (.bool (X5 z))) zw n rfl
theorem d1k (n z)(h1:-9223372036854775808<=z)(h2:z<=9223372036854775807):j0 s1 (n+1) 95 [.int .i64 z,.int .i64 (.ofNat 10)]=M.pure (.ret (.string ⟨⟨Lib.itoa z⟩⟩)):=by refine K6 s1 n 95 _ (g:=a9l) zw ?_;show bcase (decide (-9223372036854775808<=z)&&decide (z<=9223372036854775807)) _ none=_;rw[xL h1,xL h2];rfl
theorem d4A (n m)(h:m<18446744073709551616):j0 s1 (n+1) 126 [.int .u64 (.ofNat m),.int .i64 (.ofNat 10)]=M.pure (.ret (.string ⟨⟨Lib.decDigits m⟩⟩)):=by refine K6 s1 n 126 _ (g:=a2x) zw ?_;show bcase (Nat.blt m 18446744073709551616) _ none=_;rw[A5 h];rfl
theorem d6w (n c h r w):go (j0 s1 (n+1) 127 []) ⟨c,h,r,w⟩=some (.ret (.slice (some ⟨c,0,some 0⟩) 125 3),⟨c+1,O2 h c (.cells (G4 (λv=>(v,0)) (X4 D8)) 0 false),r,c::w⟩):=by
 rw[a2R s1 n 127 [] (g:=a9e (X4 D8) 125 3) zw,B4];have e:go (a9e (X4 D8) 125 3 []) ⟨c,h,r,w⟩=some (.slice (some ⟨c,0,some 0⟩) 125 3,⟨c+1,O2 h c (.cells (G4 (λv=>(v,0)) (X4 D8)) 0 false),r,c::w⟩):=by show go (M.bind (M5 (X4 D8)) λa=>M.pure (Value.slice (some a) 125 3)) ⟨c,h,r,w⟩=_;rw[B4,Y4 c h r w _ zw];rfl
 rw[e];rfl
theorem e3k:B6 Tryz.prog tab (A2 mL) 97 (X1 .i64 λz=>some (a7j (G7 z D8))):=a6f J6 D7 L1 Tryz.func97 zw rfl λz v h=>by cases h;refine⟨?_,2,?_⟩;cases G7 z D8<;>rfl;rw[O0 (q:=c2X) (N:=NN) zw 1];exactλc h r w=>t97 NN zv _ (d6w 0) z c h r w
theorem e2N:B6 Tryz.prog tab (A2 mL) 93 (λbs=>M.lift (a2x bs)):=Z3 J6 D7 L1.e (L1 (mL:=mL)).s Tryz.func93 zw rfl λbs v h=>by unfold a2x at h;split at h;rename_i u;obtain⟨h1,rfl⟩:=a1B h;refine⟨rfl,λc h r w=>⟨2,?_⟩⟩;rw[Z9 (q:=c9k) (N:=NN) zw 1];have e:j0 s1 1 126 [.int .u64 (.ofNat u),.int .i64 (.ofNat 10)]=_:=d4A 0 u (by simpa[wB]using h1);have e':(Value.int IntKind.i64 10)=.int .i64 (.ofNat 10):=rfl;simp only[e4o,e',e,J2,N2,A4,V.e3y];exact d8.done ⟨rfl,λ_ _=>rfl⟩;cases h
theorem e0m:B6 Tryz.prog tab (A2 mL) 85 (X1 .i64 λz=>some (.bool (B3 z))):=a6f J6 D7 L1 Tryz.func85 zw rfl λz v h=>by cases h;exact⟨rfl,2,by rw[O0 (q:=c2V) (N:=NN) zw 1];exact U1.pure (t85 _ _ (e1I 0) z)⟩
theorem c6m {z w v}(h:a7s z w=some v):∃n,z=.ofNat n/\((w=.ofNat 32/\n<4294967296/\v=.string ⟨⟨Lib.itoa (sgn 32 n)⟩⟩)\/(w=.ofNat 64/\n<18446744073709551616/\v=.string ⟨⟨Lib.itoa (sgn 64 n)⟩⟩)):=by unfold a7s at h;split at h;rename_i n;split at h;rename_i w;obtain⟨h1,rfl⟩:=a1B h;rw[uL,xM,xM]at h1;refine⟨n,rfl,?_⟩;rcases h1 with⟨a,b⟩|⟨a,b⟩;obtain rfl:=xS a;exact Or.inl ⟨rfl,by simpa[wB]using b,rfl⟩;obtain rfl:=xS a;exact Or.inr ⟨rfl,by simpa[wB]using b,rfl⟩;cases h;cases h
theorem c9v (n)(h:n<4294967296):a7s (.ofNat n) (.ofNat 32)=some (.string ⟨⟨Lib.itoa (sgn 32 n)⟩⟩):=by show bcase ((Nat.beq 32 32&&Nat.blt n 4294967296)||(Nat.beq 32 64&&Nat.blt n 18446744073709551616)) _ none=_;rw[A5 h];rfl
theorem d0a (n)(h:n<18446744073709551616):a7s (.ofNat n) (.ofNat 64)=some (.string ⟨⟨Lib.itoa (sgn 64 n)⟩⟩):=by show bcase ((Nat.beq 64 32&&Nat.blt n 4294967296)||(Nat.beq 64 64&&Nat.blt n 18446744073709551616)) _ none=_;rw[A5 h];rfl
theorem d9p:B6 Tryz.prog tab (A2 mL) 42 (X2 .u64 .i64 a7s):=e4b J6 D7 L1 Tryz.func42 zw rfl λz w v h=>by obtain⟨n,rfl,⟨rfl,hn,rfl⟩|⟨rfl,hn,rfl⟩⟩:=c6m h;exact⟨rfl,2,by rw[Z9 (q:=b4u) (N:=NN) zw 1];exact U1.pure (d5o _ _ n hn (d1k 0))⟩;exact⟨rfl,2,by rw[Z9 (q:=b4u) (N:=NN) zw 1];exact U1.pure (d5A _ _ n hn (d1k 0))⟩
noncomputable def onB (q:Int->Int->Int->Option Value)(bs:List Value):Option Value:=match bs with|[.agg ⟨[.int .i64 a,.int .i64 b,.int .i64 d]⟩]=>q a b d|_=>none
theorem d4c {q bs v}(h:onB q bs=some v):∃a b d,bs=[.agg ⟨[.int .i64 a,.int .i64 b,.int .i64 d]⟩]/\q a b d=some v:=by unfold onB at h;split at h;exact⟨_,_,_,rfl,h⟩;cases h
noncomputable def XB (q:Int->Int->Int->Option Value):List Value->M Value:=λbs=>M.lift (onB q bs)
theorem c2C {sh f q}(h:sh.get f=some (arX (XB q)))(m){a b d v}(e:q a b d=some v):j0 sh (m+1) f [.agg ⟨[.int .i64 a,.int .i64 b,.int .i64 d]⟩]=M.pure (.ret v):=K6 sh m f _ h e
theorem c8J {ext sh}(L:Shelf' Tryz.prog tab (A2 mL) NN ext sh){f fn cd}(hPf:Tryz.prog.funcs[f]?=some fn)(hnum:(fn.name== "runtime.NumGoroutine")=false)(hb:fn.body=some cd){q}(h:∀a b d v,q a b d=some v->C1 8 v=true/\∃m,U1 (j0 sh m f [.agg ⟨[.int .i64 a,.int .i64 b,.int .i64 d]⟩]) v):B6 Tryz.prog tab (A2 mL) f (XB q):=Z3 J6 D7 L.e L.s hPf hnum hb λbs v hq=>by obtain⟨a,b,d,rfl,e⟩:=d4c hq;obtain⟨h1,m,h2⟩:=h a b d v e;exact⟨h1,λc h r w=>⟨m,h2 c h r w⟩⟩
theorem e2I:B6 Tryz.prog tab (A2 mL) 87 (XB λa b d=>some (.bool (Z8 a b d))):=c8J L1 Tryz.func87 zw rfl λa b d v h=>by cases h;exact⟨rfl,2,by rw[O0 (q:=c2K) (N:=NN) zw 1];exact t87 _ _ (e0i 0) (e0k 0) a b d⟩
theorem d9h:B6 Tryz.prog tab (A2 mL) 58 (XB λa b d=>some (.bool (Z8 a b d))):=c8J L1 Tryz.func58 zw rfl λa b d v h=>by cases h;exact⟨rfl,2,by rw[O0 (q:=c4M) (N:=NN) zw 1];exact t58 _ _ (e0U 0) (e1g 0) a b d⟩
noncomputable def e2:Nat->Option (List Value->M Value):=(C8 (C8 (C8 (C8 (C8 (C8 e1 97 (X1 .i64 λz=>some (a7j (G7 z D8)))) 93 (λbs=>M.lift (a2x bs))) 85 (X1 .i64 λz=>some (.bool (B3 z)))) 42 (X2 .u64 .i64 a7s)) 87 (XB λa b d=>some (.bool (Z8 a b d)))) 58 (XB λa b d=>some (.bool (Z8 a b d))))
noncomputable def s2:a0g:=(I3 (I3 (I3 (I3 (I3 (I3 s1 97 (X1 .i64 λz=>some (a7j (G7 z D8)))) 93 (λbs=>M.lift (a2x bs))) 85 (X1 .i64 λz=>some (.bool (B3 z)))) 42 (X2 .u64 .i64 a7s)) 87 (XB λa b d=>some (.bool (Z8 a b d)))) 58 (XB λa b d=>some (.bool (Z8 a b d))))
theorem L2:Shelf' Tryz.prog tab (A2 mL) NN e2 s2:=(((((((((L1.add e3k).add e2N)).add e0m)).add d9p)).add e2I).add d9h)
theorem d0Z (n z):j0 s2 (n+1) 97 [.int .i64 z]=M.pure (.ret (a7j (G7 z D8))):=U7 (q:=λz=>some (a7j (G7 z D8))) zw n rfl
theorem e0S (n z):j0 s2 (n+1) 85 [.int .i64 z]=M.pure (.ret (.bool (B3 z))):=U7 (q:=λz=>some (.bool (B3 z))) zw n rfl
theorem e2Z (n z):j0 s2 (n+1) 40 [.int .i64 z]=M.pure (.ret (.string ⟨⟨I0 z⟩⟩)):=U7 (q:=λz=>some (.string ⟨⟨I0 z⟩⟩)) zw n rfl
theorem e0V (n z)(h1:-9223372036854775808<=z)(h2:z<=9223372036854775807):j0 s2 (n+1) 37 [.int .i64 z]=M.pure (.ret (.string ⟨⟨Lib.itoa z⟩⟩)):=by refine K6 s2 n 37 _ (g:=b1L) zw ?_;show bcase (decide (-9223372036854775808<=z)&&decide (z<=9223372036854775807)) _ none=_;rw[xL h1,xL h2];rfl
theorem e1P:B6 Tryz.prog tab (A2 mL) 46 (X1 .i64 λz=>some (.int .i64 (.ofNat (w6 z)))):=a6f J6 D7 L2 Tryz.func46 zw rfl λz v h=>by cases h;exact⟨rfl,2,by rw[O0 (q:=c4K) (N:=NN) zw 1];exact t46 _ _ (d0Z 0) z⟩
theorem e1o:B6 Tryz.prog tab (A2 mL) 57 (X1 .i64 λz=>some (.bool (B3 z))):=a6f J6 D7 L2 Tryz.func57 zw rfl λz v h=>by cases h;exact⟨rfl,2,by rw[O0 (q:=c2Y) (N:=NN) zw 1];exact t57 _ _ (d0Z 0) z⟩
noncomputable def b2s (k v i:Int):Option Value:=bcase (decide (-9223372036854775808<=i)&&decide (i<=9223372036854775807)) (some (.string ⟨⟨a4C k v i⟩⟩)) none
theorem c9O {k v i x}(h:b2s k v i=some x):-9223372036854775808<=i/\i<=9223372036854775807/\x=.string ⟨⟨a4C k v i⟩⟩:=by obtain⟨h1,rfl⟩:=a1B h;simp only[xM,wa]at h1;exact⟨h1.1,h1.2,rfl⟩
theorem d2Z (k v i)(h1:-9223372036854775808<=i)(h2:i<=9223372036854775807):b2s k v i=some (.string ⟨⟨a4C k v i⟩⟩):=by unfold b2s;rw[xL h1,xL h2];rfl
theorem e1q:B6 Tryz.prog tab (A2 mL) 14 (XB b2s):=c8J L2 Tryz.func14 zw rfl λk v i x h=>by obtain⟨h1,h2,rfl⟩:=c9O h;exact⟨rfl,2,by rw[O0 (q:=c2W) (N:=NN) zw 1];exact t14 _ _ (e2Z 0) k v i h1 h2 (e0V 0 i h1 h2)⟩
noncomputable def d0F (k:Nat):Bool:=!(A9 (λr:a1U=>!(Nat.beq r.1 k)) D8)
theorem unk {z}(hu:G7 z D8=none)(k)(hk:d0F k=true):decide (z=Int.ofNat k)=false:=by
 rw[wu];intro e;have:A9 (λr:a1U=>!(Nat.beq r.1 k)) D8=true:=by rw[C9];intro r hr;have:=b7S z D8 hu r hr;rw[e]at this;have hne:r.1≠k:=λq=>this (by rw[q]);rw[Q5 hne];rfl
 unfold d0F at hk;rw[this]at hk;cases hk
theorem c5B {z}(hu:G7 z D8=none):B3 z=false:=by unfold B3;rw[hu]
theorem d7W (N call z)(h85:call 85 [.int .i64 z]=M.pure (.ret (.bool false))):b7k i7 N call (.int .i64 z)=M.pure (.ret (.bool false)):=by simp only[e1p,h85,E9,I1,J2,A4,B9,C3,C6,C4,J9,K7,a0B,w9,V.e3y,a4c,Z6,vM]
theorem e2c (N call z)(h:call 124 [.int .i64 z]=M.pure (.ret (.bool false))):c4G i7 N call (.int .i64 z)=M.pure (.ret (.int .i64 (.ofNat 0))):=by simp only[e4L,h,E9,I1,J2,a4Z,A4,o9,B5,V.e3y,F9,vt]
theorem e1Q (N call z)(hu:G7 z D8=none):c2x i7 N call (.int .i64 z)=M.pure (.ret (.int .i64 (.ofNat 0))):=by simp only[e4c,unk hu 37 zw,unk hu 38 zw,unk hu 63 zw,unk hu 64 zw,unk hu 64520 zw,unk hu 64521 zw,unk hu 64522 zw,unk hu 64523 zw,unk hu 64524 zw,unk hu 64525 zw,unk hu 64526 zw,unk hu 64527 zw,unk hu 64528 zw,unk hu 64529 zw,E9,I1,m7,J9,K7,B5,w9,V.e3y,G0]
theorem e1z (N call z)(hu:G7 z D8=none)(h91:call 91 [.int .i64 z]=M.pure (.ret (.int .i64 (.ofNat 0))))(h92:call 92 [.int .i64 z]=M.pure (.ret (.int .i64 (.ofNat 0)))):c2M i7 N call (.int .i64 z)=M.pure (.ret (.int .i64 (.ofNat 0))):=by have e:decide (Int.ofNat 0<Int.ofNat 0)=false:=zv;simp only[e5X,unk hu 2 zw,unk hu 3 zw,unk hu 4 zw,unk hu 12 zw,unk hu 13 zw,unk hu 14 zw,unk hu 16 zw,unk hu 17 zw,unk hu 28 zw,unk hu 32 zw,unk hu 33 zw,unk hu 34 zw,unk hu 35 zw,unk hu 36 zw,unk hu 65 zw,unk hu 66 zw,unk hu 208 zw,unk hu 210 zw,h91,h92,e,E9,I1,J2,A4,m7,J9,K7,B5,w9,V.e3y,G0,B7]
theorem d7l:B6 Tryz.prog tab (A2 mL) 39 (X1 .i64 λz=>bcase (!(B3 z)) (some (.int .i64 (.ofNat (w6 z)))) none):=a6f J6 D7 L2 Tryz.func39 zw rfl λz v h=>by obtain⟨h1,rfl⟩:=a1B h;refine⟨rfl,4,?_⟩;unfold B3 at h1;cases hf:G7 z D8 with|some r=>rw[hf]at h1;cases h1|none=>rw[show w6 z=0 by unfold w6;rw[hf],O0 (q:=c2M) (N:=NN) zw 3];refine U1.pure (e1z _ _ z hf ?_ ?_);rw[O0 (q:=c4G) (N:=NN) zw 2];refine e2c _ _ z ?_;rw[O0 (q:=b7k) (N:=NN) zw 1];refine d7W _ _ z ?_;rw[e0S 0,c5B hf];rw[O0 (q:=c2x) (N:=NN) zw 2];exact e1Q _ _ z hf
theorem d9v:B6 Tryz.prog tab (A2 mL) 39 (X1 .i64 λz=>some (.int .i64 (.ofNat (w6 z)))):=d3Z c5k d7l λz v h=>by cases hk:B3 z with|true=>exact Or.inl h|false=>exact Or.inr h
noncomputable def e3:Nat->Option (List Value->M Value):=(C8 (C8 (C8 (C8 (C8 e2 46 (X1 .i64 λz=>some (.int .i64 (.ofNat (w6 z))))) 57 (X1 .i64 λz=>some (.bool (B3 z)))) 14 (XB b2s)) 39 (X1 .i64 λz=>some (.int .i64 (.ofNat (w6 z))))) 94 (X1 .i64 a4L))
noncomputable def s3:a0g:=(I3 (I3 (I3 (I3 (I3 s2 46 (X1 .i64 λz=>some (.int .i64 (.ofNat (w6 z))))) 57 (X1 .i64 λz=>some (.bool (B3 z)))) 14 (XB b2s)) 39 (X1 .i64 λz=>some (.int .i64 (.ofNat (w6 z))))) 94 (X1 .i64 a4L))
theorem L3:Shelf' Tryz.prog tab (A2 mL) NN e3 s3:=(((((((((L2).add e1P).add e1o)))).add e1q).add d9v).add d1b)
end Go.Proofs.YtmomonnlmbljoaaGreatDoor.S
end
