import Derived.Test.YtmomonnlmbljoaaGreatDoorBak
import Derived.Test.YtmomonnlmbljoaaGreatDoorBav
set_option maxRecDepth 1000000
set_option maxHeartbeats 4000000
set_option linter.unusedVariables false
set_option linter.unusedSimpArgs false
section
namespace Go.Proofs.YtmomonnlmbljoaaGreatDoor
open Go.V Go.RowKit Go.Shelf Go.Proofs
variable {mL:Int}
abbrev bY:=And.intro @O0<|And.intro @R6<|And.intro @U6<|And.intro @a5q<|And.intro @J8<|And.intro @J3<|And.intro @b2e<|And.intro @Z9<|And.intro @b7k<|And.intro @a9U<|And.intro @I4<|And.intro @a2p<|And.intro @a5E<|And.intro @a0g<|And.intro @a4k<|And.intro @a1u<|And.intro @M9<|And.intro @b0W<|And.intro @b5D<|And.intro @c2S<|And.intro @a4C<|And.intro @a4U<|And.intro @K7<|And.intro @H7<|And.intro @A9<|And.intro @y9<|And.intro @K4<|And.intro @K5<|And.intro @K6<|And.intro @a4I<|And.intro @V6<|And.intro @X5<|And.intro @a0P<|And.intro @P5<|And.intro @a2g<|And.intro @c7J<|And.intro @c5W<|And.intro @c5X<|And.intro @b4Q<|And.intro @b4U<|And.intro @b5A<|And.intro @b0e<|And.intro @P6<|And.intro @O3<|And.intro @b2W<|And.intro @a8l<|And.intro @a2o<|And.intro @a9Z<|And.intro @J5<|And.intro @F6<|And.intro @a1y<|And.intro @a2k<|And.intro @V.e7v<|And.intro @E8<|And.intro @P8<|And.intro @b3O<|And.intro @a7Q<|And.intro @b1r<|And.intro @c1K<|And.intro @a8P<|And.intro @Q5<|And.intro @a4y<|And.intro @F7<|And.intro @a5t<|And.intro @K3<|And.intro @a1H<|And.intro @I8<|And.intro @Q4<|And.intro @b4L<|And.intro @b5d<|And.intro @b1K<|And.intro @a7n<|And.intro @Q3<|And.intro @O9<|And.intro @a7A<|And.intro @M6<|And.intro @a2e<|And.intro @a5M<|And.intro @b4X<|And.intro @S9<|And.intro @c2P<|And.intro @c1w<|And.intro @O8<|And.intro @P7<|And.intro @P9<|And.intro @b1W<|And.intro @a0S<|And.intro @a1C<|And.intro @a3Q<|And.intro @a1I<|And.intro @a5m<|And.intro @a7O<|And.intro @a7r<|And.intro @a3N<|And.intro @a6E<|And.intro @a4B<|And.intro @a3Y<|And.intro @a5l<|And.intro @a2v<|And.intro @a4i<|And.intro @a9n<|And.intro @a9L<|And.intro @b2A<|And.intro @b4O<|And.intro @a7W<|And.intro @a6Z<|And.intro @U1<|And.intro @a7l<|And.intro @a9V<|And.intro @a8G<|And.intro @a5d<|And.intro @a7t<|And.intro @a5F<|And.intro @a8t<|And.intro @uf<|And.intro @a4p<|And.intro @a3f<|And.intro @a7D<|And.intro @a6l<|And.intro @b0D<|And.intro @a1T<|And.intro @a9Q<|And.intro @a0h<|And.intro @a1B<|And.intro @a4W<|And.intro @I7<|And.intro @o7<|And.intro @b2D<|And.intro @d9<|And.intro @a3B<|And.intro @a4x<|And.intro @a0i<|And.intro @a7y<|And.intro @a1z<|And.intro @V9<|And.intro @a7m<|And.intro @vV<|And.intro @vB<|And.intro @a4n<|And.intro @b1T<|And.intro @a2f<|And.intro @a2x<|And.intro @b7M<| @b2u
abbrev bX:=And.intro @O0<|And.intro @R6<|And.intro @U6<|And.intro @a5q<|And.intro @J8<|And.intro @J3<|And.intro @b2e<|And.intro @Z9<|And.intro @b7k<|And.intro @a9U<|And.intro @I4<|And.intro @a2p<|And.intro @a5E<|And.intro @a0g<|And.intro @a4k<|And.intro @a1u<|And.intro @M9<|And.intro @b0W<|And.intro @b5D<|And.intro @c2S<|And.intro @a4C<|And.intro @a4U<|And.intro @K7<|And.intro @H7<|And.intro @A9<|And.intro @y9<|And.intro @K4<|And.intro @K5<|And.intro @K6<|And.intro @a4I<|And.intro @V6<|And.intro @X5<|And.intro @a0P<|And.intro @P5<|And.intro @a2g<|And.intro @c7J<|And.intro @c5W<|And.intro @c5X<|And.intro @b4Q<|And.intro @b4U<|And.intro @b5A<|And.intro @b0e<|And.intro @P6<|And.intro @O3<|And.intro @b2W<|And.intro @a8l<|And.intro @a2o<|And.intro @a9Z<|And.intro @J5<|And.intro @F6<|And.intro @a1y<|And.intro @a2k<|And.intro @V.e7v<|And.intro @E8<|And.intro @P8<|And.intro @b3O<|And.intro @a7Q<|And.intro @b1r<|And.intro @c1K<|And.intro @a8P<|And.intro @Q5<|And.intro @a4y<|And.intro @F7<|And.intro @a5t<|And.intro @K3<|And.intro @a1H<|And.intro @I8<|And.intro @Q4<|And.intro @b4L<|And.intro @b5d<|And.intro @b1K<|And.intro @a7n<|And.intro @Q3<|And.intro @O9<|And.intro @a7A<|And.intro @M6<|And.intro @a2e<|And.intro @a5M<|And.intro @b4X<|And.intro @S9<|And.intro @c2P<|And.intro @c1w<|And.intro @O8<|And.intro @P7<|And.intro @P9<|And.intro @b1W<|And.intro @a0S<|And.intro @a1C<|And.intro @a3Q<|And.intro @a1I<|And.intro @a5m<|And.intro @a7O<|And.intro @a7r<|And.intro @a3N<|And.intro @a6E<|And.intro @a4B<|And.intro @a3Y<|And.intro @a5l<|And.intro @a2v<|And.intro @a4i<|And.intro @a9n<|And.intro @a9L<|And.intro @b2A<|And.intro @b4O<|And.intro @a7W<|And.intro @a6Z<|And.intro @U1<|And.intro @a7l<|And.intro @a9V<|And.intro @a8G<|And.intro @a5d<|And.intro @a7t<|And.intro @a5F<|And.intro @a8t<|And.intro @uf<|And.intro @a4p<|And.intro @a3f<|And.intro @a7D<|And.intro @a6l<|And.intro @b0D<|And.intro @a1T<|And.intro @a9Q<|And.intro @a0h<|And.intro @a1B<|And.intro @a4W<|And.intro @I7<|And.intro @o7<|And.intro @b2D<|And.intro @d9<|And.intro @a3B<|And.intro @a4x<|And.intro @a0i<|And.intro @a7y<|And.intro @a1z<|And.intro @V9<|And.intro @a7m<|And.intro @vV<|And.intro @vB<|And.intro @a4n<|And.intro @b1T<|And.intro @a2f<| @a2x
abbrev bT:=And.intro @d9L<|And.intro @d8J<|And.intro @e1y<|And.intro @d9n<|And.intro @d9Z<|And.intro @d8W<|And.intro @d8v<|And.intro @d8i<|And.intro @e1q<|And.intro @d8w<|And.intro @d8t<|And.intro @e2z<|And.intro @e2C<|And.intro @d8O<|And.intro @e1b<|And.intro @e0H<|And.intro @d8r<|And.intro @d8G<|And.intro @d4g<|And.intro @d5f<|And.intro @d4i<|And.intro @d3R<|And.intro @d4E<|And.intro @d5d<|And.intro @d5l<|And.intro @d5k<|And.intro @d4U<|And.intro @d3V<|And.intro @b4H<|And.intro @b2G<|And.intro @U1<|And.intro @a7l<|And.intro @a9V<|And.intro @a8G<|And.intro @a5d<|And.intro @a7t<|And.intro @a5F<|And.intro @a8t<|And.intro @ug<|And.intro @si<|And.intro @sj<|And.intro @uL<|And.intro @uf<|And.intro @X8<|And.intro @a2a<|And.intro @vV<|And.intro @R5<|And.intro @a7m<|And.intro @P7<|And.intro @P9<|And.intro @a7r<|And.intro @a3N<|And.intro @a6E<|And.intro @a4B<|And.intro @a3Y<|And.intro @a5l<|And.intro @a2v<|And.intro @a3K<|And.intro @b6B<|And.intro @b6F<|And.intro @b6E<|And.intro @c1S<|And.intro @c0u<|And.intro @a7C<|And.intro @a6B<|And.intro @b0T<|And.intro @a5p<|And.intro @a5L<|And.intro @W9<|And.intro @b0p<|And.intro @a9t<|And.intro @X3<|And.intro @a4C<| @a4U
theorem dz {p:Prop}(h:p:=by first|assumption|omega|(simp only[bT,a3p,IntKind.bits,a2C,Nat.reduceMul,Nat.reduceLT,Nat.reduceAdd,Nat.reduceBEq]<;>omega)):p:=h
abbrev gT:=And.intro @si<|And.intro @ug<|And.intro @uL<|And.intro @uU<|And.intro @sj<|And.intro @uD<|And.intro @uY<|And.intro @vJ<|And.intro @nz<|And.intro @Bool.or_false<|And.intro @uE @tV
end Go.Proofs.YtmomonnlmbljoaaGreatDoor
end
section
namespace Go.Proofs.YtmomonnlmbljoaaGreatDoor
open Go.V Go.RowKit Go.Shelf Go.Proofs
variable {mL:Int}
attribute [local congr] y7 x9 A8 A7 D5
theorem a3A {α b}{x:α}{v}(h:bcase b (some x) none=some v):b=true/\v=x:=by cases b with|true=>cases h;exact⟨rfl,rfl⟩|false=>cases h
noncomputable def N8:List (Nat×List UInt8×Nat):=[(0,[117,110,114,101,97,99,104,97,98,108,101],0),(1,[110,111,112],0),(2,[98,108,111,99,107],1),(3,[108,111,111,112],1),(4,[105,102],1),(5,[101,108,115,101],0),(11,[101,110,100],0),(12,[98,114],2),(13,[98,114,95,105,102],2),(14,[98,114,95,116,97,98,108,101],3),(15,[114,101,116,117,114,110],0),(16,[99,97,108,108],4),(17,[99,97,108,108,95,105,110,100,105,114,101,99,116],5),(26,[100,114,111,112],0),(27,[115,101,108,101,99,116],0),(28,[115,101,108,101,99,116],6),(32,[108,111,99,97,108,46,103,101,116],7),(33,[108,111,99,97,108,46,115,101,116],7),(34,[108,111,99,97,108,46,116,101,101],7),(35,[103,108,111,98,97,108,46,103,101,116],8),(36,[103,108,111,98,97,108,46,115,101,116],8),(37,[116,97,98,108,101,46,103,101,116],9),(38,[116,97,98,108,101,46,115,101,116],9),(40,[105,51,50,46,108,111,97,100],17),(41,[105,54,52,46,108,111,97,100],17),(44,[105,51,50,46,108,111,97,100,56,95,115],17),(45,[105,51,50,46,108,111,97,100,56,95,117],17),(46,[105,51,50,46,108,111,97,100,49,54,95,115],17),(47,[105,51,50,46,108,111,97,100,49,54,95,117],17),(48,[105,54,52,46,108,111,97,100,56,95,115],17),(49,[105,54,52,46,108,111,97,100,56,95,117],17),(50,[105,54,52,46,108,111,97,100,49,54,95,115],17),(51,[105,54,52,46,108,111,97,100,49,54,95,117],17),(52,[105,54,52,46,108,111,97,100,51,50,95,115],17),(53,[105,54,52,46,108,111,97,100,51,50,95,117],17),(54,[105,51,50,46,115,116,111,114,101],17),(55,[105,54,52,46,115,116,111,114,101],17),(58,[105,51,50,46,115,116,111,114,101,56],17),(59,[105,51,50,46,115,116,111,114,101,49,54],17),(60,[105,54,52,46,115,116,111,114,101,56],17),(61,[105,54,52,46,115,116,111,114,101,49,54],17),(62,[105,54,52,46,115,116,111,114,101,51,50],17),(63,[109,101,109,111,114,121,46,115,105,122,101],13),(64,[109,101,109,111,114,121,46,103,114,111,119],13),(65,[105,51,50,46,99,111,110,115,116],18),(66,[105,54,52,46,99,111,110,115,116],19),(69,[105,51,50,46,101,113,122],0),(70,[105,51,50,46,101,113],0),(71,[105,51,50,46,110,101],0),(72,[105,51,50,46,108,116,95,115],0),(73,[105,51,50,46,108,116,95,117],0),(74,[105,51,50,46,103,116,95,115],0),(75,[105,51,50,46,103,116,95,117],0),(76,[105,51,50,46,108,101,95,115],0),(77,[105,51,50,46,108,101,95,117],0),(78,[105,51,50,46,103,101,95,115],0),(79,[105,51,50,46,103,101,95,117],0),(80,[105,54,52,46,101,113,122],0),(81,[105,54,52,46,101,113],0),(82,[105,54,52,46,110,101],0),(83,[105,54,52,46,108,116,95,115],0),(84,[105,54,52,46,108,116,95,117],0),(85,[105,54,52,46,103,116,95,115],0),(86,[105,54,52,46,103,116,95,117],0),(87,[105,54,52,46,108,101,95,115],0),(88,[105,54,52,46,108,101,95,117],0),(89,[105,54,52,46,103,101,95,115],0),(90,[105,54,52,46,103,101,95,117],0),(103,[105,51,50,46,99,108,122],0),(104,[105,51,50,46,99,116,122],0),(105,[105,51,50,46,112,111,112,99,110,116],0),(106,[105,51,50,46,97,100,100],0),(107,[105,51,50,46,115,117,98],0),(108,[105,51,50,46,109,117,108],0),(109,[105,51,50,46,100,105,118,95,115],0),(110,[105,51,50,46,100,105,118,95,117],0),(111,[105,51,50,46,114,101,109,95,115],0),(112,[105,51,50,46,114,101,109,95,117],0),(113,[105,51,50,46,97,110,100],0),(114,[105,51,50,46,111,114],0),(115,[105,51,50,46,120,111,114],0),(116,[105,51,50,46,115,104,108],0),(117,[105,51,50,46,115,104,114,95,115],0),(118,[105,51,50,46,115,104,114,95,117],0),(119,[105,51,50,46,114,111,116,108],0),(120,[105,51,50,46,114,111,116,114],0),(121,[105,54,52,46,99,108,122],0),(122,[105,54,52,46,99,116,122],0),(123,[105,54,52,46,112,111,112,99,110,116],0),(124,[105,54,52,46,97,100,100],0),(125,[105,54,52,46,115,117,98],0),(126,[105,54,52,46,109,117,108],0),(127,[105,54,52,46,100,105,118,95,115],0),(128,[105,54,52,46,100,105,118,95,117],0),(129,[105,54,52,46,114,101,109,95,115],0),(130,[105,54,52,46,114,101,109,95,117],0),(131,[105,54,52,46,97,110,100],0),(132,[105,54,52,46,111,114],0),(133,[105,54,52,46,120,111,114],0),(134,[105,54,52,46,115,104,108],0),(135,[105,54,52,46,115,104,114,95,115],0),(136,[105,54,52,46,115,104,114,95,117],0),(137,[105,54,52,46,114,111,116,108],0),(138,[105,54,52,46,114,111,116,114],0),(167,[105,51,50,46,119,114,97,112,95,105,54,52],0),(172,[105,54,52,46,101,120,116,101,110,100,95,105,51,50,95,115],0),(173,[105,54,52,46,101,120,116,101,110,100,95,105,51,50,95,117],0),(192,[105,51,50,46,101,120,116,101,110,100,56,95,115],0),(193,[105,51,50,46,101,120,116,101,110,100,49,54,95,115],0),(194,[105,54,52,46,101,120,116,101,110,100,56,95,115],0),(195,[105,54,52,46,101,120,116,101,110,100,49,54,95,115],0),(196,[105,54,52,46,101,120,116,101,110,100,51,50,95,115],0),(208,[114,101,102,46,110,117,108,108],20),(209,[114,101,102,46,105,115,95,110,117,108,108],0),(210,[114,101,102,46,102,117,110,99],4),(64520,[109,101,109,111,114,121,46,105,110,105,116],15),(64521,[100,97,116,97,46,100,114,111,112],16),(64522,[109,101,109,111,114,121,46,99,111,112,121],14),(64523,[109,101,109,111,114,121,46,102,105,108,108],13),(64524,[116,97,98,108,101,46,105,110,105,116],11),(64525,[101,108,101,109,46,100,114,111,112],12),(64526,[116,97,98,108,101,46,99,111,112,121],10),(64527,[116,97,98,108,101,46,103,114,111,119],9),(64528,[116,97,98,108,101,46,115,105,122,101],9),(64529,[116,97,98,108,101,46,102,105,108,108],9)]
abbrev a3V:=Nat×List UInt8×Nat
noncomputable def b4V (x:a3V):List Value:=[.int .i64 (.ofNat x.1),.string ⟨⟨x.2.1⟩⟩,.int .i64 (.ofNat x.2.2)]
noncomputable def a1F (l:List a3V):List Value:=List.rec (motive:=λ_=>List Value) [] (λx _ ih=>.int .i64 (.ofNat x.1)::.string ⟨⟨x.2.1⟩⟩::.int .i64 (.ofNat x.2.2)::ih) l
noncomputable def d1e (r:Option (CR×S)):Option (Nat×Nat×List Value×Bool):=match r with
 |some x=>match x.1 with
  |.ret v=>match v with
   |.slice a n e=>match a with
    |some a=>match a.spot with
     |some g=>match Nat.beq a.off 0 with
      |true=>match x.2.h.get a.block with|some (.cells cs _ ro)=>some (n,e,U0 (·.1) cs,J2 (λx=>plain x.1&&Nat.ble x.2 g) cs&& !ro)|_=>none
      |false=>none
     |none=>none
    |none=>none
   |_=>none
  |_=>none
 |none=>none
theorem d1Z {r n e vs}(h:d1e r=some (n,e,vs,true)):∃b2 g2 s2 cs cur,r=some (.ret (.slice (some ⟨b2,0,some g2⟩) n e),s2)/\s2.h.get b2=some (.cells cs cur false)/\U0 (·.1) cs=vs/\J2 (λx=>plain x.1&&Nat.ble x.2 g2) cs=true:=by
 unfold d1e at h;split at h;rename_i x;split at h;rename_i v hv;split at h;rename_i a n' e';split at h;rename_i a;split at h;rename_i g hg;split at h;rename_i ho;split at h;rename_i cs cur ro hc;have h':=tX h;simp only[Prod.mk.injEq,wK]at h';obtain⟨rfl,rfl,rfl,h4,h5⟩:=h';obtain⟨b,off,sp⟩:=a;obtain rfl:off=0:=wR ho;obtain rfl:sp=some g:=hg;obtain rfl:ro=false:=by simpa using h5
 obtain⟨x1,x2⟩:=x;obtain rfl:x1=.ret (.slice (some ⟨b,0,some g⟩) n' e'):=hv;exact⟨b,g,x2,cs,cur,rfl,hc,rfl,h4⟩;cases h;cases h;cases h;cases h;cases h;cases h;cases h
theorem d1J (mL):d1e (o8 a7f 400 127 [] (Go.V.a3d (I6 mL)))=some (125,3,a1F N8,true):=zw
theorem d0Y:J9 Tryz.prog tab (I6 mL) 127 (b1s (a1F N8) 125 3):=by obtain⟨b2,g2,s2,cs,cur,h1,h2,h3,h4⟩:=d1Z (d1J mL);rw[<-h3];exact c0R V5 N7 a6y a2Q a5G b1Q Tryz.func127 zw rfl h1 h2 h4
theorem a4Y (k n)(h:n<a3p k):Q0 k (.ofNat n)=.ofNat n:=by
 unfold Q0;have:Nat.blt n (a3p k)=true:=by simpa[uh]using h
 simp only[this]
theorem J6 (i)(h:i<4294967296):Q0 .i64 (Int.ofNat i+Int.ofNat 1)=Int.ofNat (i+1):=a4Y .i64 (i+1) (by show i+1<9223372036854775808;omega)
theorem a2A (i n):decide (Int.ofNat i<Int.ofNat n)=Nat.blt i n:=by
 cases h:Nat.blt i n with
  |true=>
   have:i<n:=by simpa[uh]using h
   simp only[vZ,vz];omega|false=>
   have:¬i<n:=λq=>by rw[I7 q]at h;cases h
   simp only[vX,vz];omega
noncomputable def R4 (n:Int):List a3V->Option a3V|[]=>none|r::l=>bcase (decide (Int.ofNat r.1=n)) (some r) (R4 n l)
noncomputable def c5r:List Value:=[.int .i64 (.ofNat 0),.string ⟨⟨[]⟩⟩,.int .i64 (.ofNat 0)]
noncomputable def a9y (o:Option a3V):Value:=match o with|some r=>.tuple ⟨[.agg ⟨b4V r⟩,.bool true]⟩|none=>.tuple ⟨[.agg ⟨c5r⟩,.bool false]⟩
theorem c9S (rows):∀(i),H9 (U0 (λv=>(v,0)) (a1F rows)) (i*3)=U0 (λv=>(v,0)) (a1F (rows.drop i)):=by induction rows with|nil=>intro i;rw[a0D];simp[a1F,U0]|cons r l ih=>intro i;cases i with|zero=>rw[tT,a0i];rfl|succ i=>rw[show(i+1)*3=i*3+1+1+1 by omega];exact ih i
theorem d1j (N:Nat)(call:J7)(b0 b1 len:Nat)(n:Int)(rows:List a3V)(hlen:len=rows.length)(hsm:rows.length<4294967296)(x0 x1 x2:Value)(c:Nat)(h:Trie VObj)(hb0:b0<c)(hb1:b1<c)(h0:h.get b0=some (.cells [(x0,0),(x1,0),(x2,0)] 0 false))(h1:h.get b1=some (.cells (U0 (λv=>(v,0)) (a1F rows)) 0 false)):∀(l:List a3V) (i k:Nat) (g0 g1 g2 g3 g4 g5 g6 g7 g8 g9 g10 g11 g12 g13 g14 g16 g17:Value) (r w:List Nat),rows.drop i=l->l.length<k->l9 (go (U4 (d4t o9 N call (.slice (some ⟨b1,0,some 0⟩) len 3) (.int .i64 n) (.pointer (some ⟨b0,0,some 0⟩))) k [g0,g1,g2,g3,g4,g5,g6,g7,g8,g9,g10,g11,g12,g13,g14,.bool false,g16,g17,.int .i64 (.ofNat i)]) ⟨c,h,r,w⟩) λx s=>s.c=c/\match R4 n l with|some q=>x.1=.ret/\C9 x.2 15=.bool true/\s.h=upd h b0 (.cells [(.int .i64 (.ofNat q.1),0),(.string ⟨⟨q.2.1⟩⟩,0),(.int .i64 (.ofNat q.2.2),0)] 0 false)|none=>x.1=.exit 0/\s.h=h:=by
 intro l;induction l with
  |nil=>
   intro i k g0 g1 g2 g3 g4 g5 g6 g7 g8 g9 g10 g11 g12 g13 g14 g16 g17 r w hd hk;obtain⟨k,rfl⟩:∃m,k=m+1:=⟨k-1,zU⟩;have hi:Nat.blt i len=false:=by have:rows.length<=i:=yl;cases q:Nat.blt i len with|false=>rfl|true=>have:i<len:=yH;omega
   simp(disch:=first|exact dx|fail)only[Y8,c0V,a2A,hi,O0,J3,Z9,y9,V6,X5,J5,a1y,V.e7v,F7,I8,S9];exact l9.done ⟨rfl,rfl,rfl⟩|cons q l ih=>
   intro i k g0 g1 g2 g3 g4 g5 g6 g7 g8 g9 g10 g11 g12 g13 g14 g16 g17 r w hd hk;obtain⟨k,rfl⟩:∃m,k=m+1:=⟨k-1,zU⟩;have hil:i<len:=zJ;have hi:Nat.blt i len=true:=I7 hil;have hd':rows.drop (i+1)=l:=zI;have hdr:H9 (U0 (λv=>(v,0)) (a1F rows)) (i*3)=(.int .i64 (.ofNat q.1),0)::(.string ⟨⟨q.2.1⟩⟩,0)::(.int .i64 (.ofNat q.2.2),0)::U0 (λv=>(v,0)) (a1F l):=by rw[c9S,hd];rfl
   have hinc:=J6 i zy;simp(disch:=first|exact dx|fail)only[Y8,c0V,a2A,hi,hdr,h1,O0,J8,J3,Z9,a2p,A9,V6,X5,J5,V.e7v,Q5,F7,I8,a5M,S9,a1C,a2v,a3f,a7D,a6l,a0h,a1B,I7,a1z,V9,a8S,vB];rw[c3G];refine l9.cases (λhb=>?_) (λhb=>?_);simp(disch:=first|exact dx|fail)only[h0,J3,Z9,a2k,a1B,a4W,a4n,a2f,a2x];refine l9.done ⟨rfl,?_⟩;have e:R4 n (q::l)=some q:=by unfold R4;rw[hb];rfl
   rw[e];exact⟨rfl,rfl,rfl⟩;simp(disch:=first|exact dx|fail)only[hinc,J3,F6];have e:R4 n (q::l)=R4 n l:=by show bcase (decide (Int.ofNat q.1=n)) (some q) (R4 n l)=_;rw[hb];rfl
   rw[e];exact ih (i+1) k _ _ _ _ _ _ _ _ _ _ _ _ _ _ _ _ _ _ _ hd' zU
theorem t97 (N)(hN:1000<N)(call)(hc:∀c h r w,go (call 127 []) ⟨c,h,r,w⟩=some (.ret (.slice (some ⟨c,0,some 0⟩) 125 3),⟨c+1,upd h c (.cells (U0 (λv=>(v,0)) (a1F N8)) 0 false),r,c::w⟩))(n c h r w):l9 (go (c5s o9 N call (.int .i64 n)) ⟨c,h,r,w⟩) λx s=>x=.ret (a9y (R4 n N8))/\∀i,i<c->s.h.get i=h.get i:=by simp(disch:=first|exact dx|fail)only[e8L,hc,O0,R6,U6,a5q,J8,J3,I4,a4k,V.e7v,E8,a4i,a9n,b0D,a3B,a4x];refine l9.bindS (d1j N call c (c+1) 125 n N8 rfl zu _ _ _ (c+1+1) _ zy zy (by rw[d9 zy,o7]) (by rw[o7]) N8 0 N _ _ _ _ _ _ _ _ _ _ _ _ _ _ _ _ _ _ _ rfl (by show 125<N;omega)) λx s hq=>?_;obtain⟨x1,x2⟩:=x;obtain⟨c',h',r',w'⟩:=s;obtain⟨rfl,hq⟩:=hq;cases hf:R4 n N8 with|none=>rw[hf]at hq;obtain⟨rfl,rfl⟩:=hq;simp(disch:=first|exact dx|fail)only[J8,J3,Z9,a1u,A9,a1y,a2v,a6l,a0h,a1B,a4W,I7,o7,d9,a0i,a1z,V9,a4n,a2f,a2x,R5];refine l9.done ⟨rfl,λi hi=>?_⟩;simp(disch:=first|exact dx|fail)only[d9]|some q=>rw[hf]at hq;obtain⟨rfl,e15,rfl⟩:=hq;simp only at e15;simp(disch:=first|exact dx|fail)only[J8,J3,Z9,a1u,a2k,a0h,a1B,I7,o7,a0i,a1z,V9,e15];refine l9.done ⟨rfl,λi hi=>?_⟩;simp(disch:=first|exact dx|fail)only[d9]
def a0X (a:Int):Bool:=decide (1<=a)&&decide (a<=4)
noncomputable def Q9 (a:Int):List UInt8:=bcase (decide (a=1)) [105,51,50] (bcase (decide (a=2)) [105,54,52] (bcase (decide (a=3)) [102,117,110,99,114,101,102] (bcase (decide (a=4)) [101,120,116,101,114,110,114,101,102] [])))
theorem t40 (N call a):c2t o9 N call (.int .i64 a)=M.pure (.ret (.string ⟨⟨Q9 a⟩⟩)):=by simp only[e9W,O0,K4,J5,V.e7v,a7Q,b1r,Q5];rfl
noncomputable def I1 (z:Int):Bool:=match R4 z N8 with|some _=>true|none=>false
noncomputable def E9 (z:Int):Nat:=match R4 z N8 with|some r=>r.2.2|none=>0
theorem a3u (z):∀(l) (r),R4 z l=some r->r∈l/\z=Int.ofNat r.1:=by intro l;induction l with|nil=>intro r h;cases h|cons q l ih=>intro r h;have h':bcase (decide (Int.ofNat q.1=z)) (some q) (R4 z l)=some r:=h;by_cases hq:Int.ofNat q.1=z;rw[wL hq]at h';cases h';exact⟨um,hq.symm⟩;rw[wP hq]at h';obtain⟨h1,h2⟩:=ih r h';exact⟨vI _ h1,h2⟩
theorem t46 (N call)(h97:∀n,call 97 [.int .i64 n]=M.pure (.ret (a9y (R4 n N8))))(z):a1f (c6v o9 N call (.int .i64 z)) (.int .i64 (.ofNat (E9 z))):=by intro c h r w;unfold E9;have e:=h97 z;cases hf:R4 z N8 with|none=>rw[hf]at e;simp(disch:=first|exact dx|fail)only[e0w,e,a9y,c5r,O0,U6,J8,J3,Z9,I4,V6,V.e7v,E8,a5M,O8,P7,P9,a2v,a3f,a6l,b0D,a0h,a1B,a4W,I7,o7,a3B,a4x,a0i,a7y,a1z,V9,a8S,a4n,a2f,a2x];exact l9.done ⟨rfl,λj hj=>by simp(disch:=first|exact dx|fail)only[d9]⟩|some q=>rw[hf]at e;simp(disch:=first|exact dx|fail)only[e0w,e,a9y,b4V,O0,U6,J8,J3,Z9,I4,V6,V.e7v,E8,a5M,O8,P7,P9,a2v,a3f,a6l,b0D,a0h,a1B,a4W,I7,o7,a3B,a4x,a0i,a7y,a1z,V9,a8S,a4n,a2f,a2x];exact l9.done ⟨rfl,λj hj=>by simp(disch:=first|exact dx|fail)only[d9]⟩
theorem e0e (mL):J2 (λr:a3V=>b3m (o8 a7f 400 39 [.int .i64 (.ofNat r.1)] (Go.V.a3d (I6 mL))) r.2.2) N8=true:=zw
theorem c8w:J9 Tryz.prog tab (I6 mL) 39 (X1 .i64 λz=>bcase (I1 z) (some (.int .i64 (.ofNat (E9 z)))) none):=a8N λz v h=>by obtain⟨h1,rfl⟩:=a3A h;unfold I1 at h1;unfold E9;cases hf:R4 z N8 with|none=>rw[hf]at h1;cases h1|some r=>obtain⟨hm,rfl⟩:=a3u z N8 r hf;obtain⟨s,hr⟩:=b2a ((M4 _ _).1 (e0e mL) r hm);exact⟨rfl,a5J V5 N7 a6y a2Q a5G b1Q Tryz.func39 zw rfl rfl rfl hr⟩
noncomputable def a0K:List (Nat×Nat):=[(40,2),(41,3),(44,0),(45,0),(46,1),(47,1),(48,0),(49,0),(50,1),(51,1),(52,2),(53,2),(54,2),(55,3),(58,0),(59,1),(60,0),(61,1),(62,2)]
noncomputable def Z8 (l:List (Nat×Nat))(z:Int):Option Nat:=List.rec (motive:=λ_=>Option Nat) none (λx _ ih=>bcase (decide (z=Int.ofNat x.1)) (some x.2) ih) l
theorem c3z (z):∀(l) (a),Z8 l z=some a->∃x∈l,z=Int.ofNat x.1/\a=x.2:=by intro l;induction l with|nil=>intro a h;cases h|cons q l ih=>intro a h;have h':bcase (decide (z=Int.ofNat q.1)) (some q.2) (Z8 l z)=some a:=h;by_cases hq:z=Int.ofNat q.1;rw[wL hq]at h';cases h';exact⟨q,um,hq,rfl⟩;rw[wP hq]at h';obtain⟨x,h1,h2⟩:=ih a h';exact⟨x,vI _ h1,h2⟩
noncomputable def a6Q (z:Int):Option Value:=match Z8 a0K z with|some a=>some (.int .i64 (.ofNat a))|none=>none
theorem c8t (mL):J2 (λx=>b3m (o8 a7f 400 94 [.int .i64 (.ofNat x.1)] (Go.V.a3d (I6 mL))) x.2) a0K=true:=zw
theorem d4e:J9 Tryz.prog tab (I6 mL) 94 (X1 .i64 a6Q):=a8N λz v h=>by unfold a6Q at h;split at h;rename_i a ha;cases h;obtain⟨x,hm,rfl,rfl⟩:=c3z z a0K a ha;obtain⟨s,hr⟩:=b2a ((M4 _ _).1 (c8t mL) x hm);exact⟨rfl,a5J V5 N7 a6y a2Q a5G b1Q Tryz.func94 zw rfl rfl rfl hr⟩;cases h
end Go.Proofs.YtmomonnlmbljoaaGreatDoor
end
section
namespace Go.Proofs.YtmomonnlmbljoaaGreatDoor
open Go.V Go.RowKit Go.Shelf Go.Proofs
variable {mL:Int}
attribute [local congr] y7 x9 A8 A7 D5 z8 E5
noncomputable def b0y (q:List UInt8->List UInt8->Value)(bs:List Value):Option Value:=match bs with|[.string s,.string s']=>some (q s.data.toList s'.data.toList)|_=>none
theorem c0N {q bs v}(h:b0y q bs=some v):∃T P,bs=[.string ⟨⟨T⟩⟩,.string ⟨⟨P⟩⟩]/\v=q T P:=by unfold b0y at h;split at h;rename_i s s';cases h;exact⟨s.data.toList,s'.data.toList,rfl,rfl⟩;cases h
noncomputable def b2g (T P:List UInt8):Value:=.bool (a0y T P)
theorem d8u:J9 Tryz.prog tab (I6 mL) 117 (λbs=>M.lift (b0y b2g bs)):=a1V V5 N7 (pL2 (mL:=mL)).e (pL2 (mL:=mL)).s Tryz.func117 zw rfl λbs v h=>by obtain⟨T,P,rfl,rfl⟩:=c0N h;refine⟨rfl,λc hh r w=>⟨2,a1f.pureE ?_ c hh r w⟩⟩;rw[a2h (q:=b9L) (N:=NN) zw 1];exact e8o NN _ T P
theorem c7a:J9 Tryz.prog tab (I6 mL) 40 (X1 .i64 λz=>some (.string ⟨⟨Q9 z⟩⟩)):=a8O V5 N7 pL2 Tryz.func40 zw rfl λz v h=>by cases h;exact⟨rfl,2,by rw[Z5 (q:=c2t) (N:=NN) zw 1];exact a1f.pure (t40 _ _ z)⟩
noncomputable def pe3:Nat->Option (List Value->M Value):=(M5 (M5 (M5 (M5 (M5 (M5 pe2 81 (XSI 4294967295 a6K)) 186 (λbs=>M.lift (b0u bs))) 117 (λbs=>M.lift (b0y b2g bs))) 40 (X1 .i64 λz=>some (.string ⟨⟨Q9 z⟩⟩))) 39 (X1 .i64 λz=>bcase (I1 z) (some (.int .i64 (.ofNat (E9 z)))) none)) 94 (X1 .i64 a6Q))
noncomputable def ps3:a2t:=(U5 (U5 (U5 (U5 (U5 (U5 ps2 81 (XSI 4294967295 a6K)) 186 (λbs=>M.lift (b0u bs))) 117 (λbs=>M.lift (b0y b2g bs))) 40 (X1 .i64 λz=>some (.string ⟨⟨Q9 z⟩⟩))) 39 (X1 .i64 λz=>bcase (I1 z) (some (.int .i64 (.ofNat (E9 z)))) none)) 94 (X1 .i64 a6Q))
theorem pL3:Shelf' Tryz.prog tab (I6 mL) NN pe3 ps3:=(((((((((((pL2.add e4W)).add d7V)).add d8u).add c7a)).add c8w).add d4e)))
theorem e2Q (n T P):o8 ps3 (n+1) 117 [.string ⟨⟨T⟩⟩,.string ⟨⟨P⟩⟩]=M.pure (.ret (.bool (a0y T P))):=V8 ps3 n 117 _ (g:=b0y b2g) zw rfl
theorem e6u (n z):o8 ps3 (n+1) 40 [.int .i64 z]=M.pure (.ret (.string ⟨⟨Q9 z⟩⟩)):=a1j (q:=λz=>some (.string ⟨⟨Q9 z⟩⟩)) zw n rfl
theorem e3z:J9 Tryz.prog tab (I6 mL) 80 (λbs=>M.lift (b0y b2g bs)):=a1V V5 N7 (pL3 (mL:=mL)).e (pL3 (mL:=mL)).s Tryz.func80 zw rfl λbs v h=>by obtain⟨T,P,rfl,rfl⟩:=c0N h;refine⟨rfl,λc hh r w=>⟨2,a1f.pureE ?_ c hh r w⟩⟩;rw[a2h (q:=d1I) (N:=NN) zw 1];simp(disch:=first|exact dz|fail)only[F80,e2Q,bX];rfl
noncomputable def a3D (T:List UInt8):Option Nat:=bcase (beqBytes [105,51,50] T) (some 1) (bcase (beqBytes [105,54,52] T) (some 2) (bcase (beqBytes [102,117,110,99,114,101,102] T) (some 3) (bcase (beqBytes [101,120,116,101,114,110,114,101,102] T) (some 4) none)))
noncomputable def a2K (T:List UInt8):Value:=match a3D T with|some k=>.tuple ⟨[.int .i64 (.ofNat k),.bool true]⟩|none=>.tuple ⟨[.int .i64 (.ofNat 0),.bool false]⟩
theorem vn1:Q9 (Int.ofNat 1)=[105,51,50]:=wJ rfl rfl
theorem vn2:Q9 (Int.ofNat 2)=[105,54,52]:=wJ rfl rfl
theorem vn3:Q9 (Int.ofNat 3)=[102,117,110,99,114,101,102]:=wJ rfl rfl
theorem vn4:Q9 (Int.ofNat 4)=[101,120,116,101,114,110,114,101,102]:=wJ rfl rfl
theorem e7Q (call)(hc:∀z,call 40 [.int .i64 z]=M.pure (.ret (.string ⟨⟨Q9 z⟩⟩)))(T c h r w):l9 (go (b9q o9 NN call (.string ⟨⟨T⟩⟩)) ⟨c,h,r,w⟩) λx s=>x=.ret (a2K T)/\∀i,i<c->s.h.get i=h.get i:=by have d1:decide (Int.ofNat 1<=Int.ofNat 4)=true:=rfl;have d2:decide (Int.ofNat 2<=Int.ofNat 4)=true:=rfl;have d3:decide (Int.ofNat 3<=Int.ofNat 4)=true:=rfl;have d4:decide (Int.ofNat 4<=Int.ofNat 4)=true:=rfl;have d5:decide (Int.ofNat 5<=Int.ofNat 4)=false:=rfl;have i1:Q0 .i64 (Int.ofNat 1+Int.ofNat 1)=Int.ofNat 2:=rfl;have i2:Q0 .i64 (Int.ofNat 2+Int.ofNat 1)=Int.ofNat 3:=rfl;have i3:Q0 .i64 (Int.ofNat 3+Int.ofNat 1)=Int.ofNat 4:=rfl;have i4:Q0 .i64 (Int.ofNat 4+Int.ofNat 1)=Int.ofNat 5:=rfl;obtain⟨k,hN⟩:∃k,NN=k+6:=⟨NN-6,zu⟩;rw[hN];unfold a2K a3D;cases q1:beqBytes [105,51,50] T with|true=>simp(disch:=first|exact dz|fail)only[c0M,c2W,Y8,hc,vn1,d1,q1,bY];exact l9.done ⟨rfl,λi hi=>rfl⟩|false=>cases q2:beqBytes [105,54,52] T with|true=>simp(disch:=first|exact dz|fail)only[c0M,c2W,Y8,hc,vn1,vn2,d1,d2,i1,q1,q2,bY];exact l9.done ⟨rfl,λi hi=>rfl⟩|false=>cases q3:beqBytes [102,117,110,99,114,101,102] T with|true=>simp(disch:=first|exact dz|fail)only[c0M,c2W,Y8,hc,vn1,vn2,vn3,d1,d2,d3,i1,i2,q1,q2,q3,bY];exact l9.done ⟨rfl,λi hi=>rfl⟩|false=>cases q4:beqBytes [101,120,116,101,114,110,114,101,102] T with|true=>simp(disch:=first|exact dz|fail)only[c0M,c2W,Y8,hc,vn1,vn2,vn3,vn4,d1,d2,d3,d4,i1,i2,i3,q1,q2,q3,q4,bY];exact l9.done ⟨rfl,λi hi=>rfl⟩|false=>simp(disch:=first|exact dz|fail)only[c0M,c2W,Y8,hc,vn1,vn2,vn3,vn4,d1,d2,d3,d4,d5,i1,i2,i3,i4,q1,q2,q3,q4,bY];exact l9.done ⟨rfl,λi hi=>rfl⟩
noncomputable def XT (q:List UInt8->Value)(bs:List Value):Option Value:=match bs with|[.string s]=>some (q s.data.toList)|_=>none
theorem e0B {q bs v}(h:XT q bs=some v):∃T,bs=[.string ⟨⟨T⟩⟩]/\v=q T:=by unfold XT at h;split at h;rename_i s;cases h;exact⟨s.data.toList,rfl,rfl⟩;cases h
theorem b7J (T):K9 8 (a2K T)=true:=by unfold a2K;cases a3D T<;>rfl
theorem e0j:J9 Tryz.prog tab (I6 mL) 182 (λbs=>M.lift (XT a2K bs)):=a1V V5 N7 (pL3 (mL:=mL)).e (pL3 (mL:=mL)).s Tryz.func182 zw rfl λbs v h=>by obtain⟨T,rfl,rfl⟩:=e0B h;refine⟨b7J T,λc hh r w=>⟨2,?_⟩⟩;rw[Z5 (q:=b9q) (N:=NN) zw 1];exact e7Q _ (e6u 0) T c hh r w
noncomputable def c5J (b:UInt8):Bool:=decide (b.toNat=36)||(decide (48<=b.toNat)&&decide (b.toNat<=57))
noncomputable def b7G (T:List UInt8):Bool:=match T with|[]=>false|b::_=>c5J b
noncomputable def Y3 (k:Nat)(T:List UInt8):Bool:=decide (k=2)&&b7G T
theorem Y1 (a b):decide (Int.ofNat a=Int.ofNat b)=decide (a=b):=by by_cases q:a=b;rw[wL q,q,wL rfl];rw[wP q];simp only[vX,vz];omega
theorem c6q (b T):b6V (.string ⟨⟨b::T⟩⟩) (.int .i64 (.ofNat 0))=M.pure (.int .u8 (.ofNat b.toNat)):=rfl
theorem c1b (b T):beqBytes (b::T) []=false:=wJ rfl rfl
theorem d5I:beqBytes [] []=true:=wJ rfl rfl
theorem e9j (N call k p T a n e c h r w):l9 (go (c0f o9 N call (.agg ⟨[.int .i64 (.ofNat k),.int .i64 (.ofNat p),.string ⟨⟨T⟩⟩,.slice a n e]⟩)) ⟨c,h,r,w⟩) λx s=>x=.ret (.bool (Y3 k T))/\∀i,i<c->s.h.get i=h.get i:=by unfold Y3;have hf:∀i,i<c->i≠c:=λi hi=>zy;cases q1:decide (k=2)with|false=>simp(disch:=first|exact dz|fail)only[c1N,Y1,q1,bY];exact l9.done ⟨rfl,λi hi=>yn⟩|true=>cases T with|nil=>simp(disch:=first|exact dz|fail)only[c1N,Y1,q1,d5I,b7G,bY];exact l9.done ⟨rfl,λi hi=>yn⟩|cons b T=>unfold b7G c5J;cases q2:decide (b.toNat=36)with|true=>simp(disch:=first|exact dz|fail)only[c1N,Y1,q1,q2,c1b,c6q,bY];exact l9.done ⟨rfl,λi hi=>yn⟩|false=>cases q3:decide (48<=b.toNat)with|false=>simp(disch:=first|exact dz|fail)only[c1N,Y1,dle,q1,q2,q3,c1b,c6q,bY];exact l9.done ⟨rfl,λi hi=>yn⟩|true=>simp(disch:=first|exact dz|fail)only[c1N,Y1,dle,q1,q2,q3,c1b,c6q,bY];exact l9.done ⟨rfl,λi hi=>yn⟩
noncomputable def XN (q:Nat->List UInt8->Value)(bs:List Value):Option Value:=match bs with|[.agg ⟨[.int .i64 (.ofNat k),.int .i64 (.ofNat _),.string s,.slice _ _ _]⟩]=>some (q k s.data.toList)|_=>none
theorem e0c {q bs v}(h:XN q bs=some v):∃k p T a n e,bs=[.agg ⟨[.int .i64 (.ofNat k),.int .i64 (.ofNat p),.string ⟨⟨T⟩⟩,.slice a n e]⟩]/\v=q k T:=by unfold XN at h;split at h;cases h;exact⟨_,_,_,_,_,_,rfl,rfl⟩;cases h
noncomputable def c6L (k:Nat)(T:List UInt8):Value:=.bool (Y3 k T)
theorem e0C:J9 Tryz.prog tab (I6 mL) 184 (λbs=>M.lift (XN c6L bs)):=a1V V5 N7 (pL3 (mL:=mL)).e (pL3 (mL:=mL)).s Tryz.func184 zw rfl λbs v h=>by obtain⟨k,p,T,a,n,e,rfl,rfl⟩:=e0c h;refine⟨rfl,λc hh r w=>⟨2,?_⟩⟩;rw[Z5 (q:=c0f) (N:=NN) zw 1];exact e9j _ _ k p T a n e c hh r w
structure Sl where
 a:Option Addr
 n:Nat
 e:Nat
inductive Nd where
 | mk (k p:Nat) (t:List UInt8) (l:List Nd)
def Nd.k:Nd->Nat|.mk k _ _ _=>k
def Nd.p:Nd->Nat|.mk _ p _ _=>p
def Nd.t:Nd->List UInt8|.mk _ _ t _=>t
def Nd.l:Nd->List Nd|.mk _ _ _ l=>l
def ndV (n:Nd)(v:Sl):Value:=.agg ⟨[.int .i64 (.ofNat n.k),.int .i64 (.ofNat n.p),.string ⟨⟨n.t⟩⟩,.slice v.a v.n v.e]⟩
inductive NdL (U:Nat→Prop) (h:Trie VObj):Sl→List Nd→Prop
 | nil:NdL U h ⟨none, 0, 0⟩ []
 | row {b o g cur:Nat} {cs:List (Value×Nat)} {ro:Bool} {l:List Nd} (vs:Nat→Sl):U b→h.get b=some (.cells cs cur ro)→l.length<900000 →
  (∀ (i:Nat) n,l[i]?=some n→n.t.length<900000∧y8 g (H9 cs (o+i * 4)) 4=some [.int .i64 (.ofNat n.k),.int .i64 (.ofNat n.p),.string ⟨⟨n.t⟩⟩,.slice (vs i).a (vs i).n (vs i).e]) →
  (∀ (i:Nat) n,l[i]?=some n→NdL U h (vs i) n.l)→NdL U h ⟨some ⟨b,o,some g⟩,l.length, 4⟩ l
theorem NdL.mono {U U' h h' v l}(H:NdL U h v l)(hu:∀i,U i->U' i/\h'.get i=h.get i):NdL U' h' v l:=by induction H with|nil=>exact .nil|row vs h1 h2 h3 h4 _ ih=>exact .row vs (hu _ h1).1 ((hu _ h1).2.trans h2) h3 h4 ih
theorem NdL.len {U h v l}(H:NdL U h v l):v.n=l.length/\l.length<900000:=by cases H with|nil=>exact⟨rfl,zu⟩|row vs h1 h2 h3 h4 h5=>exact⟨rfl,h3⟩
theorem NdL.get {U h v l}(H:NdL U h v l){i n}(hi:l[i]?=some n):∃b q g cs cur ro lv,U b/\h.get b=some (.cells cs cur ro)/\NdL U h lv n.l/\n.t.length<900000/\(∀k,a7i 4 (.slice v.a v.n v.e) (.int k (.ofNat i))=M.pure (.pointer (some ⟨b,q,some g⟩)))/\y8 g (H9 cs q) 4=some [.int .i64 (.ofNat n.k),.int .i64 (.ofNat n.p),.string ⟨⟨n.t⟩⟩,.slice lv.a lv.n lv.e]/\y8 g (H9 cs q) 1=some [.int .i64 (.ofNat n.k)]/\y8 g (H9 cs (q+1)) 1=some [.int .i64 (.ofNat n.p)]/\y8 g (H9 cs (q+2)) 1=some [.string ⟨⟨n.t⟩⟩]/\y8 g (H9 cs (q+3)) 1=some [.slice lv.a lv.n lv.e]:=by
 cases H with
  |nil=>cases hi| @row b o g cur cs ro _ vs h1 h2 h3 h4 h5=>
   have hl:i<l.length:=(wM.1 hi).1;obtain⟨ht,h6⟩:=h4 i n hi;have one:∀(j:Nat) (y:Value),([.int .i64 (.ofNat n.k),.int .i64 (.ofNat n.p),.string ⟨⟨n.t⟩⟩,.slice (vs i).a (vs i).n (vs i).e]:List Value)[j]?=some y->y8 g (H9 cs (o+i*4+j)) 1=some [y]:=by intro j y hy;rw[a5a];exact a2I h6 j y hy
   exact⟨b,o+i*4,g,cs,cur,ro,vs i,h1,h2,h5 i n hi,ht,λk=>a1C 4 i l.length k b o (some g) hl zu,h6,one 0 _ rfl,one 1 _ rfl,one 2 _ rfl,one 3 _ rfl⟩
structure RV where
 i:Nat
 op:Nat
 A:Nat
 B:Nat
 N:Nat
 k:Nat
 v:Nat
 bi:Nat
 ts:Sl
 ls:Sl
 nm:List UInt8
structure PV where
 out:Sl
 lb:Nat
 p:Nat
 e:Nat
def a2y (R:RV):List Value:=[.int .i64 (.ofNat R.op),.int .i64 (.ofNat R.A),.int .i64 (.ofNat R.B),.int .u64 (.ofNat R.N),.int .i64 (.ofNat R.k),.int .i64 (.ofNat R.v),.int .i64 (.ofNat R.bi),.slice R.ts.a R.ts.n R.ts.e,.slice R.ls.a R.ls.n R.ls.e]
def I5 (ap:Nat)(lv:Sl)(q:Nat)(R:RV):List (Value×Nat):=[(.pointer (some ⟨ap,0,some 0⟩),0),(.slice lv.a lv.n lv.e,0),(.int .i64 (.ofNat R.i),0),(.int .i64 (.ofNat q),0),(.int .i64 (.ofNat R.op),0),(.int .i64 (.ofNat R.A),0),(.int .i64 (.ofNat R.B),0),(.int .u64 (.ofNat R.N),0),(.int .i64 (.ofNat R.k),0),(.int .i64 (.ofNat R.v),0),(.int .i64 (.ofNat R.bi),0),(.slice R.ts.a R.ts.n R.ts.e,0),(.slice R.ls.a R.ls.n R.ls.e,0),(.string ⟨⟨R.nm⟩⟩,0)]
def F8 (sv fo:Value)(P:PV):List (Value×Nat):=[(sv,0),(.slice P.out.a P.out.n P.out.e,0),(.int .i64 (.ofNat P.lb),0),(.int .i64 (.ofNat P.p),0),(.int .i64 (.ofNat P.e),0),(fo,0)]
structure At (U:Nat→Prop) (h0:Trie VObj) (sv fo:Value) (ar ap:Nat) (lv:Sl) (q c:Nat) (h:Trie VObj) (R:RV) (P:PV):Prop where
 u:∀ i,U i→i<c∧i≠ar∧i≠ap∧h.get i=h0.get i
 r:ar<c
 p:ap<c
 ne:ar≠ap
 hr:h.get ar=some (.cells (I5 ap lv q R) 0 false)
 hp:h.get ap=some (.cells (F8 sv fo P) 0 false)
inductive Rs where
 | ok (R:RV)
 | er (p e:Nat)
def Rs.P (P:PV):Rs->PV|.ok _=>P|.er p e=>{P with p:=p,e:=e}
def Rs.b:Rs->Bool|.ok _=>true|.er _ _=>false
structure Fin (U:Nat→Prop) (h0:Trie VObj) (sv fo:Value) (ar ap:Nat) (lv:Sl) (q c:Nat) (h:Trie VObj) (P:PV) (rs:Rs) (s:V.S):Prop where
 le:c≤s.c
 same:∀ i,i<c→i≠ar→i≠ap→s.h.get i=h.get i
 at':∃ R',At U h0 sv fo ar ap lv q s.c s.h R' (rs.P P)∧∀ R1,rs=.ok R1→R'=R1
theorem c9f (m:Nat)(s:ByteArray):b1E tab 94 (.map (some m)) (.string s) true=M.bind (a7d m) λes=>M.obind (a1i (.string s) es) λo=>match o with|some v=>M.pure (.tuple ⟨[v,.bool true]⟩)|none=>M.pure (.tuple ⟨[.int .i64 (.ofNat 0),.bool false]⟩):=zw
theorem c0S (m:Nat)(n:Int):b1E tab 90 (.map (some m)) (.int .i64 n) false=M.bind (a7d m) λes=>M.obind (a1i (.int .i64 n) es) λo=>match o with|some v=>M.pure v|none=>M.pure (.pointer none):=zw
theorem b0m (m c h r w es)(hm:m<c)(e:h.get m=some (.map es)):go (a7d m) ⟨c,h,r,w⟩=some (es,⟨c,h,m::r,w⟩):=by unfold a7d;rw[J8];show R8 (rd m ⟨c,h,r,w⟩) _=_;rw[b3I,I7 hm,e];rfl
theorem b3r (t:Nat)(a):a0M Tryz.prog tab .neq 44 (.tmp t) (.const (.pointer none)) (.pointer (some a)) (.pointer none)=M.pure (.bool true):=zw
theorem b3F (t:Nat)(m):a0M Tryz.prog tab .neq 90 (.tmp t) (.const (.map none)) (.map (some m)) (.map none)=M.pure (.bool true):=zw
theorem d3s (t:Nat)(a):a0M Tryz.prog tab .eql 93 (.tmp t) (.const (.pointer none)) (.pointer (some a)) (.pointer none)=M.pure (.bool false):=zw
noncomputable def b0g (v:Value)(k:Nat):M (List (Value×Value)):=a0G v λa=>M.bind (loadN a 2) λvs=>match vs with
 |[.map (some m),_]=>M.bind (a7d m) λes=>M.obind (a1i (.int .i64 (.ofNat k)) es) λo=>M.obind o λpv=>a0G pv λb=>M.bind (loadN b 3) λws=>match ws with|[_,_,.map (some m2)]=>a7d m2|_=>M.fail
 |_=>M.fail
noncomputable def b4M (fs:List (Value×Value))(T:List UInt8):Option Value:=bcase (a0y T [36]) (match a1i (.string ⟨⟨T⟩⟩) fs with|some (some (.int .i64 n))=>some (.tuple ⟨[.int .i64 n,.int .i64 (.ofNat 0)]⟩)|some none=>some (.tuple ⟨[.int .i64 (.ofNat 0),.int .i64 (.ofNat 24)]⟩)|_=>none) (bcase (Nat.blt (x8 T) 900000) (some (a6K T)) none)
noncomputable def XF (bs:List Value):M Value:=match bs with|[v,.int .i64 (.ofNat k),.string s]=>M.bind (b0g v k) λfs=>M.lift (b4M fs s.data.toList)|_=>M.fail
theorem a2U {α v}{k:Addr->M α}{s s' u}(h:a0G v k s=some (u,s')):∃a,v=.pointer (some a)/\k a s=some (u,s'):=by unfold a0G at h;split at h;obtain⟨a,e,h2⟩:=G5 h;exact⟨a,by rw[e],h2⟩;cases h
theorem b2k {a n s s' vs}(h:loadN a n s=some (vs,s')):∃b o g cs cur ro,a=⟨b,o,some g⟩/\b<s.c/\s.h.get b=some (.cells cs cur ro)/\y8 g (H9 cs o) n=some vs/\s'.c=s.c/\s'.h=s.h:=by obtain⟨b,o,sp⟩:=a;unfold loadN at h;obtain⟨g,hg,h⟩:=G5 h;obtain⟨ob,s1,h1,h2⟩:=C8 h;obtain⟨r1,r2,r3,r4⟩:=b0C h1;cases ob with|cells cs cur ro=>obtain⟨q1,q2⟩:=a3i (h2:M.lift (y8 g (H9 cs o) n) s1=_);subst q2;exact⟨b,o,g,cs,cur,ro,by cases hg;rfl,r1,r2,q1,r3,r4⟩|_=>cases h2
theorem c2N {m s s' es}(h:a7d m s=some (es,s')):m<s.c/\s.h.get m=some (.map es)/\s'.c=s.c/\s'.h=s.h:=by unfold a7d at h;obtain⟨ob,s1,h1,h2⟩:=C8 h;obtain⟨r1,r2,r3,r4⟩:=b0C h1;cases ob with|map es'=>obtain⟨rfl,rfl⟩:=q9 (h2:M.pure es' s1=_);exact⟨r1,r2,r3,r4⟩|_=>cases h2
structure KindAt (U:Nat→Prop) (h:Trie VObj) (v:Value) (k:Nat) (fs:List (Value×Value)):Prop where
 ex:∃ sb so g cs cur ro m lv es kb ko kg ds cur2 ro2 n nm m2,v=.pointer (some ⟨sb,so,some g⟩)∧U sb∧h.get sb=some (.cells cs cur ro)∧y8 g (H9 cs so) 2=some [.map (some m),lv]∧U m∧h.get m=some (.map es) ∧
  a1i (.int .i64 (.ofNat k)) es=some (some (.pointer (some ⟨kb,ko,some kg⟩)))∧U kb∧h.get kb=some (.cells ds cur2 ro2)∧y8 kg (H9 ds ko) 3=some [n,nm,.map (some m2)]∧U m2∧h.get m2=some (.map fs)
theorem KindAt.mono {U U' h h' v k fs}(H:KindAt U h v k fs)(hu:∀i,U i->U' i/\h'.get i=h.get i):KindAt U' h' v k fs:=by obtain⟨sb,so,g,cs,cur,ro,m,lv,es,kb,ko,kg,ds,cur2,ro2,n,nm,m2,rfl,h1,h2,h3,h4,h5,h6,h7,h8,h9,h10,h11⟩:=H.ex;exact⟨sb,so,g,cs,cur,ro,m,lv,es,kb,ko,kg,ds,cur2,ro2,n,nm,m2,rfl,(hu _ h1).1,(hu _ h1).2.trans h2,h3,(hu _ h4).1,(hu _ h4).2.trans h5,h6,(hu _ h7).1,(hu _ h7).2.trans h8,h9,(hu _ h10).1,(hu _ h10).2.trans h11⟩
theorem c5E {v k s s' fs}(h:b0g v k s=some (fs,s')):KindAt (λi=>i<s.c) s.h v k fs/\s'.c=s.c/\s'.h=s.h:=by unfold b0g at h;obtain⟨a,rfl,g1⟩:=a2U h;obtain⟨vs,s1,h1,g2⟩:=C8 g1;obtain⟨sb,so,g,cs,cur,ro,rfl,a1,a2,a3,a4,a5⟩:=b2k h1;split at g2;rename_i m lv;obtain⟨es,s2,h2,g3⟩:=C8 g2;obtain⟨b1,b2,b3,b4⟩:=c2N h2;obtain⟨o,ho,g4⟩:=G5 g3;obtain⟨pv,hpv,g5⟩:=G5 g4;obtain⟨b,rfl,g6⟩:=a2U g5;obtain⟨ws,s3,h3,g7⟩:=C8 g6;obtain⟨kb,ko,kg,ds,cur2,ro2,rfl,c1,c2,c3,c4,c5⟩:=b2k h3;split at g7;rename_i n nm m2;obtain⟨d1,d2,d3,d4⟩:=c2N g7;subst hpv;refine⟨⟨sb,so,g,cs,cur,ro,m,lv,es,kb,ko,kg,ds,cur2,ro2,n,nm,m2,rfl,a1,a2,a3,zy,by rw[<-a5];exact b2,ho,zy,by rw[<-a5,<-b4];exact c2,c3,zy,by rw[<-a5,<-b4,<-c5];exact d2⟩,zy,by rw[d4,c5,b4,a5]⟩;cases g7;cases g2
theorem e5C (bs):Fr (XF bs):=by unfold XF;split;refine Fr.bind ?_ λ_=>Fr.lift _;unfold b0g;refine Fr.asPtr _ λa=>Fr.bind (Fr.loadN _ _) λvs=>?_;split;refine Fr.bind (Fr.mapAt _) λes=>Fr.obind _ λo=>Fr.obind _ λpv=>Fr.asPtr _ λb=>Fr.bind (Fr.loadN _ _) λws=>?_;split;exact Fr.mapAt _;exact Fr.fail;exact Fr.fail;exact Fr.fail
theorem b5Y {fs T y}(h:b4M fs T=some y):(a0y T [36]=true/\((∃n,a1i (.string ⟨⟨T⟩⟩) fs=some (some (.int .i64 n))/\y=.tuple ⟨[.int .i64 n,.int .i64 (.ofNat 0)]⟩)\/(a1i (.string ⟨⟨T⟩⟩) fs=some none/\y=.tuple ⟨[.int .i64 (.ofNat 0),.int .i64 (.ofNat 24)]⟩)))\/(a0y T [36]=false/\T.length<900000/\y=a6K T):=by unfold b4M at h;cases q:a0y T [36]with|true=>rw[q]at h;refine Or.inl ⟨rfl,?_⟩;have h':(match a1i (.string ⟨⟨T⟩⟩) fs with|some (some (.int .i64 n))=>some (Value.tuple ⟨[.int .i64 n,.int .i64 (.ofNat 0)]⟩)|some none=>some (.tuple ⟨[.int .i64 (.ofNat 0),.int .i64 (.ofNat 24)]⟩)|_=>none)=some y:=h;split at h';rename_i n e;cases h';exact Or.inl ⟨n,e,rfl⟩;rename_i e;cases h';exact Or.inr ⟨e,rfl⟩;cases h'|false=>rw[q]at h;have h':bcase (Nat.blt (x8 T) 900000) (some (a6K T)) none=some y:=h;cases q2:Nat.blt (x8 T) 900000 with|true=>rw[q2]at h';cases h';exact Or.inr ⟨rfl,by rw[F9]at q2;simpa using q2,rfl⟩|false=>rw[q2]at h';cases h'
noncomputable def pe4:Nat->Option (List Value->M Value):=(M5 (M5 (M5 pe3 80 (λbs=>M.lift (b0y b2g bs))) 182 (λbs=>M.lift (XT a2K bs))) 184 (λbs=>M.lift (XN c6L bs)))
noncomputable def ps4:a2t:=(U5 (U5 (U5 ps3 80 (λbs=>M.lift (b0y b2g bs))) 182 (λbs=>M.lift (XT a2K bs))) 184 (λbs=>M.lift (XN c6L bs)))
theorem pL4:Shelf' Tryz.prog tab (I6 mL) NN pe4 ps4:=(((pL3.add e3z)).add e0j).add e0C
theorem b6R (n T P):o8 ps4 (n+1) 80 [.string ⟨⟨T⟩⟩,.string ⟨⟨P⟩⟩]=M.pure (.ret (.bool (a0y T P))):=V8 ps4 n 80 _ (g:=b0y b2g) zw rfl
theorem d4Y (n T)(h:T.length<900000):o8 ps4 (n+1) 81 [.string ⟨⟨T⟩⟩,.int .i64 (.ofNat 4294967295)]=M.pure (.ret (a6K T)):=V8 ps4 n 81 _ (g:=b2n 4294967295 a6K) zw (b4b _ _ T h)
theorem b6h (n a):o8 ps4 (n+1) 79 [a]=b7D o9 NN (o8 ps4 n) a:=Z5 (q:=b7D) (N:=NN) zw n a
theorem c2b (n a b):o8 ps4 (n+1) 106 [a,b]=b9S o9 NN (o8 ps4 n) a b:=a2h (q:=b9S) (N:=NN) zw n a b
theorem c2l (T):a6K T=.tuple ⟨[.int .i64 (.ofNat (a4z T).1),.int .i64 (.ofNat (a4z T).2)]⟩:=rfl
theorem e8e {c c0 h v k fs}(H:KindAt (λi=>i<c0) h v k fs)(hc:c0<=c){T y}(hy:b4M fs T=some y)(r w):l9 (go (b9k o9 NN (o8 ps4 3) v (.int .i64 (.ofNat k)) (.string ⟨⟨T⟩⟩)) ⟨c,h,r,w⟩) λx s=>x=.ret y/\∀i,i<c->s.h.get i=h.get i:=by
 obtain⟨sb,so,g,cs,cur,ro,m,lv,es,kb,ko,kg,ds,cur2,ro2,n,nm,m2,rfl,h1,h2,h3,h4,h5,h6,h7,h8,h9,h10,h11⟩:=H.ex;have a1:sb<c:=zy;have a2:m<c:=zy;have a3:kb<c:=zy;have a4:m2<c:=zy;have t1:y8 g (H9 cs so) 1=some [.map (some m)]:=a2I h3 0 _ rfl▸by rw[a0i]
 have t2:y8 kg (H9 ds (ko+2)) 1=some [.map (some m2)]:=by rw[a5a];exact a2I h9 2 _ rfl
 have e1:=λr w=>b0m m c h r w es a2 h5;have e2:=λr w=>b0m m2 c h r w fs a4 h11;rcases b5Y hy with⟨p1,⟨z,p2,rfl⟩|⟨p2,rfl⟩⟩|⟨p1,p2,rfl⟩;simp(disch:=first|exact dz|fail)only[d3m,b6h,F79,c2b,d2I,b6R,c0S,c9f,b3r,b3F,d3s,h2,h8,t1,t2,e1,e2,h6,p1,p2,bY];exact l9.done ⟨rfl,λi hi=>rfl⟩;simp(disch:=first|exact dz|fail)only[d3m,b6h,F79,c2b,d2I,b6R,c0S,c9f,b3r,b3F,d3s,h2,h8,t1,t2,e1,e2,h6,p1,p2,bY];exact l9.done ⟨rfl,λi hi=>rfl⟩;simp(disch:=first|exact dz|fail)only[d3m,b6h,F79,c2b,d2I,b6R,d4Y,c0S,b3r,b3F,d3s,h2,t1,e1,h6,p1,c2l,bY];exact l9.done ⟨rfl,λi hi=>rfl⟩
theorem e1M:J9 Tryz.prog tab (I6 mL) 207 XF:=a7u V5 N7 (pL4 (mL:=mL)).e (pL4 (mL:=mL)).s Tryz.func207 zw rfl e5C λbs s y s1 hq=>by unfold XF at hq;split at hq;rename_i v k t;obtain⟨fs,s2,h1,h2⟩:=C8 hq;obtain⟨h3,rfl⟩:=a3i h2;obtain⟨h4,h5,h6⟩:=c5E h1;refine⟨?_,h5,h6,λc hc=>⟨4,?_⟩⟩;rcases b5Y h3 with⟨_,⟨z,_,rfl⟩|⟨_,rfl⟩⟩|⟨_,_,rfl⟩<;>rfl;rw[b2s (q:=b9k) (N:=NN) zw 3];exact e8e h4 hc h3 _ _;cases hq
end Go.Proofs.YtmomonnlmbljoaaGreatDoor
end
