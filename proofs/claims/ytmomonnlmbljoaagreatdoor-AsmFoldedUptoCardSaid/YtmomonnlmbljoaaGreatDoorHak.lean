import Derived.Test.YtmomonnlmbljoaaGreatDoorProg
import Derived.Test.YtmomonnlmbljoaaGreatDoorHah
import Derived.Test.YtmomonnlmbljoaaGreatDoorHai
import Derived.Test.YtmomonnlmbljoaaGreatDoorHaj
set_option maxRecDepth 1000000
set_option maxHeartbeats 4000000
set_option linter.unusedVariables false
set_option linter.unusedSimpArgs false
section
noncomputable section
namespace Go.V
section
variable (p:Program)(T:Tab)
theorem a9Y {op t x y k n m v}(h1:a2Z op k n m=none)(h2:b1S op k (.ofNat n) (.ofNat m)=none)(h3:b7C op k n m=some v):R9 p T op t x y (.int k (.ofNat n)) (.int k (.ofNat m))=M.pure v:=by
 have hk:Q7 k k=true:=by cases k<;>rfl
 have:a1n op k k (.ofNat n) (.ofNat m)=some v:=by grind[a1n,a3W]
 grind[R9]
theorem a8l (k n)(h:n<a1s k):G8 k (.ofNat n)=.ofNat n:=by grind[G8,A5]
theorem b2L (t x y k n m)(h:n<a1s k):R9 p T .quo t x y (.int k (.ofNat n)) (.int k (.ofNat (m+1)))=M.pure (.int k (.ofNat (n/(m+1)))):=by refine a9Y p T rfl rfl ?_;show some (Value.int k (G8 k (.ofNat (n/(m+1)))))=_;rw[a8l _ _ (vq (sZ _ _) h)]
theorem b2m (t x y k n m):R9 p T .rem t x y (.int k (.ofNat n)) (.int k (.ofNat (m+1)))=M.pure (.int k (.ofNat (n%(m+1)))):=a9Y p T rfl rfl rfl
theorem a9z (t x y k n m)(hk:a1s k=2^k.bits)(h1:n<a1s k)(h2:m<a1s k):R9 p T .and t x y (.int k (.ofNat n)) (.int k (.ofNat m))=M.pure (.int k (.ofNat (Nat.land n m))):=by refine a9Y p T rfl rfl ?_;show some (Value.int k (G8 k (.ofNat (Nat.land (Nat.mod n (Nat.pow 2 k.bits)) (Nat.mod m (Nat.pow 2 k.bits))))))=_;have e1:Nat.mod n (Nat.pow 2 k.bits)=n:=vX (by rw[<-show(2:Nat)^k.bits=Nat.pow 2 k.bits from rfl,<-hk];exact h1);have e2:Nat.mod m (Nat.pow 2 k.bits)=m:=vX (by rw[<-show(2:Nat)^k.bits=Nat.pow 2 k.bits from rfl,<-hk];exact h2);rw[e1,e2,a8l];exact vq Nat.and_le_left h1
theorem a5a (t x y k k' n m)(h:m<=k.bits):R9 p T .shl t x y (.int k (.ofNat n)) (.int k' (.ofNat m))=M.pure (.int k (G8 k (.ofNat (n*2^m)))):=by
 have e:a1n .shl k k' (.ofNat n) (.ofNat m)=some (.int k (G8 k (.ofNat (n*2^m)))):=by
  have e1:a2Z .shl k n m=some (.int k (G8 k (.ofNat (n*2^m)))):=by show some (Value.int k (G8 k (.ofNat (Nat.mul n (Nat.pow 2 (a8z k m))))))=_;simp_all[a8z,V6]
  grind[a1n,a3W]
 grind[R9]
theorem d8l (k k' z m)(h:m<=k.bits):R6 p (Op.shift .shr k z k' (.ofNat m))=some (.int k (z.fdiv (2^m))):=by unfold Op.shift;rw[wX zq];simp only[wz,Int.toNat_natCast,sY h];rfl
theorem F7 (t x y k k' z m)(h:m<=k.bits):R9 p T .shr t x y (.int k z) (.int k' (.ofNat m))=M.pure (.int k (z.fdiv (2^m))):=by
 cases z with
  |ofNat n=>
   have e:a1n .shr k k' (.ofNat n) (.ofNat m)=some (.int k (.ofNat (n/2^m))):=by
    have e1:a2Z .shr k n m=some (.int k (.ofNat (n/2^m))):=by show some (Value.int k (.ofNat (Nat.div n (Nat.pow 2 (a8z k m)))))=_;unfold a8z;rw[V6 h];rfl
    grind[a1n,a3W]
   grind[R9]|negSucc n=>
   have e:a1n .shr k k' (.negSucc n) (.ofNat m)=none:=by unfold a1n;show(match Q7 k k' with|true=>_|false=>none)=none;cases Q7 k k'<;>rfl
   unfold R9;simp only[e];have hn:a9n T .shr t x y (.int k (.negSucc n)) (.int k' (.ofNat m))=none:=rfl;unfold a7n;rw[hn];simp only[show C1 8 (Value.int k (.negSucc n))=true from rfl,show C1 8 (Value.int k' (.ofNat m))=true from rfl,vz,F6];have k2:R6 p (do eqGuard .shr t x y (.int k (.negSucc n)) (.int k' (.ofNat m));binOp .shr t (.int k (.negSucc n)) (.int k' (.ofNat m)))=some (.int k ((Int.negSucc n).fdiv (2^m))):=by rw[a1c];have:R6 p (eqGuard .shr t x y (.int k (.negSucc n)) (.int k' (.ofNat m)))=some ():=rfl;rw[this];exact d8l p k k' _ m h
   rw[k2];rfl
end
theorem a3h (s kl kh l h)(e:l<=h)(e2:h<=j9 s.data.toList):a4w (.string s) (some (.int kl (.ofNat l))) (some (.int kh (.ofNat h)))=M.pure (.string ⟨⟨Q2 (z7 s.data.toList l) (h-l)⟩⟩):=by show a5Y s _ _=_;grind[a5Y,a0X,a8r,r9,V6,F6,M4]
theorem a5y (s kl l)(e2:l<=j9 s.data.toList):a4w (.string s) (some (.int kl (.ofNat l))) none=M.pure (.string ⟨⟨Q2 (z7 s.data.toList l) (j9 s.data.toList-l)⟩⟩):=by show a5Y s _ _=_;unfold a5Y;grind[a0X,a8r,r9,V6,F6,M4]
theorem E5 (l i):d7a i (.tuple ⟨l⟩)=M.obind (O6 l i) M.pure:=xK rfl rfl
theorem b9M (l i):xF1 i (.agg ⟨l⟩)=M.obind (O6 l i) M.pure:=xK rfl rfl
theorem S6 (t b x y):Y6 t (bcase b x y)=bcase b (Y6 t x) (Y6 t y):=zm
theorem E7 (t):Y6 t undef=false:=xK rfl rfl
theorem a0h (b x):bcase b x false=(b&&x):=zm
theorem c3E (b x):bcase b x true=(!b||x):=zm
theorem c4o (b x):bcase b true x=(b||x):=zm
theorem c3b (b x):bcase b false x=(!b&&x):=zm
theorem b2t {β}(b x y u u' v s)(f:Value->M β)(e):bcase b (H7 (go (a2f (bcase b x u) (bcase b y u') v) s) f) e=bcase b (H7 (go (a2f x y v) s) f) e:=zm
theorem b2M {β}(b n x y u u' v s)(f:Value->M β)(e):bcase b (H7 (go (a2f (bcase b x u) (bcase (b&&n) y u') v) s) f) e=bcase b (H7 (go (a2f x (bcase n y u') v) s) f) e:=zm
theorem b2V {β}(b x y u u' v s)(f:Value->M β)(e):bcase b e (H7 (go (a2f (bcase b u x) (bcase b u' y) v) s) f)=bcase b e (H7 (go (a2f x y v) s) f):=zm
theorem a7Z {β}(b n x y u u' v s)(f:Value->M β)(e):bcase b e (H7 (go (a2f (bcase b u x) (bcase (!b&&n) y u') v) s) f)=bcase b e (H7 (go (a2f x (bcase n y u') v) s) f):=zm
theorem P1 {α}(x y:List α):j9 (m9 x y)=j9 x+j9 y:=by rw[y9,y9,y9,v8,xE]
theorem b1j (b c):a2f (.bool (!b)) (.bool true) (bcase b (.bool c) undef)=M.pure (.bool (!b||c)):=zm
theorem a5L (b c):a2f (.bool (!b)) (bcase b undef (.bool c)) (.bool false)=M.pure (.bool (!b&&c)):=zm
theorem F8 (a b):a2f (.bool true) a b=M.pure a:=xK rfl rfl
theorem E2 (a b):a2f (.bool false) a b=M.pure b:=xK rfl rfl
theorem a5B (b x y):bcase b (CR.ret x) (CR.ret y)=.ret (bcase b x y):=zm
theorem a8Z (b x y):bcase b (Value.string ⟨⟨x⟩⟩) (Value.string ⟨⟨y⟩⟩)=.string ⟨⟨bcase b x y⟩⟩:=zm
theorem b8a (b k x y):bcase b (Value.int k x) (Value.int k y)=.int k (bcase b x y):=zm
theorem a6m (b x y):bcase b (Value.bool x) (Value.bool y)=.bool (bcase b x y):=zm
theorem a8D (call f vs):Y3 call f vs=M.bind (call f vs) λr=>W4 r M.pure λ_=>M.fail:=xK rfl rfl
theorem a4f (F):V5 [] F=true:=xK rfl rfl
theorem a3g (i j:Nat)(L:List (Nat×Nat))(F:List W9):V5 ((i,j)::L) F=((match O6 F i with
 |some x=>match O6 F j with|some y=>a4E x y|none=>false
 |none=>false)&&V5 L F):=I7 _ _ _
theorem a8G (a b c d):a4E (a,b) (c,d)=(L9 b c&&L9 b d&&L9 d a):=xK rfl rfl
theorem a2e (m):L9 [] m=true:=xK rfl rfl
theorem a3t (i l m):L9 (i::l) m=(!(a0D i m)&&L9 l m):=I7 _ _ _
theorem J4 (l):L9 l []=true:=by induction l with|nil=>rfl|cons i l ih=>rw[a3t,ih];rfl
theorem a7U (i):a0D i []=false:=xK rfl rfl
theorem a6R (i x:Nat)(m:List Nat):a0D i (x::m)=match Nat.beq i x with|true=>true|false=>a0D i m:=xK rfl rfl
theorem e5H {sh f N}{q:Cb->Nat->A8->M CR}(h:sh.get f=some (ar0 (q a1J N)))(n):j0 sh (n+1) f []=q i7 N (j0 sh n):=yZ
theorem O0 {sh f N}{q:Cb->Nat->A8->Value->M CR}(h:sh.get f=some (ar1 (q a1J N)))(n a):j0 sh (n+1) f [a]=q i7 N (j0 sh n) a:=yZ
theorem Z9 {sh f N}{q:Cb->Nat->A8->Value->Value->M CR}(h:sh.get f=some (ar2 (q a1J N)))(n a b):j0 sh (n+1) f [a,b]=q i7 N (j0 sh n) a b:=yZ
theorem b1q {sh f N}{q:Cb->Nat->A8->Value->Value->Value->M CR}(h:sh.get f=some (ar3 (q a1J N)))(n a b c):j0 sh (n+1) f [a,b,c]=q i7 N (j0 sh n) a b c:=yZ
theorem d7m {sh f N}{q:Cb->Nat->A8->Value->Value->Value->Value->M CR}(h:sh.get f=some (ar4 (q a1J N)))(n a b c d):j0 sh (n+1) f [a,b,c,d]=q i7 N (j0 sh n) a b c d:=yZ
end Go.V
end
section
noncomputable section
namespace Go.V
def on1 (k:IntKind)(q:Int->Option Value)(bs:List Value):Option Value:=match bs with|[.int k' n]=>bcase (Q7 k k') (q n) none|_=>none
def on2 (k1 k2:IntKind)(q:Int->Int->Option Value)(bs:List Value):Option Value:=match bs with|[.int k1' n,.int k2' m]=>bcase (Q7 k1 k1'&&Q7 k2 k2') (q n m) none|_=>none
theorem a4R (k):Q7 k k=true:=by cases k<;>rfl
theorem b5w {k q bs v}(h:on1 k q bs=some v):∃n,bs=[.int k n]/\q n=some v:=by
 unfold on1 at h;split at h;rename_i k' n;cases hk:Q7 k k' with|true=>rw[hk]at h;rw[a2t hk];exact⟨n,rfl,h⟩|false=>rw[hk]at h;cases h
 cases h
theorem d2K {k1 k2 q bs v}(h:on2 k1 k2 q bs=some v):∃n m,bs=[.int k1 n,.int k2 m]/\q n m=some v:=by
 unfold on2 at h;split at h;rename_i k1' n k2' m;cases hk:Q7 k1 k1'&&Q7 k2 k2' with|true=>rw[hk]at h;rw[xM]at hk;rw[a2t hk.1,a2t hk.2];exact⟨n,m,rfl,h⟩|false=>rw[hk]at h;cases h
 cases h
theorem c0s (k q n):on1 k q [.int k n]=q n:=by show bcase (Q7 k k) (q n) none=_;rw[a4R];rfl
theorem d8C (k1 k2 q n m):on2 k1 k2 q [.int k1 n,.int k2 m]=q n m:=by show bcase (Q7 k1 k1&&Q7 k2 k2) (q n m) none=_;rw[a4R,a4R];rfl
def X1 (k:IntKind)(q:Int->Option Value):List Value->M Value:=λbs=>M.lift (on1 k q bs)
def X2 (k1 k2:IntKind)(q:Int->Int->Option Value):List Value->M Value:=λbs=>M.lift (on2 k1 k2 q bs)
theorem U7 {sh f k q}(h:sh.get f=some (arX (X1 k q)))(m){n v}(e:q n=some v):j0 sh (m+1) f [.int k n]=M.pure (.ret v):=K6 sh m f _ h (by rw[c0s];exact e)
theorem G6 {sh f k1 k2 q}(h:sh.get f=some (arX (X2 k1 k2 q)))(m){n n' v}(e:q n n'=some v):j0 sh (m+1) f [.int k1 n,.int k2 n']=M.pure (.ret v):=K6 sh m f _ h (by rw[d8C];exact e)
def U1 (m:M CR)(v:Value):Prop:=∀c h r w,d8 (go m ⟨c,h,r,w⟩) λx s2=>x=.ret v/\∀i,i<c->s2.h.get i=h.get i
theorem U1.pure {m v}(h:m=M.pure (.ret v)):U1 m v:=λc hh r w=>⟨.ret v,_,by rw[h];rfl,rfl,λ_ _=>rfl⟩
section
variable {P:Program}{T:Tab}{vs:a0E}{ext:Nat->Option (List Value->M Value)}{N:Nat}{sh:a0g}
theorem a6f (hT:TabOk P T)(hM:P.follows .mixedOrders=true)(L:Shelf' P T vs N ext sh){f fn cd}(hPf:P.funcs[f]?=some fn)(hnum:(fn.name== "runtime.NumGoroutine")=false)(hb:fn.body=some cd){k}{q}(h:∀n v,q n=some v->C1 8 v=true/\∃m,U1 (j0 sh m f [.int k n]) v):B6 P T vs f (X1 k q):=Z3 hT hM L.e L.s hPf hnum hb λbs v hq=>by obtain⟨n,rfl,e⟩:=b5w hq;obtain⟨h1,m,h2⟩:=h n v e;exact⟨h1,λc h r w=>⟨m,h2 c h r w⟩⟩
theorem e4b (hT:TabOk P T)(hM:P.follows .mixedOrders=true)(L:Shelf' P T vs N ext sh){f fn cd}(hPf:P.funcs[f]?=some fn)(hnum:(fn.name== "runtime.NumGoroutine")=false)(hb:fn.body=some cd){k1 k2}{q}(h:∀n n' v,q n n'=some v->C1 8 v=true/\∃m,U1 (j0 sh m f [.int k1 n,.int k2 n']) v):B6 P T vs f (X2 k1 k2 q):=Z3 hT hM L.e L.s hPf hnum hb λbs v hq=>by obtain⟨n,n',rfl,e⟩:=d2K hq;obtain⟨h1,m,h2⟩:=h n n' v e;exact⟨h1,λc h r w=>⟨m,h2 c h r w⟩⟩
theorem a6w {f k q}(h:∀n v,q n=some v->C1 8 v=true/\a4F P vs f [.int k n] v):B6 P T vs f (X1 k q):=a1V λbs v hq=>by obtain⟨n,rfl,e⟩:=b5w hq;exact⟨rfl,h n v e⟩
end
end Go.V
namespace Go.V
section
variable {P:Program}{T:Tab}{vs:a0E}
theorem d3Z {f k q1 q2 q}(h1:B6 P T vs f (X1 k q1))(h2:B6 P T vs f (X1 k q2))(h:∀z v,q z=some v->q1 z=some v\/q2 z=some v):B6 P T vs f (X1 k q):=by refine⟨λbs=>Fr.lift _,?_⟩;intro B0 w0 hL hB bs s v s' w K bs' hg;obtain⟨e1,rfl⟩:=a1j hg;obtain⟨z,rfl,e⟩:=b5w e1;rcases h z v e with e2|e2;exact h1.2 B0 w0 hL hB _ s' v s' w K bs' (by show M.lift (on1 k q1 _) s'=_;rw[c0s,e2];rfl);exact h2.2 B0 w0 hL hB _ s' v s' w K bs' (by show M.lift (on1 k q2 _) s'=_;rw[c0s,e2];rfl)
noncomputable def b0K (r:Option (CR×S))(m:Nat):Bool:=match r with
 |some x=>match x.1 with
  |.ret v=>match v with|.int k n=>Q7 k .i64&&(match n with|.ofNat j=>Nat.beq j m|.negSucc _=>false)|_=>false
  |.pan _=>false
 |none=>false
theorem b0p {r m}(h:b0K r m=true):∃s,r=some (.ret (.int .i64 (.ofNat m)),s):=by unfold b0K at h;split at h;rename_i x;split at h;rename_i v hv;split at h;rename_i k n;rw[xM]at h;split at h;rename_i j;obtain⟨y,s⟩:=x;obtain rfl:y=_:=hv;obtain rfl:=a2t h.1;simp_all;cases h.2;cases h;cases h;cases h
end
end Go.V
end
section
noncomputable section
namespace Go.V
def C0 (c:Nat)(h:Trie VObj)(v:Value)(vs:List Value):Prop:=∃a e,v=.slice a vs.length e/\(vs=[]\/∃b o g cs cur ro,a=some ⟨b,o,some g⟩/\e=1/\b<c/\h.get b=some (.cells cs cur ro)/\j8 g (z7 cs o) vs.length=some vs)
theorem a1D {g}:∀{cs} {n} {vs},j8 g cs n=some vs->∀(i) (x),vs[i]?=some x->j8 g (z7 cs i) 1=some [x]:=by
 intro cs;induction cs with
  |nil=>intro n vs h i x hx;cases n with|zero=>cases h;simp at hx|succ n=>cases h
  |cons q cs ih=>
   intro n vs h i x hx;cases n with
    |zero=>cases h;simp at hx|succ n=>
     obtain⟨v,st⟩:=q;rw[W5]at h;split at h;rename_i hb;split at h;rename_i vs' hvs;cases h;cases i with|zero=>obtain rfl:v=x:=zr;rw[J7,W5,hb,I6]|succ i=>exact ih hvs i x zr
     cases h;cases h
theorem C0.get {c h v vs}(H:C0 c h v vs){i x}(hx:vs[i]?=some x):∃b o g cs cur ro,v=.slice (some ⟨b,o,some g⟩) vs.length 1/\b<c/\h.get b=some (.cells cs cur ro)/\j8 g (z7 cs (o+i)) 1=some [x]:=by obtain⟨a,e,rfl,hor⟩:=H;rcases hor with rfl|⟨b,o,g,cs,cur,ro,rfl,rfl,h1,h2,h3⟩;simp at hx;exact⟨b,o,g,cs,cur,ro,rfl,h1,h2,by rw[a2i];grind[a1D]⟩
theorem C0.read {c c' h h' v vs}(H:C0 c h v vs)(hc:c<=c')(hh:∀b,b<c->h'.get b=h.get b){i x}(hx:vs[i]?=some x):∃p b,b<c/\a6i 1 v (.int .i64 (.ofNat i))=M.pure p/\∀r w,go (a6S p) ⟨c',h',r,w⟩=some (x,⟨c',h',b::r,w⟩):=by obtain⟨b,o,g,cs,cur,ro,rfl,h1,h2,h3⟩:=H.get hx;have hlt:i<vs.length:=(xQ.1 hx).1;refine⟨.pointer (some ⟨b,o+i*1,some g⟩),b,h1,a0d 1 i vs.length .i64 b o (some g) hlt zv,λr w=>?_⟩;rw[a1f,A5 zy,hh b h1,h2,O4,wI,h3];rfl
theorem C0.len {c h v vs}(H:C0 c h v vs):b7e v=M.pure (.int .i64 (.ofNat vs.length)):=by obtain⟨a,e,rfl,_⟩:=H;rfl
theorem C0.one {c h v vs}(H:C0 c h v vs):D5 v=true:=by obtain⟨a,e,rfl,_⟩:=H;rfl
theorem C0.mono {c c' h h' v vs}(H:C0 c h v vs)(hc:c<=c')(hh:∀b,b<c->h'.get b=h.get b):C0 c' h' v vs:=by obtain⟨a,e,rfl,hor⟩:=H;refine⟨a,e,rfl,?_⟩;grind
def b4V (v:Value):M (List Value):=M.guard (b2Q v) (a6U 1 v)
theorem Fr.rdSl (v:Value):Fr (b4V v):=Fr.guard _ (Fr.source _ _)
theorem b9S {v s s' vs}(h:b4V v s=some (vs,s')):C0 s.c s.h v vs/\s'.c=s.c/\s'.h=s.h:=by
 obtain⟨h1,h2⟩:=y8 h;cases v with
  |slice a n e=>
   have h3:(match a with|none=>M.guard (Nat.beq n 0)<|M.pure []|some a=>match n with|0=>M.pure []|len+1=>M.guard (Nat.beq e 1)<|loadN a ((len+1)*1)) s=some (vs,s'):=h2;cases a with
    |none=>obtain⟨q1,q2⟩:=y8 h3;obtain⟨rfl,rfl⟩:=j7 q2;obtain rfl:=xS q1;exact⟨⟨none,e,rfl,Or.inl rfl⟩,rfl,rfl⟩|some a=>
     cases n with
      |zero=>obtain⟨rfl,rfl⟩:=j7 h3;exact⟨⟨some a,e,rfl,Or.inl rfl⟩,rfl,rfl⟩|succ n=>
       obtain⟨q1,q2⟩:=y8 h3;have hb:a.block<s.c:=by obtain⟨g,h5,h6⟩:=x8 q2;obtain⟨o,s1,h7,_⟩:=o7 h6;exact(a7T h7).1
       obtain⟨g,cs,cur,ro,e1,e2,e3,e4,e5⟩:=a6N q2;obtain rfl:=xS q1;rw[wI,<-Q8]at e3;have hl:vs.length=n+1:=(a4v g _ _ _ e3).1;obtain⟨b,off,sp⟩:=a;obtain rfl:sp=some g:=e1;refine⟨⟨_,1,by rw[hl],Or.inr ⟨b,off,g,cs,cur,ro,rfl,rfl,hb,e2,by rw[hl];exact e3⟩⟩,e4,e5⟩
  |_=>cases h1
def b1n (k:IntKind)(vs:List Value):Option (List Int):=List.rec (motive:=λ_=>Option (List Int)) (some []) (λv _ ih=>match v with
 |.int k' n=>match Q7 k k' with
  |true=>match ih with|some l=>some (n::l)|none=>none
  |false=>none
 |_=>none) vs
theorem c3R {k}:∀{vs} {l},b1n k vs=some l->vs=l.map (λn=>Value.int k n):=by intro vs;induction vs with|nil=>intro l h;cases h;rfl|cons v vs ih=>grind[b1n,a2t]
end Go.V
namespace Go.V
theorem c7X {c c' h h' v vs}(H:C0 c h v vs)(hc:c<=c')(hh:∀b,b<c->h'.get b=h.get b):∃q:List Nat->List Nat,∀r w,go (b4V v) ⟨c',h',r,w⟩=some (vs,⟨c',h',q r,w⟩):=by obtain⟨a,e,rfl,hor⟩:=H;rcases hor with rfl|⟨b,o,g,cs,cur,ro,rfl,rfl,h1,h2,h3⟩;refine⟨id,λr w=>?_⟩;cases a<;>rfl;cases vs with|nil=>exact⟨id,λr w=>rfl⟩|cons x vs=>refine⟨λr=>b::r,λr w=>?_⟩;show go (M.guard (Nat.beq 1 1) (loadN ⟨b,o,some g⟩ ((vs.length+1)*1))) _=_;rw[I4,F6,V8,A5 zy,hh b h1,h2,O4,wI];rw[xH]at h3;rw[h3];rfl
theorem c5U (k l):b1n k (l.map λn=>Value.int k n)=some l:=by
 induction l with
  |nil=>rfl|cons x l ih=>
   show(match Q7 k k with
    |true=>match b1n k (l.map λn=>Value.int k n)with|some l=>some (x::l)|none=>none
    |false=>none)=_;rw[a4R,ih]
end Go.V
end
section
noncomputable section
namespace Go.V
def b7s {α:Type}(x:Option (α×S))(r w:List Nat):Option ((α×W9)×S):=match x with|none=>none|some y=>some ((y.1,(y.2.r,y.2.w)),⟨y.2.c,y.2.h,m9 y.2.r r,m9 y.2.w w⟩)
theorem b4K {α}(m:M α)(c h r w):go (M.foot m) ⟨c,h,r,w⟩=b7s (go m ⟨c,h,[],[]⟩) r w:=rfl
theorem a9W {α}(a:α)(c h r' w' r w):b7s (some (a,(⟨c,h,r',w'⟩:S))) r w=some ((a,(r',w')),⟨c,h,m9 r' r,m9 w' w⟩):=xK rfl rfl
theorem m8 {α}{x y:Option (α×S)}(r w)(h:x=y):b7s x r w=b7s y r w:=by rw[h]
section
variable {P:Program}{T:Tab}{vs:a0E}
def a4B (q:List Value->Option (List Value))(bs:List Value):M Value:=M.obind (q bs) λcs=>match cs with|[]=>M.pure (.slice none 0 0)|v::cs=>M.bind (M5 (v::cs)) λa=>M.pure (.slice (some a) (j9 cs+1) 1)
theorem d3P (q bs):Fr (a4B q bs):=Fr.obind _ λcs=>by grind[Fr.pure,Fr.bind,Fr.newCells]
theorem c3H (hT:TabOk P T)(hM:P.follows .mixedOrders=true){ext}(hE:a0z P T vs ext){N}{sh}(hs:a5S P T ext N sh){f}{fn}{cd}(hPf:P.funcs[f]?=some fn)(hnum:(fn.name== "runtime.NumGoroutine")=false)(hb:fn.body=some cd){q}(h:∀bs cs,q bs=some cs->A9 plain cs=true/\∀c h r w,∃n,d8 (go (j0 sh n f bs) ⟨c,h,r,w⟩) λx s2=>(∀i,i<c->s2.h.get i=h.get i)/\((cs=[]/\x=.ret (.slice none 0 0))\/(cs≠[]/\∃b g ds,x=.ret (.slice (some ⟨b,0,some g⟩) cs.length 1)/\c<=b/\s2.h.get b=some (.cells ds g false)/\G4 (·.1) ds=cs))):B6 P T vs f (a4B q):=by
 refine b2b hT hM hE hs hPf hnum hb (d3P q) λbs s v s1 hg c' h1 h2 h3=>?_;obtain⟨cs,e,hg'⟩:=x8 hg;obtain⟨hpl,hr⟩:=h bs cs e;obtain⟨n,x,s2,hrun,hold,hor⟩:=hr c' s.h s.r s.w;have hrun':j0 sh n f bs ⟨c',s.h,s.r,s.w⟩=some (x,s2):=hrun;rcases hor with⟨rfl,rfl⟩|⟨hne,b,g,ds,rfl,hb2,hds,hmap⟩;obtain⟨rfl,rfl⟩:=j7 hg';refine⟨n,_,s2,λ_=>none,hrun',⟨λi hi=>Or.inr ⟨rfl,hold i hi.1⟩,λb b2 g2 hm=>(by cases hm),λb hb _=>?_,λb b' x x' hm=>(by cases hm)⟩,.plain rfl,λi _ hi=>hold i hi⟩;exact h3 b (sr λhlt=>hb ⟨hlt,λhx=>zy⟩);cases cs with
  |nil=>simp_all|cons v0 cs0=>
   have hg2:M.bind (M5 (v0::cs0)) (λa=>M.pure (Value.slice (some a) (j9 cs0+1) 1)) s=some (v,s1):=hg';obtain⟨a,s1',q1,q2⟩:=o7 hg2;obtain⟨rfl,rfl⟩:=j7 q2;obtain⟨k1,k2,k3,k4⟩:=a8k q1;have hc1:s1.c=s.c+1:=k3;have hnew:s1.h.get s.c=some (.cells ((v0::cs0).map λv=>(v,0)) 0 false):=by rw[k4,wT rfl]
   have hoth:∀i,i≠s.c->s1.h.get i=s.h.get i:=λi hi=>by rw[k4,wX hi]
   refine⟨n,_,s2,λi=>if i=s.c then some (b,g)else none,hrun',⟨λi hi=>Or.inr ⟨?_,hold i hi.1⟩,λi b2 g2 hm=>?_,λi hi hm=>?_,λi i' x x' hm hm' hx=>?_⟩,?_,λi hi1 hi2=>hold i hi2⟩;exact hoth i (λe=>hi.2 zy);split at hm;rename_i hi;cases hm;subst hi;refine⟨λhx=>hx.2 ⟨xR _,zy⟩,λhx=>by have:=hx.1;omega,_,ds,hnew,hds,?_,λi v w st st' hv hw=>?_⟩;have:=xC List.length hmap;rw[S9]at this;simp_all;rw[wc]at hv;cases hvo:(v0::cs0)[i]? with|none=>rw[hvo]at hv;cases hv|some y=>rw[hvo]at hv;cases hv;refine⟨rfl,?_⟩;rw[<-hmap,S9,wc,hw]at hvo;have ey:w=v:=zr;subst ey;refine .plain ((C9 _ _).1 hpl w ?_);rw[<-hmap,S9];grind
   cases hm;split at hm;cases hm;rename_i hne';rw[hoth i hne'];exact h3 i (sr λhlt=>hi ⟨hlt,λhx=>zy⟩);simp_all;rw[k2,show j9 cs0+1=(v0::cs0).length by rw[y9];rfl];exact .sliceNew (by rw[wT rfl])
end
end Go.V
end
section
noncomputable section
namespace Go.V
open Go.RowKit (Below)
def b1N (l:List UInt8):List UInt8->Bool:=List.rec (motive:=λ_=>List UInt8->Bool) (λ_=>true) (λv _ ih m=>match m with|[]=>false|w::m=>match Nat.beq v.toNat w.toNat with|true=>ih m|false=>false) l
def b0Z (sub s:List UInt8):Bool:=List.rec (motive:=λ_=>Bool) (b1N sub []) (λc s ih=>match b1N sub (c::s)with|true=>true|false=>ih) s
theorem b8O (l):∀m,b1N l m=l.isPrefixOf m:=by
 induction l with
  |nil=>intro m;cases m<;>rfl|cons v l ih=>
   intro m;cases m with
    |nil=>rfl|cons w m=>
     show(match Nat.beq v.toNat w.toNat with|true=>b1N l m|false=>false)=(v==w&&l.isPrefixOf m);have e:Nat.beq v.toNat w.toNat=(v==w):=by rw[Bool.eq_iff_iff];simp_all[sf]
     rw[e,ih];cases v==w<;>simp
def b4E (l:List UInt8)(n:Nat):List UInt8:=Nat.rec (motive:=λ_=>List UInt8) [] (λ_ ih=>m9 l ih) n
def a2l (sep:List UInt8)(xs:List (List UInt8)):List UInt8:=List.rec (motive:=λ_=>List UInt8) [] (λx _ ih=>m9 sep (m9 x ih)) xs
def a2C (sep:List UInt8)(xs:List (List UInt8)):List UInt8:=match xs with|[]=>[]|x::xs=>m9 x (a2l sep xs)
theorem c3y (l n):b4E l n=Lib.repeatL l n:=by induction n with|zero=>rfl|succ n ih=>show m9 l (b4E l n)=_;rw[v8,ih];rfl
theorem b8W (sep xs):a2l sep xs=Lib.joinTail sep xs:=by induction xs with|nil=>rfl|cons x xs ih=>grind[a2l,v8,Lib.joinTail]
theorem b7T (sep xs):a2C sep xs=Lib.join xs sep:=by cases xs with|nil=>rfl|cons x xs=>show m9 x (a2l sep xs)=_;rw[v8,b8W,Lib.join_cons]
theorem b8H (sub s):b0Z sub s=Lib.contains s sub:=by
 unfold Lib.contains;induction s with
  |nil=>show b1N sub []=_;rw[b8O];cases sub with|nil=>rfl|cons a t=>rfl
  |cons c s ih=>show(match b1N sub (c::s)with|true=>true|false=>b0Z sub s)=_;rw[b8O,ih,Lib.index];have hge:=Lib.index_ge s sub;grind
def a8A (bs:List Value):Option Value:=match bs with
 |[.string s,.string sub]=>match Nat.blt (j9 s.data.toList) 4294967281 with|true=>some (.bool (b0Z sub.data.toList s.data.toList))|false=>none
 |_=>none
def b1U (bs:List Value):Option Value:=match bs with
 |[.string s,.int .i64 (.ofNat c)]=>match Nat.blt c 4294967296&&Nat.ble (j9 s.data.toList*c) 4294967296 with|true=>some (.string ⟨⟨b4E s.data.toList c⟩⟩)|false=>none
 |_=>none
def X3 (vs:List Value):Option (List (List UInt8)):=List.rec (motive:=λ_=>Option (List (List UInt8))) (some []) (λv _ ih=>match v with
 |.string s=>match ih with|some l=>some (s.data.toList::l)|none=>none
 |_=>none) vs
theorem a9L:∀(vs) (l),X3 vs=some l->vs=l.map λx=>.string ⟨⟨x⟩⟩:=by
 intro vs;induction vs with
  |nil=>intro l h;cases h;rfl|cons v vs ih=>
   intro l h;cases v with
    |string s=>have h:(match X3 vs with|some l=>some (s.data.toList::l)|none=>none)=some l:=h;cases hs:X3 vs with|none=>rw[hs]at h;cases h|some l'=>rw[hs]at h;cases h;rw[ih l' hs];rfl
    |_=>cases h
def a5I (bs:List Value):M Value:=match bs with
 |[.slice a len es,.string sep]=>match len with|0=>M.pure (.string ⟨⟨[]⟩⟩)|n+1=>M.obind a λa=>M.guard (Nat.beq es 1)<|M.bind (loadN a (n+1)) λvs=>M.obind (X3 vs) λxs=>M.guard (Nat.blt n 4294967295&&Nat.blt (j9 (a2C sep.data.toList xs)) 4294967296)<|M.pure (.string ⟨⟨a2C sep.data.toList xs⟩⟩)
 |_=>M.fail
section
variable {P:Program}{T:Tab}{vs:a0E}
theorem c0X {f:Nat}(hen:∀(aS9) w,(callFunc f aS9).run P w=.ok (.enter f aS9) w)(h0:∀(a) (c) (sep) (w),Calls P f #[.slice a 0 c,.string sep] w λe w'=>e=.returned (.string ⟨#[]⟩)/\w'=w) (h1:∀(bk o c) (xs:List ByteArray) (sep) (w),(∀(j) x,xs[j]?=some x->w.cell? ⟨bk,o+j,none⟩=some (.string x))->bk<w.heap.size->xs.length<=140737488355328->xs.length<=c->(Lib.join (xs.map (·.data.toList)) sep.data.toList).length<=140737488355328->Calls P f #[.slice (some ⟨bk,o,none⟩) xs.length c,.string sep] w λe w'=>e=.returned (.string ⟨(Lib.join (xs.map (·.data.toList)) sep.data.toList).toArray⟩)/\Below w.heap.size w w'):B6 P T vs f a5I:=by
 refine⟨λaS9=>?_,?_⟩;unfold a5I;grind[Fr.pure,Fr.obind,Fr.guard,Fr.bind,Fr.loadN,Fr.fail];intro B0 w0 hL hB aS9 s v s' w K as' h S hG F has;unfold a5I at h;split at h;rename_i a len es sep;obtain⟨x',y',rfl⟩:∃x' y',as'=[x',y']:=by have:=has.len;match as',this with|[x',y'],_=>simp_all
 have ry:y'=.string sep:=(has.at_ 1 _ _ rfl rfl).eq_of_plain rfl;have rx:VR K x' (.slice a len es):=has.at_ 0 _ _ rfl rfl;subst ry;refine Or.inr ⟨hen _ _,?_⟩;split at h;obtain⟨rfl,rfl⟩:=j7 h;have:∃a' c,x'=.slice a' 0 c:=by generalize hz:Value.slice a 0 es=z at rx;cases rx with|plain hp=>grind|slice _ _ _ _ _ _=>simp_all|_=>cases hz
 obtain⟨a',c,rfl⟩:=this;refine(h0 a' c sep w).mono λe w' ⟨q1,q2⟩=>?_;subst q2;exact⟨_,K,q1,Step.same S rfl,.plain rfl⟩;rename_i n;obtain⟨ad,ea,h2⟩:=x8 h;subst ea;obtain⟨hes,h3⟩:=y8 h2;obtain⟨ws,s1,h4,h5⟩:=o7 h3;obtain⟨xs,hx,h6⟩:=x8 h5;obtain⟨hg,h7⟩:=y8 h6;obtain⟨rfl,rfl⟩:=j7 h7;simp only[xM]at hg;obtain⟨g,cs,cur,ro,e1,e2,e3,e4,e5⟩:=a6N h4;have es1:=xS hes;subst es1;have hsl:∃l a' cap,x'=.slice (some a') (n+1) cap/\K ad.block g=some l/\l.lo<=ad.off/\n+1<=cap/\a'=⟨l.blk,l.at_+(ad.off-l.lo),none⟩:=by generalize hz:Value.slice (some ad) (n+1) 1=z at rx;cases rx with|plain hp=>grind[V.plain]| @slice b g' off len cap es l a' hk hlo hes' hcap hsp hor=>cases hz;cases e1;have hcap0:cap≠0:=zy;obtain⟨q1,q2,_⟩:=hor.resolve_left hcap0;obtain⟨ab,ao,asp⟩:=a';grind|_=>cases hz
 obtain⟨l,a',cap,rfl,hk,hlo,hcap,rfl⟩:=hsl;obtain⟨ws',c1,c2,c3⟩:=a6P S hk hlo e2 e3;have hws:=a9L ws xs hx;have hw':ws'=ws:=by
  apply wE;intro i;by_cases hi:i<ws.length;have hi':i<ws'.length:=by rw[c1.len];exact hi
  have r:=c1.at_ i _ _ (xP hi') (xP hi);rw[xP hi',xP hi];have:plain ws[i]=true:=by
   have hm:∀u,u∈ws->plain u=true:=λu hu=>by rw[hws]at hu;obtain⟨y,_,hy⟩:=uy.1 hu;rw[<-hy];rfl
   simp_all
  rw[r.eq_of_plain this];rw[ww (by rw[c1.len];omega),ww zy]
 have hlen:xs.length=n+1:=by rw[<-c2,hws];simp
 have key:=h1 l.blk (l.at_+(ad.off-l.lo)) cap (xs.map λx=>(⟨⟨x⟩⟩:ByteArray)) sep w (λj x hj=>zr) (S.dom _ _ _ hk) (by have:=hg.1;simp at this⊢;omega) zo (by
  have hj:(xs.map λx=>(⟨⟨x⟩⟩:ByteArray)).map (λb=>b.data.toList)=xs:=by rw[vG];exact List.map_id'' (λ_=>rfl) xs
  rw[hj,<-b7T];have:=hg.2;rw[y9]at this;simp at this;omega);have hj:(xs.map λx=>(⟨⟨x⟩⟩:ByteArray)).map (λb=>b.data.toList)=xs:=by rw[vG];exact List.map_id'' (λ_=>rfl) xs
 rw[hj,<-b7T]at key;rw[xF,hlen]at key;refine key.mono λe w' ⟨q1,q2⟩=>?_;refine⟨_,K,q1,⟨KM.le_refl K,λ_ _ _=>rfl,?_⟩,.plain rfl⟩;rw[e5];exact a4h S ⟨q2.os,q2.tape,q2.output,q2.size,q2.block⟩;cases h
end
end Go.V
end
section
noncomputable section
namespace Go.V
variable {c:Nat}{h:Trie VObj}{r w:List Nat}
def apS {γ:Type}(lt:Bool)(ob:Option VObj)(o g len:Nat)(vs:List Value)(k:List (Value×Nat)->Nat->Bool->Option γ):Option γ:=match lt with
 |true=>match ob with
  |some (.cells cs cur ro)=>match !ro&&Nat.ble (o+len) (j9 cs)with
   |true=>match j8 g (z7 cs o) len with|some _=>k (m9 (Q2 cs (o+len)) (G4 (λv=>(v,cur+1)) vs)) cur ro|none=>none
   |false=>none
  |_=>none
 |false=>none
theorem c5X {γ}(cs cur ro o g len vs)(k:List (Value×Nat)->Nat->Bool->Option γ)(e:(!ro&&Nat.ble (o+len) (j9 cs))=true):apS true (some (.cells cs cur ro)) o g len vs k=oS (j8 g (z7 cs o) len) λ_=>k (m9 (Q2 cs (o+len)) (G4 (λv=>(v,cur+1)) vs)) cur ro:=by grind[apS,oS]
theorem s9 {γ lt lt' ob ob'}(o g len vs)(k:List (Value×Nat)->Nat->Bool->Option γ)(h1:lt=lt')(h2:ob=ob'):apS lt ob o g len vs k=apS lt' ob' o g len vs k:=by rw[h1,h2]
theorem b2F {α β}(m)(k:α->M β)(s):M.bind m k s=H7 (go m s) λa=>k a:=by rw[<-B4];rfl
theorem c0N {e}(e1:e.size=1)(e2:Nat.blt e.bytes 4096=true)(ab o g n vs)(hv:vs≠[])(ho:A9 D5 vs=true)(hl:(n+j9 vs)*4<a2J):go (X7 e (.slice (some ⟨ab,o,some g⟩) n 1) vs) ⟨c,h,r,w⟩=apS (Nat.blt ab c) (h.get ab) o g n vs λcs' cur ro=>some (.slice (some ⟨ab,o,some (cur+1)⟩) (n+j9 vs) 1,⟨c,O2 h ab (.cells cs' (cur+1) ro),ab::r,ab::w⟩):=by
 cases vs with
  |nil=>simp_all|cons v vs=>
   have hlen:j9 (v::vs)=j9 vs+1:=rfl;rw[hlen]at hl;have e3:Nat.blt ((n+(j9 vs+1))*4) a2J=true:=by rw[wB];exact hl
   have e4:Nat.beq ((j9 vs+1)/1*1) (j9 vs+1)=true:=by rw[sV,wI];simp_all
   show X7 e _ _ _=_;unfold X7;simp only[a0C,e1,ho,sV,wI,e3,e2,I4,vz,F6];unfold appendAt apS;simp only[r9,e1,wI];rw[b2F];show H7 (rd ab ⟨c,h,r,w⟩) _=_;rw[b1u];cases hb:Nat.blt ab c with
    |false=>rfl|true=>
     cases hob:h.get ab with
      |none=>rfl|some ob=>
       cases ob with
        |cells cs cur ro=>simp only[B2,a3p];cases hro:!ro with|false=>rfl|true=>cases hble:Nat.ble (o+n) (j9 cs)with|false=>rfl|true=>simp only[F6,vz];cases j8 g (z7 cs o) n with|none=>rfl|some _=>simp only[r9,M4];rw[B4];show H7 (wr ab _ _) _=_;rw[b1r,hb,hob];rfl
        |_=>rfl
theorem b6x {e}(e1:e.size=1)(e2:Nat.blt e.bytes 4096=true)(es vs)(hv:vs≠[])(ho:A9 D5 vs=true)(hl:(j9 vs)*4<a2J):go (X7 e (.slice none 0 es) vs) ⟨c,h,r,w⟩=some (.slice (some ⟨c,0,some 0⟩) (j9 vs) 1,⟨c+1,O2 h c (.cells (G4 (λv=>(v,0)) vs) 0 false),r,c::w⟩):=by
 cases vs with
  |nil=>simp_all|cons v vs=>
   have hlen:j9 (v::vs)=j9 vs+1:=rfl;rw[hlen]at hl;have e3:Nat.blt ((0+(j9 vs+1))*4) a2J=true:=by rw[wB,wt];exact hl
   show X7 e _ _ _=_;unfold X7;simp only[a0C,e1,ho,sV,wI,e3,e2,I4,vz,F6];rw[b2F,Y4 (e:=ho),B2];rfl
def apC (n:Nat)(vs:List Value):Bool:=match vs with|[]=>false|v::vs=>A9 D5 (v::vs)&&Nat.blt ((n+j9 (v::vs))*4) 4294967296
theorem b2o (n v vs):apC n (v::vs)=(A9 D5 (v::vs)&&Nat.blt ((n+j9 (v::vs))*4) 4294967296):=xK rfl rfl
theorem c2h {n vs}(h:apC n vs=true):vs≠[]/\A9 D5 vs=true/\(n+j9 vs)*4<a2J:=by cases vs with|nil=>cases h|cons v vs=>rw[b2o,xM,wB]at h;exact⟨zu,h⟩
theorem b2l {e}(e1:e.size=1)(e2:Nat.blt e.bytes 4096=true)(b n es vs)(hv:vs≠[])(hc:apC n vs=false):go (X7 e (.slice b n es) vs) ⟨c,h,r,w⟩=none:=by cases vs with|nil=>simp_all|cons v vs=>show X7 e _ _ _=_;rw[b2o]at hc;have e5:(A9 D5 (v::vs)&&Nat.blt ((n+(j9 vs+1))*4) a2J)=false:=hc;unfold X7;simp only[a0C,e1,sV,wI,e2,I4,vj,uu,e5];rfl
theorem d2k {g cs m vs}(h:j8 g cs (m+1)=some vs):vs≠[]:=by cases cs with|nil=>cases h|cons x cs=>have h':(match Nat.ble x.2 g with|true=>(match j8 g cs m with|some vs=>some (x.1::vs)|none=>none)|false=>none)=some vs:=h;grind
theorem b5S (xb ox gx m):a6U 1 (.slice (some ⟨xb,ox,some gx⟩) (m+1) 1)=loadN ⟨xb,ox,some gx⟩ ((m+1)*1):=xK rfl rfl
theorem c6k (m xb ox gx)(k:List Value->M Value)(k')(hk:∀vs,vs≠[]->go (k vs) ⟨c,h,xb::r,w⟩=k' vs):H7 (ldS (Nat.blt xb c) (h.get xb) ox gx (m+1) λvs=>some (vs,⟨c,h,xb::r,w⟩)) k=ldS (Nat.blt xb c) (h.get xb) ox gx (m+1) k':=by unfold ldS;grind[H7,d2k]
theorem d7u {e}(e1:e.size=1)(e2:Nat.blt e.bytes 4096=true)(ab o g n xb ox gx m):go (a2B e (.slice (some ⟨ab,o,some g⟩) n 1) (.slice (some ⟨xb,ox,some gx⟩) (m+1) 1)) ⟨c,h,r,w⟩=ldS (Nat.blt xb c) (h.get xb) ox gx (m+1) λvs=>bcase (apC n vs) (apS (Nat.blt ab c) (h.get ab) o g n vs λcs' cur ro=>some (.slice (some ⟨ab,o,some (cur+1)⟩) (n+j9 vs) 1,⟨c,O2 h ab (.cells cs' (cur+1) ro),ab::xb::r,ab::w⟩)) none:=by unfold a2B;rw[e1,b5S,wI,B4,V8];refine c6k m xb ox gx _ _ λvs hv=>?_;rw[M4];cases hc:apC n vs with|false=>exact b2l e1 e2 _ n 1 vs hv hc|true=>obtain⟨h1,h2,h3⟩:=c2h hc;exact c0N e1 e2 ab o g n vs h1 h2 h3
theorem c0P {e}(e1:e.size=1)(e2:Nat.blt e.bytes 4096=true)(es xb ox gx m):go (a2B e (.slice none 0 es) (.slice (some ⟨xb,ox,some gx⟩) (m+1) 1)) ⟨c,h,r,w⟩=ldS (Nat.blt xb c) (h.get xb) ox gx (m+1) λvs=>bcase (apC 0 vs) (some (.slice (some ⟨c,0,some 0⟩) (j9 vs) 1,⟨c+1,O2 h c (.cells (G4 (λv=>(v,0)) vs) 0 false),xb::r,c::w⟩)) none:=by unfold a2B;rw[e1,b5S,wI,B4,V8];refine c6k m xb ox gx _ _ λvs hv=>?_;rw[M4];cases hc:apC 0 vs with|false=>exact b2l e1 e2 _ 0 es vs hv hc|true=>obtain⟨h1,h2,h3⟩:=c2h hc;exact b6x e1 e2 es vs h1 h2 (by rw[wt]at h3;exact h3)
theorem b4g {e}(b n es k):go (a2B e (.slice b n es) (.slice none 0 k)) ⟨c,h,r,w⟩=some (.slice b n es,⟨c,h,r,w⟩):=by rfl
theorem c0F {q bs}(e:q bs=some []):go (a4B q bs) ⟨c,h,r,w⟩=some (.slice none 0 0,⟨c,h,r,w⟩):=by show a4B q bs _=_;unfold a4B;rw[e];rfl
theorem b1c {q bs v vs}(e:q bs=some (v::vs))(ho:A9 D5 (v::vs)=true):go (a4B q bs) ⟨c,h,r,w⟩=some (.slice (some ⟨c,0,some 0⟩) (j9 vs+1) 1,⟨c+1,O2 h c (.cells (G4 (λv=>(v,0)) (v::vs)) 0 false),r,c::w⟩):=by show a4B q bs _=_;unfold a4B;rw[e];rw[r9];simp only[];rw[b2F,Y4 (e:=ho),B2];rfl
theorem b1Y:D5 .nilFunc=true:=xK rfl rfl
theorem b0s:(Value.nilFunc).cells.toList=[.nilFunc]:=xK rfl rfl
theorem d5j (c:Nat):Nat.beq c (c+1)=false:=L8 _ _ zy
theorem d5m (c):Nat.beq (c+1) c=false:=L8 _ _ zy
theorem d8Z (c:Nat):Nat.beq c (c+1+1)=false:=L8 _ _ zy
theorem d4n (c):Nat.beq (c+1+1) c=false:=L8 _ _ zy
theorem d7R (c:Nat):Nat.beq c (c+1+1+1)=false:=L8 _ _ zy
theorem d8y (c):Nat.beq (c+1+1+1) c=false:=L8 _ _ zy
theorem d8B (c:Nat):Nat.beq c (c+1+1+1+1)=false:=L8 _ _ zy
theorem d5z (c):Nat.beq (c+1+1+1+1) c=false:=L8 _ _ zy
theorem d4S (c:Nat):Nat.beq c (c+1+1+1+1+1)=false:=L8 _ _ zy
theorem d7Q (c):Nat.beq (c+1+1+1+1+1) c=false:=L8 _ _ zy
theorem d8s (c:Nat):Nat.beq c (c+1+1+1+1+1+1)=false:=L8 _ _ zy
theorem d8b (c):Nat.beq (c+1+1+1+1+1+1) c=false:=L8 _ _ zy
theorem d5a (c:Nat):Nat.beq c (c+1+1+1+1+1+1+1)=false:=L8 _ _ zy
theorem d9f (c):Nat.beq (c+1+1+1+1+1+1+1) c=false:=L8 _ _ zy
theorem d9g (c:Nat):Nat.beq c (c+1+1+1+1+1+1+1+1)=false:=L8 _ _ zy
theorem d8Q (c):Nat.beq (c+1+1+1+1+1+1+1+1) c=false:=L8 _ _ zy
theorem d5p (c:Nat):Nat.beq c (c+1+1+1+1+1+1+1+1+1)=false:=L8 _ _ zy
theorem d5M (c):Nat.beq (c+1+1+1+1+1+1+1+1+1) c=false:=L8 _ _ zy
theorem d0M (c:Nat):Nat.beq c (c+1+1+1+1+1+1+1+1+1+1)=false:=L8 _ _ zy
theorem d1n (c):Nat.beq (c+1+1+1+1+1+1+1+1+1+1) c=false:=L8 _ _ zy
theorem d1i (c:Nat):Nat.beq c (c+1+1+1+1+1+1+1+1+1+1+1)=false:=L8 _ _ zy
theorem d1g (c):Nat.beq (c+1+1+1+1+1+1+1+1+1+1+1) c=false:=L8 _ _ zy
theorem d1N (c:Nat):Nat.beq c (c+1+1+1+1+1+1+1+1+1+1+1+1)=false:=L8 _ _ zy
theorem d0N (c):Nat.beq (c+1+1+1+1+1+1+1+1+1+1+1+1) c=false:=L8 _ _ zy
theorem d1e (c:Nat):Nat.beq c (c+1+1+1+1+1+1+1+1+1+1+1+1+1)=false:=L8 _ _ zy
theorem d1o (c):Nat.beq (c+1+1+1+1+1+1+1+1+1+1+1+1+1) c=false:=L8 _ _ zy
theorem d1J (c:Nat):Nat.beq c (c+1+1+1+1+1+1+1+1+1+1+1+1+1+1)=false:=L8 _ _ zy
theorem d0T (c):Nat.beq (c+1+1+1+1+1+1+1+1+1+1+1+1+1+1) c=false:=L8 _ _ zy
theorem c4y:X3 []=some []:=xK rfl rfl
theorem b2e (s vs):X3 (.string s::vs)=oS (X3 vs) λl=>some (s.data.toList::l):=by grind[X3,oS]
theorem b4d (sep x l):a2C sep (x::l)=m9 x (a2l sep l):=xK rfl rfl
theorem b0X (sep):a2l sep []=[]:=xK rfl rfl
theorem a7g (sep x l):a2l sep (x::l)=m9 sep (m9 x (a2l sep l)):=xK rfl rfl
theorem b8f (b o g n sep):go (a5I [.slice (some ⟨b,o,some g⟩) (n+1) 1,.string sep]) ⟨c,h,r,w⟩=ldS (Nat.blt b c) (h.get b) o g (n+1) λvs=>oS (X3 vs) λxs=>bcase (Nat.blt n 4294967295&&Nat.blt (j9 (a2C sep.data.toList xs)) 4294967296) (some (.string ⟨⟨a2C sep.data.toList xs⟩⟩,⟨c,h,b::r,w⟩)) none:=by show go (M.bind (loadN ⟨b,o,some g⟩ (n+1)) λvs=>M.obind (X3 vs) λxs=>M.guard (Nat.blt n 4294967295&&Nat.blt (j9 (a2C sep.data.toList xs)) 4294967296)<|M.pure (Value.string ⟨⟨a2C sep.data.toList xs⟩⟩)) _=_;rw[B4,V8];refine(b5m _ _ _ _ _ _ (λx=>H7 x λvs=>M.obind (X3 vs) λxs=>M.guard (Nat.blt n 4294967295&&Nat.blt (j9 (a2C sep.data.toList xs)) 4294967296)<|M.pure (Value.string ⟨⟨a2C sep.data.toList xs⟩⟩)) rfl).trans ?_;congr 1;funext vs;show go (M.obind (X3 vs) λxs=>M.guard (Nat.blt n 4294967295&&Nat.blt (j9 (a2C sep.data.toList xs)) 4294967296)<|M.pure (Value.string ⟨⟨a2C sep.data.toList xs⟩⟩)) _=_;cases X3 vs with|none=>rfl|some xs=>rw[r9,U8];cases Nat.blt n 4294967295&&Nat.blt (j9 (a2C sep.data.toList xs)) 4294967296<;>rfl
theorem b8l (f:Nat)(a b vs):a9a (.func (.func f) a b) vs=some (f,m9 a.toList (m9 vs b.toList)):=xK rfl rfl
end Go.V
end
section
namespace Go.V
theorem dy {p:Prop}(h:p:=by first|assumption|omega|(simp only[d5j,d5m,d8Z,d4n,d7R,d8y,d8B,d5z,d4S,d7Q,d8s,d8b,d5a,d9f,d9g,d8Q,d5p,d5M,d0M,d1n,d1i,d1g,d1N,d0N,d1e,d1o,d1J,d0T,b1Y,b0s,Nat.reduceMul,Nat.reduceLT,I7,a5d,a7G,a6s,a3n,a5l,a3v,a6o,a0l,vt,ut,uu,vj,vz,W3,a4W,wt,Nat.reduceAdd,I4,a4X,Nat.reduceBEq,E8,E6,a5s,a1I,a4r,a2A,a1Z,a3f,a0w,a1E,b3B,b3k,b4b,b8Q,b8S,a4f,a3g,a8G,a2e,a3t,J4,a7U,a6R,a1s,IntKind.bits,P1,a2w,a2T]<;>omega)):p:=h
theorem dx {p:Prop}(h:p:=by first|assumption|omega|(simp only[I7,a5d,a7G,a6s,a3n,a5l,a3v,a6o,a0l,vt,ut,uu,vj,vz,W3,a4W,wt,Nat.reduceAdd,I4,a4X,Nat.reduceBEq,E8,E6,a5s,a1I,a4r,a2A,a1Z,a3f,a0w,a1E,b3B,b3k,b4b,b8Q,b8S,a4f,a3g,a8G,a2e,a3t,J4,a7U,a6R,a1s,IntKind.bits,P1,a2w,a2T]<;>omega)):p:=h
abbrev gD:=And.intro @xF.{0,0}<|And.intro @vU<|And.intro @o9<|And.intro @m7<|And.intro @b3B<|And.intro @b3k<|And.intro @b4b<|And.intro @ut<|And.intro @b8l<|And.intro @W3<|And.intro @a4W<|And.intro @A5<|And.intro @c5X<|And.intro @b2o<|And.intro @c1Z<|And.intro @b5l<|And.intro @c4y<|And.intro @b2e<|And.intro @b4d<|And.intro @b0X<|And.intro @a7g<|And.intro @b8f<|And.intro @E9<|And.intro @I1<|And.intro @J2<|And.intro @a4Z<|And.intro @B4<|And.intro @B2<|And.intro @N2<|And.intro @A4<|And.intro @O3<|And.intro @D6<|And.intro @a8D<|And.intro @a2w<|And.intro @a2T<|And.intro @J9<|And.intro @K7<|And.intro @B5<|And.intro @w9<|And.intro @V.e3y<|And.intro @r9<|And.intro @F6<|And.intro @G0<|And.intro @a4V<|And.intro @F9<|And.intro @a3z<|And.intro @a9w<|And.intro @a1I<|And.intro @a2A<|And.intro @a3f<|And.intro @a6O<|And.intro @a7C<|And.intro @a9A<|And.intro @a5Q<|And.intro @a4U<|And.intro @I7<|And.intro @a5d<|And.intro @a3n<|And.intro @vz<|And.intro @a1t<|And.intro @a1f<|And.intro @a2W<|And.intro @a3U<|And.intro @a8g<|And.intro @a4n<|And.intro @O4<|And.intro @U8<|And.intro @a2V<|And.intro @d9<|And.intro @c9<|And.intro @a1z<|And.intro @a2z<|And.intro @J7<|And.intro @a5j<|And.intro @W5<|And.intro @I6<|And.intro @wt<|And.intro @wV<|And.intro @a2h<|And.intro @a0e<|And.intro @a0u<|And.intro @b4K<|And.intro @a9W<|And.intro @B1<| @vt
end Go.V
end
section
namespace Go.Proofs.YtmomonnlmbljoaaGreatDoor
open Go.V Go.RowKit Go.Shelf Go.Proofs
variable {mL:Int}
noncomputable def a7X (i:TypeInfo)(u:TypeDesc):TI:=⟨u,i.size,i.bytes,i.zero.getD undef⟩
noncomputable abbrev T_ (i:TypeInfo):TI:=a7X i i.desc
noncomputable abbrev U_ (i j:TypeInfo):TI:=a7X i j.desc
abbrev n_ {α:Type}(x:α)(l r:Trie α):Trie α:=.node (some x) l r
abbrev e_ {α:Type}(x:α):Trie α:=n_ x .leaf .leaf
noncomputable def ti3:TI:=a7X Tryz.t3 Tryz.t3.desc
noncomputable def ti9:TI:=a7X Tryz.t9 Tryz.t9.desc
noncomputable def c8E:TI:=a7X Tryz.t26 Tryz.t25.desc
noncomputable def b1i:TI:=a7X Tryz.t30 Tryz.t29.desc
noncomputable def b6O:TI:=a7X Tryz.t119 Tryz.t118.desc
noncomputable def b3s:TI:=a7X Tryz.t127 Tryz.t126.desc
noncomputable def d0K:TI:=a7X Tryz.t142 Tryz.t141.desc
noncomputable def b4i:TI:=a7X Tryz.t160 Tryz.t159.desc
noncomputable def b3y:TI:=a7X Tryz.t175 Tryz.t174.desc
noncomputable def c9t:Trie TI:=n_ (T_ Tryz.t0) (n_ (T_ Tryz.t1) (n_ ti3 (n_ (T_ Tryz.t7) (n_ (T_ Tryz.t15) (n_ (T_ Tryz.t31) (n_ (T_ Tryz.t63) (n_ b3s (e_ (T_ Tryz.t255)) .leaf) (e_ (T_ Tryz.t191))) (n_ (T_ Tryz.t95) (e_ (T_ Tryz.t159)) (e_ (T_ Tryz.t223)))) (n_ (T_ Tryz.t47) (n_ (T_ Tryz.t79) (n_ (T_ Tryz.t143) (e_ (T_ Tryz.t271)) .leaf) (e_ (T_ Tryz.t207))) (n_ (T_ Tryz.t111) (e_ b3y) (e_ (T_ Tryz.t239))))) (n_ (T_ Tryz.t23) (n_ (T_ Tryz.t39) (n_ (T_ Tryz.t71) (n_ (T_ Tryz.t135) (e_ (T_ Tryz.t263)) .leaf) (e_ (T_ Tryz.t199))) (n_ (T_ Tryz.t103) (e_ (T_ Tryz.t167)) (e_ (T_ Tryz.t231)))) (n_ (T_ Tryz.t55) (n_ (T_ Tryz.t87) (n_ (U_ Tryz.t151 Tryz.t150) (e_ (U_ Tryz.t279 Tryz.t5)) .leaf) (e_ (T_ Tryz.t215))) (n_ b6O (e_ (T_ Tryz.t183)) (e_ (T_ Tryz.t247)))))) (n_ (U_ Tryz.t11 Tryz.t9) (n_ (U_ Tryz.t19 Tryz.t18) (n_ (T_ Tryz.t35) (n_ (T_ Tryz.t67) (n_ (T_ Tryz.t131) (e_ (U_ Tryz.t259 Tryz.t258)) .leaf) (e_ (T_ Tryz.t195))) (n_ (T_ Tryz.t99) (e_ (T_ Tryz.t163)) (e_ (T_ Tryz.t227)))) (n_ (T_ Tryz.t51) (n_ (T_ Tryz.t83) (n_ (T_ Tryz.t147) (e_ (T_ Tryz.t275)) .leaf) (e_ (T_ Tryz.t211))) (n_ (T_ Tryz.t115) (e_ (T_ Tryz.t179)) (e_ (T_ Tryz.t243))))) (n_ (T_ Tryz.t27) (n_ (T_ Tryz.t43) (n_ (T_ Tryz.t75) (n_ (T_ Tryz.t139) (e_ (T_ Tryz.t267)) .leaf) (e_ (T_ Tryz.t203))) (n_ (T_ Tryz.t107) (e_ (U_ Tryz.t171 Tryz.t170)) (e_ (T_ Tryz.t235)))) (n_ (T_ Tryz.t59) (n_ (T_ Tryz.t91) (n_ (T_ Tryz.t155) (e_ (T_ Tryz.t283)) .leaf) (e_ (T_ Tryz.t219))) (n_ (T_ Tryz.t123) (e_ (T_ Tryz.t187)) (e_ (T_ Tryz.t251))))))) (n_ (T_ Tryz.t5) (n_ ti9 (n_ (T_ Tryz.t17) (n_ (T_ Tryz.t33) (n_ (T_ Tryz.t65) (n_ (U_ Tryz.t129 Tryz.t128) (e_ (T_ Tryz.t257)) .leaf) (e_ (T_ Tryz.t193))) (n_ (U_ Tryz.t97 Tryz.t96) (e_ (T_ Tryz.t161)) (e_ (T_ Tryz.t225)))) (n_ (T_ Tryz.t49) (n_ (T_ Tryz.t81) (n_ (T_ Tryz.t145) (e_ (T_ Tryz.t273)) .leaf) (e_ (T_ Tryz.t209))) (n_ (T_ Tryz.t113) (e_ (T_ Tryz.t177)) (e_ (T_ Tryz.t241))))) (n_ (T_ Tryz.t25) (n_ (U_ Tryz.t41 Tryz.t3) (n_ (T_ Tryz.t73) (n_ (U_ Tryz.t137 Tryz.t136) (e_ (U_ Tryz.t265 Tryz.t264)) .leaf) (e_ (T_ Tryz.t201))) (n_ (U_ Tryz.t105 Tryz.t104) (e_ (T_ Tryz.t169)) (e_ (T_ Tryz.t233)))) (n_ (T_ Tryz.t57) (n_ (T_ Tryz.t89) (n_ (U_ Tryz.t153 Tryz.t152) (e_ (U_ Tryz.t281 Tryz.t21)) .leaf) (e_ (T_ Tryz.t217))) (n_ (T_ Tryz.t121) (e_ (T_ Tryz.t185)) (e_ (T_ Tryz.t249)))))) (n_ (T_ Tryz.t13) (n_ (T_ Tryz.t21) (n_ (T_ Tryz.t37) (n_ (T_ Tryz.t69) (n_ (T_ Tryz.t133) (e_ (T_ Tryz.t261)) .leaf) (e_ (T_ Tryz.t197))) (n_ (T_ Tryz.t101) (e_ (T_ Tryz.t165)) (e_ (T_ Tryz.t229)))) (n_ (T_ Tryz.t53) (n_ (T_ Tryz.t85) (n_ (T_ Tryz.t149) (e_ (U_ Tryz.t277 Tryz.t276)) .leaf) (e_ (T_ Tryz.t213))) (n_ (U_ Tryz.t117 Tryz.t3) (e_ (T_ Tryz.t181)) (e_ (U_ Tryz.t245 Tryz.t244))))) (n_ (T_ Tryz.t29) (n_ (T_ Tryz.t45) (n_ (T_ Tryz.t77) (n_ (T_ Tryz.t141) (e_ (T_ Tryz.t269)) .leaf) (e_ (T_ Tryz.t205))) (n_ (T_ Tryz.t109) (e_ (T_ Tryz.t173)) (e_ (T_ Tryz.t237)))) (n_ (T_ Tryz.t61) (n_ (T_ Tryz.t93) (e_ (T_ Tryz.t157)) (e_ (T_ Tryz.t221))) (n_ (T_ Tryz.t125) (e_ (T_ Tryz.t189)) (e_ (T_ Tryz.t253)))))))) (n_ (T_ Tryz.t2) (n_ (T_ Tryz.t4) (n_ (U_ Tryz.t8 Tryz.t7) (n_ (T_ Tryz.t16) (n_ (T_ Tryz.t32) (n_ (T_ Tryz.t64) (n_ (T_ Tryz.t128) (e_ (T_ Tryz.t256)) .leaf) (e_ (T_ Tryz.t192))) (n_ (T_ Tryz.t96) (e_ b4i) (e_ (T_ Tryz.t224)))) (n_ (T_ Tryz.t48) (n_ (T_ Tryz.t80) (n_ (T_ Tryz.t144) (e_ (T_ Tryz.t272)) .leaf) (e_ (T_ Tryz.t208))) (n_ (T_ Tryz.t112) (e_ (T_ Tryz.t176)) (e_ (T_ Tryz.t240))))) (n_ (U_ Tryz.t24 Tryz.t3) (n_ (T_ Tryz.t40) (n_ (T_ Tryz.t72) (n_ (T_ Tryz.t136) (e_ (T_ Tryz.t264)) .leaf) (e_ (T_ Tryz.t200))) (n_ (T_ Tryz.t104) (e_ (T_ Tryz.t168)) (e_ (T_ Tryz.t232)))) (n_ (T_ Tryz.t56) (n_ (T_ Tryz.t88) (n_ (T_ Tryz.t152) (e_ (T_ Tryz.t280)) .leaf) (e_ (T_ Tryz.t216))) (n_ (T_ Tryz.t120) (e_ (T_ Tryz.t184)) (e_ (T_ Tryz.t248)))))) (n_ (T_ Tryz.t12) (n_ (T_ Tryz.t20) (n_ (T_ Tryz.t36) (n_ (T_ Tryz.t68) (n_ (T_ Tryz.t132) (e_ (T_ Tryz.t260)) .leaf) (e_ (T_ Tryz.t196))) (n_ (T_ Tryz.t100) (e_ (T_ Tryz.t164)) (e_ (T_ Tryz.t228)))) (n_ (T_ Tryz.t52) (n_ (T_ Tryz.t84) (n_ (T_ Tryz.t148) (e_ (T_ Tryz.t276)) .leaf) (e_ (T_ Tryz.t212))) (n_ (U_ Tryz.t116 Tryz.t115) (e_ (U_ Tryz.t180 Tryz.t179)) (e_ (T_ Tryz.t244))))) (n_ (T_ Tryz.t28) (n_ (T_ Tryz.t44) (n_ (U_ Tryz.t76 Tryz.t3) (n_ (T_ Tryz.t140) (e_ (T_ Tryz.t268)) .leaf) (e_ (T_ Tryz.t204))) (n_ (T_ Tryz.t108) (e_ (T_ Tryz.t172)) (e_ (T_ Tryz.t236)))) (n_ (U_ Tryz.t60 Tryz.t59) (n_ (U_ Tryz.t92 Tryz.t91) (n_ (T_ Tryz.t156) (e_ (U_ Tryz.t284 Tryz.t283)) .leaf) (e_ (T_ Tryz.t220))) (n_ (T_ Tryz.t124) (e_ (T_ Tryz.t188)) (e_ (T_ Tryz.t252))))))) (n_ (U_ Tryz.t6 Tryz.t5) (n_ (U_ Tryz.t10 Tryz.t9) (n_ (T_ Tryz.t18) (n_ (T_ Tryz.t34) (n_ (T_ Tryz.t66) (n_ (T_ Tryz.t130) (e_ (T_ Tryz.t258)) .leaf) (e_ (T_ Tryz.t194))) (n_ (T_ Tryz.t98) (e_ (T_ Tryz.t162)) (e_ (T_ Tryz.t226)))) (n_ (T_ Tryz.t50) (n_ (T_ Tryz.t82) (n_ (T_ Tryz.t146) (e_ (U_ Tryz.t274 Tryz.t273)) .leaf) (e_ (T_ Tryz.t210))) (n_ (T_ Tryz.t114) (e_ (T_ Tryz.t178)) (e_ (T_ Tryz.t242))))) (n_ c8E (n_ (T_ Tryz.t42) (n_ (T_ Tryz.t74) (n_ (T_ Tryz.t138) (e_ (T_ Tryz.t266)) .leaf) (e_ (T_ Tryz.t202))) (n_ (T_ Tryz.t106) (e_ (T_ Tryz.t170)) (e_ (T_ Tryz.t234)))) (n_ (T_ Tryz.t58) (n_ (T_ Tryz.t90) (n_ (T_ Tryz.t154) (e_ (U_ Tryz.t282 Tryz.t21)) .leaf) (e_ (T_ Tryz.t218))) (n_ (T_ Tryz.t122) (e_ (T_ Tryz.t186)) (e_ (T_ Tryz.t250)))))) (n_ (U_ Tryz.t14 Tryz.t13) (n_ (U_ Tryz.t22 Tryz.t3) (n_ (T_ Tryz.t38) (n_ (T_ Tryz.t70) (n_ (T_ Tryz.t134) (e_ (U_ Tryz.t262 Tryz.t261)) .leaf) (e_ (T_ Tryz.t198))) (n_ (T_ Tryz.t102) (e_ (U_ Tryz.t166 Tryz.t165)) (e_ (T_ Tryz.t230)))) (n_ (U_ Tryz.t54 Tryz.t53) (n_ (T_ Tryz.t86) (n_ (T_ Tryz.t150) (e_ (U_ Tryz.t278 Tryz.t5)) .leaf) (e_ (T_ Tryz.t214))) (n_ (T_ Tryz.t118) (e_ (U_ Tryz.t182 Tryz.t181)) (e_ (T_ Tryz.t246))))) (n_ b1i (n_ (T_ Tryz.t46) (n_ (T_ Tryz.t78) (n_ d0K (e_ (T_ Tryz.t270)) .leaf) (e_ (T_ Tryz.t206))) (n_ (T_ Tryz.t110) (e_ (T_ Tryz.t174)) (e_ (T_ Tryz.t238)))) (n_ (T_ Tryz.t62) (n_ (T_ Tryz.t94) (e_ (T_ Tryz.t158)) (e_ (T_ Tryz.t222))) (n_ (T_ Tryz.t126) (e_ (U_ Tryz.t190 Tryz.t189)) (e_ (T_ Tryz.t254))))))))
noncomputable def d0s:Trie Func:=n_ Tryz.f0 (n_ Tryz.f1 (n_ Tryz.f3 (n_ Tryz.f7 (n_ Tryz.f15 (n_ Tryz.f31 (n_ Tryz.f63 (e_ Tryz.f127) (e_ Tryz.f191)) (n_ Tryz.f95 (e_ Tryz.f159) (e_ Tryz.f223))) (n_ Tryz.f47 (n_ Tryz.f79 (e_ Tryz.f143) (e_ Tryz.f207)) (n_ Tryz.f111 (e_ Tryz.f175) (e_ Tryz.f239)))) (n_ Tryz.f23 (n_ Tryz.f39 (n_ Tryz.f71 (e_ Tryz.f135) (e_ Tryz.f199)) (n_ Tryz.f103 (e_ Tryz.f167) (e_ Tryz.f231))) (n_ Tryz.f55 (n_ Tryz.f87 (e_ Tryz.f151) (e_ Tryz.f215)) (n_ Tryz.f119 (e_ Tryz.f183) (e_ Tryz.f247))))) (n_ Tryz.f11 (n_ Tryz.f19 (n_ Tryz.f35 (n_ Tryz.f67 (e_ Tryz.f131) (e_ Tryz.f195)) (n_ Tryz.f99 (e_ Tryz.f163) (e_ Tryz.f227))) (n_ Tryz.f51 (n_ Tryz.f83 (e_ Tryz.f147) (e_ Tryz.f211)) (n_ Tryz.f115 (e_ Tryz.f179) (e_ Tryz.f243)))) (n_ Tryz.f27 (n_ Tryz.f43 (n_ Tryz.f75 (e_ Tryz.f139) (e_ Tryz.f203)) (n_ Tryz.f107 (e_ Tryz.f171) (e_ Tryz.f235))) (n_ Tryz.f59 (n_ Tryz.f91 (e_ Tryz.f155) (e_ Tryz.f219)) (n_ Tryz.f123 (e_ Tryz.f187) .leaf))))) (n_ Tryz.f5 (n_ Tryz.f9 (n_ Tryz.f17 (n_ Tryz.f33 (n_ Tryz.f65 (e_ Tryz.f129) (e_ Tryz.f193)) (n_ Tryz.f97 (e_ Tryz.f161) (e_ Tryz.f225))) (n_ Tryz.f49 (n_ Tryz.f81 (e_ Tryz.f145) (e_ Tryz.f209)) (n_ Tryz.f113 (e_ Tryz.f177) (e_ Tryz.f241)))) (n_ Tryz.f25 (n_ Tryz.f41 (n_ Tryz.f73 (e_ Tryz.f137) (e_ Tryz.f201)) (n_ Tryz.f105 (e_ Tryz.f169) (e_ Tryz.f233))) (n_ Tryz.f57 (n_ Tryz.f89 (e_ Tryz.f153) (e_ Tryz.f217)) (n_ Tryz.f121 (e_ Tryz.f185) .leaf)))) (n_ Tryz.f13 (n_ Tryz.f21 (n_ Tryz.f37 (n_ Tryz.f69 (e_ Tryz.f133) (e_ Tryz.f197)) (n_ Tryz.f101 (e_ Tryz.f165) (e_ Tryz.f229))) (n_ Tryz.f53 (n_ Tryz.f85 (e_ Tryz.f149) (e_ Tryz.f213)) (n_ Tryz.f117 (e_ Tryz.f181) (e_ Tryz.f245)))) (n_ Tryz.f29 (n_ Tryz.f45 (n_ Tryz.f77 (e_ Tryz.f141) (e_ Tryz.f205)) (n_ Tryz.f109 (e_ Tryz.f173) (e_ Tryz.f237))) (n_ Tryz.f61 (n_ Tryz.f93 (e_ Tryz.f157) (e_ Tryz.f221)) (n_ Tryz.f125 (e_ Tryz.f189) .leaf)))))) (n_ Tryz.f2 (n_ Tryz.f4 (n_ Tryz.f8 (n_ Tryz.f16 (n_ Tryz.f32 (n_ Tryz.f64 (e_ Tryz.f128) (e_ Tryz.f192)) (n_ Tryz.f96 (e_ Tryz.f160) (e_ Tryz.f224))) (n_ Tryz.f48 (n_ Tryz.f80 (e_ Tryz.f144) (e_ Tryz.f208)) (n_ Tryz.f112 (e_ Tryz.f176) (e_ Tryz.f240)))) (n_ Tryz.f24 (n_ Tryz.f40 (n_ Tryz.f72 (e_ Tryz.f136) (e_ Tryz.f200)) (n_ Tryz.f104 (e_ Tryz.f168) (e_ Tryz.f232))) (n_ Tryz.f56 (n_ Tryz.f88 (e_ Tryz.f152) (e_ Tryz.f216)) (n_ Tryz.f120 (e_ Tryz.f184) (e_ Tryz.f248))))) (n_ Tryz.f12 (n_ Tryz.f20 (n_ Tryz.f36 (n_ Tryz.f68 (e_ Tryz.f132) (e_ Tryz.f196)) (n_ Tryz.f100 (e_ Tryz.f164) (e_ Tryz.f228))) (n_ Tryz.f52 (n_ Tryz.f84 (e_ Tryz.f148) (e_ Tryz.f212)) (n_ Tryz.f116 (e_ Tryz.f180) (e_ Tryz.f244)))) (n_ Tryz.f28 (n_ Tryz.f44 (n_ Tryz.f76 (e_ Tryz.f140) (e_ Tryz.f204)) (n_ Tryz.f108 (e_ Tryz.f172) (e_ Tryz.f236))) (n_ Tryz.f60 (n_ Tryz.f92 (e_ Tryz.f156) (e_ Tryz.f220)) (n_ Tryz.f124 (e_ Tryz.f188) .leaf))))) (n_ Tryz.f6 (n_ Tryz.f10 (n_ Tryz.f18 (n_ Tryz.f34 (n_ Tryz.f66 (e_ Tryz.f130) (e_ Tryz.f194)) (n_ Tryz.f98 (e_ Tryz.f162) (e_ Tryz.f226))) (n_ Tryz.f50 (n_ Tryz.f82 (e_ Tryz.f146) (e_ Tryz.f210)) (n_ Tryz.f114 (e_ Tryz.f178) (e_ Tryz.f242)))) (n_ Tryz.f26 (n_ Tryz.f42 (n_ Tryz.f74 (e_ Tryz.f138) (e_ Tryz.f202)) (n_ Tryz.f106 (e_ Tryz.f170) (e_ Tryz.f234))) (n_ Tryz.f58 (n_ Tryz.f90 (e_ Tryz.f154) (e_ Tryz.f218)) (n_ Tryz.f122 (e_ Tryz.f186) .leaf)))) (n_ Tryz.f14 (n_ Tryz.f22 (n_ Tryz.f38 (n_ Tryz.f70 (e_ Tryz.f134) (e_ Tryz.f198)) (n_ Tryz.f102 (e_ Tryz.f166) (e_ Tryz.f230))) (n_ Tryz.f54 (n_ Tryz.f86 (e_ Tryz.f150) (e_ Tryz.f214)) (n_ Tryz.f118 (e_ Tryz.f182) (e_ Tryz.f246)))) (n_ Tryz.f30 (n_ Tryz.f46 (n_ Tryz.f78 (e_ Tryz.f142) (e_ Tryz.f206)) (n_ Tryz.f110 (e_ Tryz.f174) (e_ Tryz.f238))) (n_ Tryz.f62 (n_ Tryz.f94 (e_ Tryz.f158) (e_ Tryz.f222)) (n_ Tryz.f126 (e_ Tryz.f190) .leaf))))))
noncomputable def tab:Tab:=⟨c9t,d0s,7⟩
set_option maxRecDepth 100000
theorem J6:TabOk Tryz.prog tab:=d0j zw zw zw zw
theorem D7:Tryz.prog.follows .mixedOrders=true:=zw
end Go.Proofs.YtmomonnlmbljoaaGreatDoor
end
