import Derived.Test.YtmomonnlmbljoaaGreatDoorProg
import Derived.Test.YtmomonnlmbljoaaGreatDoorBah
import Derived.Test.YtmomonnlmbljoaaGreatDoorBai
import Derived.Test.YtmomonnlmbljoaaGreatDoorBaj
set_option maxRecDepth 1000000
set_option maxHeartbeats 4000000
set_option linter.unusedVariables false
set_option linter.unusedSimpArgs false
section
noncomputable section
namespace Go.V
section
variable (p:Program)(T:Tab)
theorem b1M {op t x y k n m v}(h1:a5h op k n m=none)(h2:b4q op k (.ofNat n) (.ofNat m)=none)(h3:b9z op k n m=some v):a0M p T op t x y (.int k (.ofNat n)) (.int k (.ofNat m))=M.pure v:=by
 have hk:a0C k k=true:=by cases k<;>rfl
 have:a3k op k k (.ofNat n) (.ofNat m)=some v:=by grind[a3k,a6d]
 grind[a0M]
theorem b0l (k n)(h:n<a3p k):Q0 k (.ofNat n)=.ofNat n:=by grind[Q0,I7]
theorem b4L (t x y k n m)(h:n<a3p k):a0M p T .quo t x y (.int k (.ofNat n)) (.int k (.ofNat (m+1)))=M.pure (.int k (.ofNat (n/(m+1)))):=by refine b1M p T rfl rfl ?_;show some (Value.int k (Q0 k (.ofNat (n/(m+1)))))=_;rw[b0l _ _ (uR (nZ _ _) h)]
theorem b5d (t x y k n m):a0M p T .rem t x y (.int k (.ofNat n)) (.int k (.ofNat (m+1)))=M.pure (.int k (.ofNat (n%(m+1)))):=b1M p T rfl rfl rfl
theorem b1K (t x y k n m)(hk:a3p k=2^k.bits)(h1:n<a3p k)(h2:m<a3p k):a0M p T .and t x y (.int k (.ofNat n)) (.int k (.ofNat m))=M.pure (.int k (.ofNat (Nat.land n m))):=by refine b1M p T rfl rfl ?_;show some (Value.int k (Q0 k (.ofNat (Nat.land (Nat.mod n (Nat.pow 2 k.bits)) (Nat.mod m (Nat.pow 2 k.bits))))))=_;have e1:Nat.mod n (Nat.pow 2 k.bits)=n:=uF (by rw[<-show(2:Nat)^k.bits=Nat.pow 2 k.bits from rfl,<-hk];exact h1);have e2:Nat.mod m (Nat.pow 2 k.bits)=m:=uF (by rw[<-show(2:Nat)^k.bits=Nat.pow 2 k.bits from rfl,<-hk];exact h2);rw[e1,e2,b0l];exact uR Nat.and_le_left h1
theorem a7n (t x y k k' n m)(h:m<=k.bits):a0M p T .shl t x y (.int k (.ofNat n)) (.int k' (.ofNat m))=M.pure (.int k (Q0 k (.ofNat (n*2^m)))):=by
 have e:a3k .shl k k' (.ofNat n) (.ofNat m)=some (.int k (Q0 k (.ofNat (n*2^m)))):=by
  have e1:a5h .shl k n m=some (.int k (Q0 k (.ofNat (n*2^m)))):=by show some (Value.int k (Q0 k (.ofNat (Nat.mul n (Nat.pow 2 (b0N k m))))))=_;simp_all[b0N,a1l]
  grind[a3k,a6d]
 grind[a0M]
theorem e0N (k k' z m)(h:m<=k.bits):a0J p (Op.shift .shr k z k' (.ofNat m))=some (.int k (z.fdiv (2^m))):=by unfold Op.shift;rw[vN zn];simp only[vz,Int.toNat_natCast,nY h];rfl
theorem Q3 (t x y k k' z m)(h:m<=k.bits):a0M p T .shr t x y (.int k z) (.int k' (.ofNat m))=M.pure (.int k (z.fdiv (2^m))):=by
 cases z with
  |ofNat n=>
   have e:a3k .shr k k' (.ofNat n) (.ofNat m)=some (.int k (.ofNat (n/2^m))):=by
    have e1:a5h .shr k n m=some (.int k (.ofNat (n/2^m))):=by show some (Value.int k (.ofNat (Nat.div n (Nat.pow 2 (b0N k m)))))=_;unfold b0N;rw[a1l h];rfl
    grind[a3k,a6d]
   grind[a0M]|negSucc n=>
   have e:a3k .shr k k' (.negSucc n) (.ofNat m)=none:=by unfold a3k;show(match a0C k k' with|true=>_|false=>none)=none;cases a0C k k'<;>rfl
   unfold a0M;simp only[e];have hn:b1q T .shr t x y (.int k (.negSucc n)) (.int k' (.ofNat m))=none:=rfl;unfold a9z;rw[hn];simp only[show K9 8 (Value.int k (.negSucc n))=true from rfl,show K9 8 (Value.int k' (.ofNat m))=true from rfl,uf,P8];have k2:a0J p (do eqGuard .shr t x y (.int k (.negSucc n)) (.int k' (.ofNat m));binOp .shr t (.int k (.negSucc n)) (.int k' (.ofNat m)))=some (.int k ((Int.negSucc n).fdiv (2^m))):=by rw[a3c];have:a0J p (eqGuard .shr t x y (.int k (.negSucc n)) (.int k' (.ofNat m)))=some ():=rfl;rw[this];exact e0N p k k' _ m h
   rw[k2];rfl
end
theorem a5m (s kl kh l h)(e:l<=h)(e2:h<=x8 s.data.toList):a6x (.string s) (some (.int kl (.ofNat l))) (some (.int kh (.ofNat h)))=M.pure (.string ⟨⟨a0x (H9 s.data.toList l) (h-l)⟩⟩):=by show a7U s _ _=_;grind[a7U,a2Z,b0I,E8,a1l,P8,Z6]
theorem a7O (s kl l)(e2:l<=x8 s.data.toList):a6x (.string s) (some (.int kl (.ofNat l))) none=M.pure (.string ⟨⟨a0x (H9 s.data.toList l) (x8 s.data.toList-l)⟩⟩):=by show a7U s _ _=_;unfold a7U;grind[a2Z,b0I,E8,a1l,P8,Z6]
theorem O8 (l i):e1t i (.tuple ⟨l⟩)=M.obind (a0l l i) M.pure:=wJ rfl rfl
theorem c2P (l i):xF1 i (.agg ⟨l⟩)=M.obind (a0l l i) M.pure:=wJ rfl rfl
theorem a0P (t b x y):a1O t (bcase b x y)=bcase b (a1O t x) (a1O t y):=zi
theorem P5 (t):a1O t undef=false:=wJ rfl rfl
theorem a2g (b x):bcase b x false=(b&&x):=zi
theorem c5X (b x):bcase b x true=(!b||x):=zi
theorem c7J (b x):bcase b true x=(b||x):=zi
theorem c5W (b x):bcase b false x=(!b&&x):=zi
theorem b4Q {β}(b x y u u' v s)(f:Value->M β)(e):bcase b (R8 (go (a4t (bcase b x u) (bcase b y u') v) s) f) e=bcase b (R8 (go (a4t x y v) s) f) e:=zi
theorem b4U {β}(b n x y u u' v s)(f:Value->M β)(e):bcase b (R8 (go (a4t (bcase b x u) (bcase (b&&n) y u') v) s) f) e=bcase b (R8 (go (a4t x (bcase n y u') v) s) f) e:=zi
theorem b5A {β}(b x y u u' v s)(f:Value->M β)(e):bcase b e (R8 (go (a4t (bcase b u x) (bcase b u' y) v) s) f)=bcase b e (R8 (go (a4t x y v) s) f):=zi
theorem b0e {β}(b n x y u u' v s)(f:Value->M β)(e):bcase b e (R8 (go (a4t (bcase b u x) (bcase (!b&&n) y u') v) s) f)=bcase b e (R8 (go (a4t x (bcase n y u') v) s) f):=zi
theorem X3 {α}(x y:List α):x8 (D7 x y)=x8 x+x8 y:=by rw[F9,F9,F9,D9,wG]
theorem b2W (b c):a4t (.bool (!b)) (.bool true) (bcase b (.bool c) undef)=M.pure (.bool (!b||c)):=zi
theorem a8l (b c):a4t (.bool (!b)) (bcase b undef (.bool c)) (.bool false)=M.pure (.bool (!b&&c)):=zi
theorem P6 (a b):a4t (.bool true) a b=M.pure a:=wJ rfl rfl
theorem O3 (a b):a4t (.bool false) a b=M.pure b:=wJ rfl rfl
theorem a7Q (b x y):bcase b (CR.ret x) (CR.ret y)=.ret (bcase b x y):=zi
theorem b1r (b x y):bcase b (Value.string ⟨⟨x⟩⟩) (Value.string ⟨⟨y⟩⟩)=.string ⟨⟨bcase b x y⟩⟩:=zi
theorem c1K (b k x y):bcase b (Value.int k x) (Value.int k y)=.int k (bcase b x y):=zi
theorem a8P (b x y):bcase b (Value.bool x) (Value.bool y)=.bool (bcase b x y):=zi
theorem b0W (call f vs):a1P call f vs=M.bind (call f vs) λr=>a1s r M.pure λ_=>M.fail:=wJ rfl rfl
theorem a7C (F):a1A [] F=true:=wJ rfl rfl
theorem a6B (i j:Nat)(L:List (Nat×Nat))(F:List a1Q):a1A ((i,j)::L) F=((match a0l F i with
 |some x=>match a0l F j with|some y=>a8a x y|none=>false
 |none=>false)&&a1A L F):=U1 _ _ _
theorem b0T (a b c d):a8a (a,b) (c,d)=(a0e b c&&a0e b d&&a0e d a):=wJ rfl rfl
theorem a5p (m):a0e [] m=true:=wJ rfl rfl
theorem a5L (i l m):a0e (i::l) m=(!(a2M i m)&&a0e l m):=U1 _ _ _
theorem W9 (l):a0e l []=true:=by induction l with|nil=>rfl|cons i l ih=>rw[a5L,ih];rfl
theorem b0p (i):a2M i []=false:=wJ rfl rfl
theorem a9t (i x:Nat)(m:List Nat):a2M i (x::m)=match Nat.beq i x with|true=>true|false=>a2M i m:=wJ rfl rfl
theorem e9M {sh f N}{q:Cb->Nat->J7->M CR}(h:sh.get f=some (ar0 (q a3R N)))(n):o8 sh (n+1) f []=q o9 N (o8 sh n):=yF
theorem Z5 {sh f N}{q:Cb->Nat->J7->Value->M CR}(h:sh.get f=some (ar1 (q a3R N)))(n a):o8 sh (n+1) f [a]=q o9 N (o8 sh n) a:=yF
theorem a2h {sh f N}{q:Cb->Nat->J7->Value->Value->M CR}(h:sh.get f=some (ar2 (q a3R N)))(n a b):o8 sh (n+1) f [a,b]=q o9 N (o8 sh n) a b:=yF
theorem b2s {sh f N}{q:Cb->Nat->J7->Value->Value->Value->M CR}(h:sh.get f=some (ar3 (q a3R N)))(n a b c):o8 sh (n+1) f [a,b,c]=q o9 N (o8 sh n) a b c:=yF
theorem d7Y {sh f N}{q:Cb->Nat->J7->Value->Value->Value->Value->M CR}(h:sh.get f=some (ar4 (q a3R N)))(n a b c d):o8 sh (n+1) f [a,b,c,d]=q o9 N (o8 sh n) a b c d:=yF
end Go.V
end
section
noncomputable section
namespace Go.V
def on1 (k:IntKind)(q:Int->Option Value)(bs:List Value):Option Value:=match bs with|[.int k' n]=>bcase (a0C k k') (q n) none|_=>none
def on2 (k1 k2:IntKind)(q:Int->Int->Option Value)(bs:List Value):Option Value:=match bs with|[.int k1' n,.int k2' m]=>bcase (a0C k1 k1'&&a0C k2 k2') (q n m) none|_=>none
theorem a7e (k):a0C k k=true:=by cases k<;>rfl
theorem b7u {k q bs v}(h:on1 k q bs=some v):∃n,bs=[.int k n]/\q n=some v:=by
 unfold on1 at h;split at h;rename_i k' n;cases hk:a0C k k' with|true=>rw[hk]at h;rw[a4E hk];exact⟨n,rfl,h⟩|false=>rw[hk]at h;cases h
 cases h
theorem d7z {k1 k2 q bs v}(h:on2 k1 k2 q bs=some v):∃n m,bs=[.int k1 n,.int k2 m]/\q n m=some v:=by
 unfold on2 at h;split at h;rename_i k1' n k2' m;cases hk:a0C k1 k1'&&a0C k2 k2' with|true=>rw[hk]at h;rw[wK]at hk;rw[a4E hk.1,a4E hk.2];exact⟨n,m,rfl,h⟩|false=>rw[hk]at h;cases h
 cases h
theorem c0Z (k q n):on1 k q [.int k n]=q n:=by show bcase (a0C k k) (q n) none=_;rw[a7e];rfl
theorem e2p (k1 k2 q n m):on2 k1 k2 q [.int k1 n,.int k2 m]=q n m:=by show bcase (a0C k1 k1&&a0C k2 k2) (q n m) none=_;rw[a7e,a7e];rfl
def X1 (k:IntKind)(q:Int->Option Value):List Value->M Value:=λbs=>M.lift (on1 k q bs)
def X2 (k1 k2:IntKind)(q:Int->Int->Option Value):List Value->M Value:=λbs=>M.lift (on2 k1 k2 q bs)
theorem a1j {sh f k q}(h:sh.get f=some (arX (X1 k q)))(m){n v}(e:q n=some v):o8 sh (m+1) f [.int k n]=M.pure (.ret v):=V8 sh m f _ h (by rw[c0Z];exact e)
theorem Q8 {sh f k1 k2 q}(h:sh.get f=some (arX (X2 k1 k2 q)))(m){n n' v}(e:q n n'=some v):o8 sh (m+1) f [.int k1 n,.int k2 n']=M.pure (.ret v):=V8 sh m f _ h (by rw[e2p];exact e)
def a1f (m:M CR)(v:Value):Prop:=∀c h r w,l9 (go m ⟨c,h,r,w⟩) λx s2=>x=.ret v/\∀i,i<c->s2.h.get i=h.get i
theorem a1f.pure {m v}(h:m=M.pure (.ret v)):a1f m v:=λc hh r w=>⟨.ret v,_,by rw[h];rfl,rfl,λ_ _=>rfl⟩
section
variable {P:Program}{T:Tab}{vs:a2G}{ext:Nat->Option (List Value->M Value)}{N:Nat}{sh:a2t}
theorem a8O (hT:TabOk P T)(hM:P.follows .mixedOrders=true)(L:Shelf' P T vs N ext sh){f fn cd}(hPf:P.funcs[f]?=some fn)(hnum:(fn.name== "runtime.NumGoroutine")=false)(hb:fn.body=some cd){k}{q}(h:∀n v,q n=some v->K9 8 v=true/\∃m,a1f (o8 sh m f [.int k n]) v):J9 P T vs f (X1 k q):=a1V hT hM L.e L.s hPf hnum hb λbs v hq=>by obtain⟨n,rfl,e⟩:=b7u hq;obtain⟨h1,m,h2⟩:=h n v e;exact⟨h1,λc h r w=>⟨m,h2 c h r w⟩⟩
theorem f0o (hT:TabOk P T)(hM:P.follows .mixedOrders=true)(L:Shelf' P T vs N ext sh){f fn cd}(hPf:P.funcs[f]?=some fn)(hnum:(fn.name== "runtime.NumGoroutine")=false)(hb:fn.body=some cd){k1 k2}{q}(h:∀n n' v,q n n'=some v->K9 8 v=true/\∃m,a1f (o8 sh m f [.int k1 n,.int k2 n']) v):J9 P T vs f (X2 k1 k2 q):=a1V hT hM L.e L.s hPf hnum hb λbs v hq=>by obtain⟨n,n',rfl,e⟩:=d7z hq;obtain⟨h1,m,h2⟩:=h n n' v e;exact⟨h1,λc h r w=>⟨m,h2 c h r w⟩⟩
theorem a8N {f k q}(h:∀n v,q n=some v->K9 8 v=true/\a6W P vs f [.int k n] v):J9 P T vs f (X1 k q):=a4b λbs v hq=>by obtain⟨n,rfl,e⟩:=b7u hq;exact⟨rfl,h n v e⟩
end
end Go.V
namespace Go.V
section
variable {P:Program}{T:Tab}{vs:a2G}
theorem d7h {f k q1 q2 q}(h1:J9 P T vs f (X1 k q1))(h2:J9 P T vs f (X1 k q2))(h:∀z v,q z=some v->q1 z=some v\/q2 z=some v):J9 P T vs f (X1 k q):=by refine⟨λbs=>Fr.lift _,?_⟩;intro B0 w0 hL hB bs s v s' w K bs' hg;obtain⟨e1,rfl⟩:=a3i hg;obtain⟨z,rfl,e⟩:=b7u e1;rcases h z v e with e2|e2;exact h1.2 B0 w0 hL hB _ s' v s' w K bs' (by show M.lift (on1 k q1 _) s'=_;rw[c0Z,e2];rfl);exact h2.2 B0 w0 hL hB _ s' v s' w K bs' (by show M.lift (on1 k q2 _) s'=_;rw[c0Z,e2];rfl)
noncomputable def b3m (r:Option (CR×S))(m:Nat):Bool:=match r with
 |some x=>match x.1 with
  |.ret v=>match v with|.int k n=>a0C k .i64&&(match n with|.ofNat j=>Nat.beq j m|.negSucc _=>false)|_=>false
  |.pan _=>false
 |none=>false
theorem b2a {r m}(h:b3m r m=true):∃s,r=some (.ret (.int .i64 (.ofNat m)),s):=by unfold b3m at h;split at h;rename_i x;split at h;rename_i v hv;split at h;rename_i k n;rw[wK]at h;split at h;rename_i j;obtain⟨y,s⟩:=x;obtain rfl:y=_:=hv;obtain rfl:=a4E h.1;simp_all;cases h.2;cases h;cases h;cases h
end
end Go.V
end
section
noncomputable section
namespace Go.V
def K8 (c:Nat)(h:Trie VObj)(v:Value)(vs:List Value):Prop:=∃a e,v=.slice a vs.length e/\(vs=[]\/∃b o g cs cur ro,a=some ⟨b,o,some g⟩/\e=1/\b<c/\h.get b=some (.cells cs cur ro)/\y8 g (H9 cs o) vs.length=some vs)
theorem a2I {g}:∀{cs} {n} {vs},y8 g cs n=some vs->∀(i) (x),vs[i]?=some x->y8 g (H9 cs i) 1=some [x]:=by
 intro cs;induction cs with
  |nil=>intro n vs h i x hx;cases n with|zero=>cases h;simp at hx|succ n=>cases h
  |cons q cs ih=>
   intro n vs h i x hx;cases n with
    |zero=>cases h;simp at hx|succ n=>
     obtain⟨v,st⟩:=q;rw[a1z]at h;split at h;rename_i hb;split at h;rename_i vs' hvs;cases h;cases i with|zero=>obtain rfl:v=x:=zo;rw[a0i,a1z,hb,V9]|succ i=>exact ih hvs i x zo
     cases h;cases h
theorem K8.get {c h v vs}(H:K8 c h v vs){i x}(hx:vs[i]?=some x):∃b o g cs cur ro,v=.slice (some ⟨b,o,some g⟩) vs.length 1/\b<c/\h.get b=some (.cells cs cur ro)/\y8 g (H9 cs (o+i)) 1=some [x]:=by obtain⟨a,e,rfl,hor⟩:=H;rcases hor with rfl|⟨b,o,g,cs,cur,ro,rfl,rfl,h1,h2,h3⟩;simp at hx;exact⟨b,o,g,cs,cur,ro,rfl,h1,h2,by rw[a5a];grind[a2I]⟩
theorem K8.read {c c' h h' v vs}(H:K8 c h v vs)(hc:c<=c')(hh:∀b,b<c->h'.get b=h.get b){i x}(hx:vs[i]?=some x):∃p b,b<c/\a7i 1 v (.int .i64 (.ofNat i))=M.pure p/\∀r w,go (a9j p) ⟨c',h',r,w⟩=some (x,⟨c',h',b::r,w⟩):=by obtain⟨b,o,g,cs,cur,ro,rfl,h1,h2,h3⟩:=H.get hx;have hlt:i<vs.length:=(wM.1 hx).1;refine⟨.pointer (some ⟨b,o+i*1,some g⟩),b,h1,a1C 1 i vs.length .i64 b o (some g) hlt zu,λr w=>?_⟩;rw[a3f,I7 zy,hh b h1,h2,a0h,uu,h3];rfl
theorem K8.len {c h v vs}(H:K8 c h v vs):b6c v=M.pure (.int .i64 (.ofNat vs.length)):=by obtain⟨a,e,rfl,_⟩:=H;rfl
theorem K8.one {c h v vs}(H:K8 c h v vs):O4 v=true:=by obtain⟨a,e,rfl,_⟩:=H;rfl
theorem K8.mono {c c' h h' v vs}(H:K8 c h v vs)(hc:c<=c')(hh:∀b,b<c->h'.get b=h.get b):K8 c' h' v vs:=by obtain⟨a,e,rfl,hor⟩:=H;refine⟨a,e,rfl,?_⟩;grind
def b7r (v:Value):M (List Value):=M.guard (b5m v) (a9s 1 v)
theorem Fr.rdSl (v:Value):Fr (b7r v):=Fr.guard _ (Fr.source _ _)
theorem c1G {v s s' vs}(h:b7r v s=some (vs,s')):K8 s.c s.h v vs/\s'.c=s.c/\s'.h=s.h:=by
 obtain⟨h1,h2⟩:=G9 h;cases v with
  |slice a n e=>
   have h3:(match a with|none=>M.guard (Nat.beq n 0)<|M.pure []|some a=>match n with|0=>M.pure []|len+1=>M.guard (Nat.beq e 1)<|loadN a ((len+1)*1)) s=some (vs,s'):=h2;cases a with
    |none=>obtain⟨q1,q2⟩:=G9 h3;obtain⟨rfl,rfl⟩:=q9 q2;obtain rfl:=wR q1;exact⟨⟨none,e,rfl,Or.inl rfl⟩,rfl,rfl⟩|some a=>
     cases n with
      |zero=>obtain⟨rfl,rfl⟩:=q9 h3;exact⟨⟨some a,e,rfl,Or.inl rfl⟩,rfl,rfl⟩|succ n=>
       obtain⟨q1,q2⟩:=G9 h3;have hb:a.block<s.c:=by obtain⟨g,h5,h6⟩:=G5 q2;obtain⟨o,s1,h7,_⟩:=C8 h6;exact(b0C h7).1
       obtain⟨g,cs,cur,ro,e1,e2,e3,e4,e5⟩:=a9m q2;obtain rfl:=wR q1;rw[uu,<-a0D]at e3;have hl:vs.length=n+1:=(a6u g _ _ _ e3).1;obtain⟨b,off,sp⟩:=a;obtain rfl:sp=some g:=e1;refine⟨⟨_,1,by rw[hl],Or.inr ⟨b,off,g,cs,cur,ro,rfl,rfl,hb,e2,by rw[hl];exact e3⟩⟩,e4,e5⟩
  |_=>cases h1
def b3a (k:IntKind)(vs:List Value):Option (List Int):=List.rec (motive:=λ_=>Option (List Int)) (some []) (λv _ ih=>match v with
 |.int k' n=>match a0C k k' with
  |true=>match ih with|some l=>some (n::l)|none=>none
  |false=>none
 |_=>none) vs
theorem c5m {k}:∀{vs} {l},b3a k vs=some l->vs=l.map (λn=>Value.int k n):=by intro vs;induction vs<;>first|rfl|grind[b3a,a4E]
end Go.V
namespace Go.V
theorem d3d {c c' h h' v vs}(H:K8 c h v vs)(hc:c<=c')(hh:∀b,b<c->h'.get b=h.get b):∃q:List Nat->List Nat,∀r w,go (b7r v) ⟨c',h',r,w⟩=some (vs,⟨c',h',q r,w⟩):=by obtain⟨a,e,rfl,hor⟩:=H;rcases hor with rfl|⟨b,o,g,cs,cur,ro,rfl,rfl,h1,h2,h3⟩;refine⟨id,λr w=>?_⟩;cases a<;>rfl;cases vs with|nil=>exact⟨id,λr w=>rfl⟩|cons x vs=>refine⟨λr=>b::r,λr w=>?_⟩;show go (M.guard (Nat.beq 1 1) (loadN ⟨b,o,some g⟩ ((vs.length+1)*1))) _=_;rw[R5,P8,a1u,I7 zy,hh b h1,h2,a0h,uu];rw[wI]at h3;rw[h3];rfl
theorem c8o (k l):b3a k (l.map λn=>Value.int k n)=some l:=by
 induction l with
  |nil=>rfl|cons x l ih=>
   show(match a0C k k with
    |true=>match b3a k (l.map λn=>Value.int k n)with|some l=>some (x::l)|none=>none
    |false=>none)=_;rw[a7e,ih]
end Go.V
end
section
noncomputable section
namespace Go.V
def b9F {α:Type}(x:Option (α×S))(r w:List Nat):Option ((α×a1Q)×S):=match x with|none=>none|some y=>some ((y.1,(y.2.r,y.2.w)),⟨y.2.c,y.2.h,D7 y.2.r r,D7 y.2.w w⟩)
theorem b7M {α}(m:M α)(c h r w):go (M.foot m) ⟨c,h,r,w⟩=b9F (go m ⟨c,h,[],[]⟩) r w:=rfl
theorem b2u {α}(a:α)(c h r' w' r w):b9F (some (a,(⟨c,h,r',w'⟩:S))) r w=some ((a,(r',w')),⟨c,h,D7 r' r,D7 w' w⟩):=wJ rfl rfl
theorem z8 {α}{x y:Option (α×S)}(r w)(h:x=y):b9F x r w=b9F y r w:=by rw[h]
section
variable {P:Program}{T:Tab}{vs:a2G}
def a6P (q:List Value->Option (List Value))(bs:List Value):M Value:=M.obind (q bs) λcs=>match cs with|[]=>M.pure (.slice none 0 0)|v::cs=>M.bind (Y7 (v::cs)) λa=>M.pure (.slice (some a) (x8 cs+1) 1)
theorem d6M (q bs):Fr (a6P q bs):=Fr.obind _ λcs=>by cases cs<;>first|rfl|grind[Fr.pure,Fr.bind,Fr.newCells]
theorem c7p (hT:TabOk P T)(hM:P.follows .mixedOrders=true){ext}(hE:a2B P T vs ext){N}{sh}(hs:a7T P T ext N sh){f}{fn}{cd}(hPf:P.funcs[f]?=some fn)(hnum:(fn.name== "runtime.NumGoroutine")=false)(hb:fn.body=some cd){q}(h:∀bs cs,q bs=some cs->J2 plain cs=true/\∀c h r w,∃n,l9 (go (o8 sh n f bs) ⟨c,h,r,w⟩) λx s2=>(∀i,i<c->s2.h.get i=h.get i)/\((cs=[]/\x=.ret (.slice none 0 0))\/(cs≠[]/\∃b g ds,x=.ret (.slice (some ⟨b,0,some g⟩) cs.length 1)/\c<=b/\s2.h.get b=some (.cells ds g false)/\U0 (·.1) ds=cs))):J9 P T vs f (a6P q):=by
 refine b4x hT hM hE hs hPf hnum hb (d6M q) λbs s v s1 hg c' h1 h2 h3=>?_;obtain⟨cs,e,hg'⟩:=G5 hg;obtain⟨hpl,hr⟩:=h bs cs e;obtain⟨n,x,s2,hrun,hold,hor⟩:=hr c' s.h s.r s.w;have hrun':o8 sh n f bs ⟨c',s.h,s.r,s.w⟩=some (x,s2):=hrun;rcases hor with⟨rfl,rfl⟩|⟨hne,b,g,ds,rfl,hb2,hds,hmap⟩;obtain⟨rfl,rfl⟩:=q9 hg';refine⟨n,_,s2,λ_=>none,hrun',⟨λi hi=>Or.inr ⟨rfl,hold i hi.1⟩,λb b2 g2 hm=>(by cases hm),λb hb _=>?_,λb b' x x' hm=>(by cases hm)⟩,.plain rfl,λi _ hi=>hold i hi⟩;exact h3 b (oF λhlt=>hb ⟨hlt,λhx=>zy⟩);cases cs with
  |nil=>simp_all|cons v0 cs0=>
   have hg2:M.bind (Y7 (v0::cs0)) (λa=>M.pure (Value.slice (some a) (x8 cs0+1) 1)) s=some (v,s1):=hg';obtain⟨a,s1',q1,q2⟩:=C8 hg2;obtain⟨rfl,rfl⟩:=q9 q2;obtain⟨k1,k2,k3,k4⟩:=b0h q1;have hc1:s1.c=s.c+1:=k3;have hnew:s1.h.get s.c=some (.cells ((v0::cs0).map λv=>(v,0)) 0 false):=by rw[k4,vH rfl]
   have hoth:∀i,i≠s.c->s1.h.get i=s.h.get i:=λi hi=>by rw[k4,vN hi]
   refine⟨n,_,s2,λi=>if i=s.c then some (b,g)else none,hrun',⟨λi hi=>Or.inr ⟨?_,hold i hi.1⟩,λi b2 g2 hm=>?_,λi hi hm=>?_,λi i' x x' hm hm' hx=>?_⟩,?_,λi hi1 hi2=>hold i hi2⟩;exact hoth i (λe=>hi.2 zy);split at hm;rename_i hi;cases hm;subst hi;refine⟨λhx=>hx.2 ⟨wQ _,zy⟩,λhx=>by have:=hx.1;omega,_,ds,hnew,hds,?_,λi v w st st' hv hw=>?_⟩;have:=wB List.length hmap;rw[a0R]at this;simp_all;rw[vM]at hv;cases hvo:(v0::cs0)[i]? with|none=>rw[hvo]at hv;cases hv|some y=>rw[hvo]at hv;cases hv;refine⟨rfl,?_⟩;rw[<-hmap,a0R,vM,hw]at hvo;have ey:w=v:=zo;subst ey;refine .plain ((M4 _ _).1 hpl w ?_);rw[<-hmap,a0R];grind
   cases hm;split at hm;cases hm;rename_i hne';rw[hoth i hne'];exact h3 i (oF λhlt=>hi ⟨hlt,λhx=>zy⟩);simp_all;rw[k2,show x8 cs0+1=(v0::cs0).length by rw[F9];rfl];exact .sliceNew (by rw[vH rfl])
end
end Go.V
end
section
noncomputable section
namespace Go.V
open Go.RowKit (Below)
def b4e (l:List UInt8):List UInt8->Bool:=List.rec (motive:=λ_=>List UInt8->Bool) (λ_=>true) (λv _ ih m=>match m with|[]=>false|w::m=>match Nat.beq v.toNat w.toNat with|true=>ih m|false=>false) l
def b2Z (sub s:List UInt8):Bool:=List.rec (motive:=λ_=>Bool) (b4e sub []) (λc s ih=>match b4e sub (c::s)with|true=>true|false=>ih) s
theorem c3b (l):∀m,b4e l m=l.isPrefixOf m:=by
 induction l with
  |nil=>intro m;cases m<;>rfl|cons v l ih=>
   intro m;cases m with
    |nil=>rfl|cons w m=>
     show(match Nat.beq v.toNat w.toNat with|true=>b4e l m|false=>false)=(v==w&&l.isPrefixOf m);have e:Nat.beq v.toNat w.toNat=(v==w):=by rw[Bool.eq_iff_iff];simp_all[nk]
     rw[e,ih];cases v==w<;>simp
def a1b (l:List UInt8)(n:Nat):List UInt8:=Nat.rec (motive:=λ_=>List UInt8) [] (λ_ ih=>D7 l ih) n
def a4g (sep:List UInt8)(xs:List (List UInt8)):List UInt8:=List.rec (motive:=λ_=>List UInt8) [] (λx _ ih=>D7 sep (D7 x ih)) xs
def a4L (sep:List UInt8)(xs:List (List UInt8)):List UInt8:=match xs with|[]=>[]|x::xs=>D7 x (a4g sep xs)
theorem c7k (l n):a1b l n=Lib.repeatL l n:=by induction n with|zero=>rfl|succ n ih=>show D7 l (a1b l n)=_;rw[D9,ih];rfl
theorem c1J (sep xs):a4g sep xs=Lib.joinTail sep xs:=by induction xs<;>first|rfl|grind[a4g,D9,Lib.joinTail]
theorem c3c (sep xs):a4L sep xs=Lib.join xs sep:=by cases xs with|nil=>rfl|cons x xs=>show D7 x (a4g sep xs)=_;rw[D9,c1J,Lib.join_cons]
theorem c1F (sub s):b2Z sub s=Lib.contains s sub:=by
 unfold Lib.contains;induction s with
  |nil=>show b4e sub []=_;rw[c3b];cases sub with|nil=>rfl|cons a t=>rfl
  |cons c s ih=>show(match b4e sub (c::s)with|true=>true|false=>b2Z sub s)=_;rw[c3b,ih,Lib.index];have hge:=Lib.index_ge s sub;grind
def b0Q (bs:List Value):Option Value:=match bs with
 |[.string s,.string sub]=>match Nat.blt (x8 s.data.toList) 4294967281 with|true=>some (.bool (b2Z sub.data.toList s.data.toList))|false=>none
 |_=>none
def a9Y (bs:List Value):Option Value:=match bs with
 |[.string s,.int .i64 (.ofNat c)]=>match Nat.blt c 4294967296&&Nat.ble (x8 s.data.toList*c) 4294967296 with|true=>some (.string ⟨⟨a1b s.data.toList c⟩⟩)|false=>none
 |_=>none
def a1E (vs:List Value):Option (List (List UInt8)):=List.rec (motive:=λ_=>Option (List (List UInt8))) (some []) (λv _ ih=>match v with
 |.string s=>match ih with|some l=>some (s.data.toList::l)|none=>none
 |_=>none) vs
theorem b2y:∀(vs) (l),a1E vs=some l->vs=l.map λx=>.string ⟨⟨x⟩⟩:=by
 intro vs;induction vs with
  |nil=>intro l h;cases h;rfl|cons v vs ih=>
   intro l h;cases v with
    |string s=>have h:(match a1E vs with|some l=>some (s.data.toList::l)|none=>none)=some l:=h;cases hs:a1E vs with|none=>rw[hs]at h;cases h|some l'=>rw[hs]at h;cases h;rw[ih l' hs];rfl
    |_=>cases h
def a7X (bs:List Value):M Value:=match bs with
 |[.slice a len es,.string sep]=>match len with|0=>M.pure (.string ⟨⟨[]⟩⟩)|n+1=>M.obind a λa=>M.guard (Nat.beq es 1)<|M.bind (loadN a (n+1)) λvs=>M.obind (a1E vs) λxs=>M.guard (Nat.blt n 4294967295&&Nat.blt (x8 (a4L sep.data.toList xs)) 4294967296)<|M.pure (.string ⟨⟨a4L sep.data.toList xs⟩⟩)
 |_=>M.fail
section
variable {P:Program}{T:Tab}{vs:a2G}
theorem c3q {f:Nat}(hen:∀(aS9) w,(callFunc f aS9).run P w=.ok (.enter f aS9) w)(h0:∀(a) (c) (sep) (w),Calls P f #[.slice a 0 c,.string sep] w λe w'=>e=.returned (.string ⟨#[]⟩)/\w'=w) (h1:∀(bk o c) (xs:List ByteArray) (sep) (w),(∀(j) x,xs[j]?=some x->w.cell? ⟨bk,o+j,none⟩=some (.string x))->bk<w.heap.size->xs.length<=140737488355328->xs.length<=c->(Lib.join (xs.map (·.data.toList)) sep.data.toList).length<=140737488355328->Calls P f #[.slice (some ⟨bk,o,none⟩) xs.length c,.string sep] w λe w'=>e=.returned (.string ⟨(Lib.join (xs.map (·.data.toList)) sep.data.toList).toArray⟩)/\Below w.heap.size w w'):J9 P T vs f a7X:=by
 refine⟨λaS9=>?_,?_⟩;unfold a7X;grind[Fr.pure,Fr.obind,Fr.guard,Fr.bind,Fr.loadN,Fr.fail];intro B0 w0 hL hB aS9 s v s' w K as' h S hG F has;unfold a7X at h;split at h;rename_i a len es sep;obtain⟨x',y',rfl⟩:∃x' y',as'=[x',y']:=by have:=has.len;match as',this with|[x',y'],_=>simp_all
 have ry:y'=.string sep:=(has.at_ 1 _ _ rfl rfl).eq_of_plain rfl;have rx:VR K x' (.slice a len es):=has.at_ 0 _ _ rfl rfl;subst ry;refine Or.inr ⟨hen _ _,?_⟩;split at h;obtain⟨rfl,rfl⟩:=q9 h;have:∃a' c,x'=.slice a' 0 c:=by generalize hz:Value.slice a 0 es=z at rx;cases rx<;>grind
 obtain⟨a',c,rfl⟩:=this;refine(h0 a' c sep w).mono λe w' ⟨q1,q2⟩=>?_;subst q2;exact⟨_,K,q1,Step.same S rfl,.plain rfl⟩;rename_i n;obtain⟨ad,ea,h2⟩:=G5 h;subst ea;obtain⟨hes,h3⟩:=G9 h2;obtain⟨ws,s1,h4,h5⟩:=C8 h3;obtain⟨xs,hx,h6⟩:=G5 h5;obtain⟨hg,h7⟩:=G9 h6;obtain⟨rfl,rfl⟩:=q9 h7;simp only[wK]at hg;obtain⟨g,cs,cur,ro,e1,e2,e3,e4,e5⟩:=a9m h4;have es1:=wR hes;subst es1;have hsl:∃l a' cap,x'=.slice (some a') (n+1) cap/\K ad.block g=some l/\l.lo<=ad.off/\n+1<=cap/\a'=⟨l.blk,l.at_+(ad.off-l.lo),none⟩:=by generalize hz:Value.slice (some ad) (n+1) 1=z at rx;cases rx with|plain hp=>grind[V.plain]| @slice b g' off len cap es l a' hk hlo hes' hcap hsp hor=>cases hz;cases e1;have hcap0:cap≠0:=zy;obtain⟨q1,q2,_⟩:=hor.resolve_left hcap0;obtain⟨ab,ao,asp⟩:=a';grind|_=>cases hz
 obtain⟨l,a',cap,rfl,hk,hlo,hcap,rfl⟩:=hsl;obtain⟨ws',c1,c2,c3⟩:=a9l S hk hlo e2 e3;have hws:=b2y ws xs hx;have hw':ws'=ws:=by
  apply uj;intro i;by_cases hi:i<ws.length;have hi':i<ws'.length:=by rw[c1.len];exact hi
  have r:=c1.at_ i _ _ (wO hi') (wO hi);rw[wO hi',wO hi];have:plain ws[i]=true:=by
   have hm:∀u,u∈ws->plain u=true:=λu hu=>by rw[hws]at hu;obtain⟨y,_,hy⟩:=uS.1 hu;rw[<-hy];rfl
   simp_all
  rw[r.eq_of_plain this];rw[vo (by rw[c1.len];omega),vo zy]
 have hlen:xs.length=n+1:=by rw[<-c2,hws];simp
 have key:=h1 l.blk (l.at_+(ad.off-l.lo)) cap (xs.map λx=>(⟨⟨x⟩⟩:ByteArray)) sep w (λj x hj=>zo) (S.dom _ _ _ hk) (by have:=hg.1;simp at this⊢;omega) zm (by
  have hj:(xs.map λx=>(⟨⟨x⟩⟩:ByteArray)).map (λb=>b.data.toList)=xs:=by rw[tC];exact List.map_id'' (λ_=>rfl) xs
  rw[hj,<-c3c];have:=hg.2;rw[F9]at this;simp at this;omega);have hj:(xs.map λx=>(⟨⟨x⟩⟩:ByteArray)).map (λb=>b.data.toList)=xs:=by rw[tC];exact List.map_id'' (λ_=>rfl) xs
 rw[hj,<-c3c]at key;rw[wF,hlen]at key;refine key.mono λe w' ⟨q1,q2⟩=>?_;refine⟨_,K,q1,⟨KM.le_refl K,λ_ _ _=>rfl,?_⟩,.plain rfl⟩;rw[e5];exact a6q S ⟨q2.os,q2.tape,q2.output,q2.size,q2.block⟩;cases h
end
end Go.V
end
section
noncomputable section
namespace Go.V
variable {c:Nat}{h:Trie VObj}{r w:List Nat}
def apS {γ:Type}(lt:Bool)(ob:Option VObj)(o g len:Nat)(vs:List Value)(k:List (Value×Nat)->Nat->Bool->Option γ):Option γ:=match lt with
 |true=>match ob with
  |some (.cells cs cur ro)=>match !ro&&Nat.ble (o+len) (x8 cs)with
   |true=>match y8 g (H9 cs o) len with|some _=>k (D7 (a0x cs (o+len)) (U0 (λv=>(v,cur+1)) vs)) cur ro|none=>none
   |false=>none
  |_=>none
 |false=>none
theorem d0I {γ}(cs cur ro o g len vs)(k:List (Value×Nat)->Nat->Bool->Option γ)(e:(!ro&&Nat.ble (o+len) (x8 cs))=true):apS true (some (.cells cs cur ro)) o g len vs k=oS (y8 g (H9 cs o) len) λ_=>k (D7 (a0x cs (o+len)) (U0 (λv=>(v,cur+1)) vs)) cur ro:=by grind[apS,oS]
theorem E5 {γ lt lt' ob ob'}(o g len vs)(k:List (Value×Nat)->Nat->Bool->Option γ)(h1:lt=lt')(h2:ob=ob'):apS lt ob o g len vs k=apS lt' ob' o g len vs k:=by rw[h1,h2]
theorem b4W {α β}(m)(k:α->M β)(s):M.bind m k s=R8 (go m s) λa=>k a:=by rw[<-J8];rfl
theorem c3u {e}(e1:e.size=1)(e2:Nat.blt e.bytes 4096=true)(ab o g n vs)(hv:vs≠[])(ho:J2 O4 vs=true)(hl:(n+x8 vs)*4<a3W):go (a1J e (.slice (some ⟨ab,o,some g⟩) n 1) vs) ⟨c,h,r,w⟩=apS (Nat.blt ab c) (h.get ab) o g n vs λcs' cur ro=>some (.slice (some ⟨ab,o,some (cur+1)⟩) (n+x8 vs) 1,⟨c,upd h ab (.cells cs' (cur+1) ro),ab::r,ab::w⟩):=by
 cases vs with
  |nil=>simp_all|cons v vs=>
   have hlen:x8 (v::vs)=x8 vs+1:=rfl;rw[hlen]at hl;have e3:Nat.blt ((n+(x8 vs+1))*4) a3W=true:=by rw[uh];exact hl
   have e4:Nat.beq ((x8 vs+1)/1*1) (x8 vs+1)=true:=by rw[nV,uu];simp_all
   show a1J e _ _ _=_;unfold a1J;simp only[a2F,e1,ho,nV,uu,e3,e2,R5,uf,P8];unfold appendAt apS;simp only[E8,e1,uu];rw[b4W];show R8 (rd ab ⟨c,h,r,w⟩) _=_;rw[b3I];cases hb:Nat.blt ab c with
    |false=>rfl|true=>
     cases hob:h.get ab with
      |none=>rfl|some ob=>
       cases ob with
        |cells cs cur ro=>simp only[J3,a5A];cases hro:!ro with|false=>rfl|true=>cases hble:Nat.ble (o+n) (x8 cs)with|false=>rfl|true=>simp only[P8,uf];cases y8 g (H9 cs o) n with|none=>rfl|some _=>simp only[E8,Z6];rw[J8];show R8 (wr ab _ _) _=_;rw[b2N,hb,hob];rfl
        |_=>rfl
theorem b8X {e}(e1:e.size=1)(e2:Nat.blt e.bytes 4096=true)(es vs)(hv:vs≠[])(ho:J2 O4 vs=true)(hl:(x8 vs)*4<a3W):go (a1J e (.slice none 0 es) vs) ⟨c,h,r,w⟩=some (.slice (some ⟨c,0,some 0⟩) (x8 vs) 1,⟨c+1,upd h c (.cells (U0 (λv=>(v,0)) vs) 0 false),r,c::w⟩):=by
 cases vs with
  |nil=>simp_all|cons v vs=>
   have hlen:x8 (v::vs)=x8 vs+1:=rfl;rw[hlen]at hl;have e3:Nat.blt ((0+(x8 vs+1))*4) a3W=true:=by rw[uh,vV];exact hl
   show a1J e _ _ _=_;unfold a1J;simp only[a2F,e1,ho,nV,uu,e3,e2,R5,uf,P8];rw[b4W,a1T (e:=ho),J3];rfl
def apC (n:Nat)(vs:List Value):Bool:=match vs with|[]=>false|v::vs=>J2 O4 (v::vs)&&Nat.blt ((n+x8 (v::vs))*4) 4294967296
theorem b5j (n v vs):apC n (v::vs)=(J2 O4 (v::vs)&&Nat.blt ((n+x8 (v::vs))*4) 4294967296):=wJ rfl rfl
theorem c4t {n vs}(h:apC n vs=true):vs≠[]/\J2 O4 vs=true/\(n+x8 vs)*4<a3W:=by cases vs with|nil=>cases h|cons v vs=>rw[b5j,wK,uh]at h;exact⟨zq,h⟩
theorem b4B {e}(e1:e.size=1)(e2:Nat.blt e.bytes 4096=true)(b n es vs)(hv:vs≠[])(hc:apC n vs=false):go (a1J e (.slice b n es) vs) ⟨c,h,r,w⟩=none:=by cases vs with|nil=>simp_all|cons v vs=>show a1J e _ _ _=_;rw[b5j]at hc;have e5:(J2 O4 (v::vs)&&Nat.blt ((n+(x8 vs+1))*4) a3W)=false:=hc;unfold a1J;simp only[a2F,e1,nV,uu,e2,R5,uL,sj,e5];rfl
theorem d5F {g cs m vs}(h:y8 g cs (m+1)=some vs):vs≠[]:=by cases cs<;>first|rfl|grind[y8]
theorem b8K (xb ox gx m):a9s 1 (.slice (some ⟨xb,ox,some gx⟩) (m+1) 1)=loadN ⟨xb,ox,some gx⟩ ((m+1)*1):=wJ rfl rfl
theorem c8S (m xb ox gx)(k:List Value->M Value)(k')(hk:∀vs,vs≠[]->go (k vs) ⟨c,h,xb::r,w⟩=k' vs):R8 (ldS (Nat.blt xb c) (h.get xb) ox gx (m+1) λvs=>some (vs,⟨c,h,xb::r,w⟩)) k=ldS (Nat.blt xb c) (h.get xb) ox gx (m+1) k':=by unfold ldS;cases Nat.blt xb c<;>first|rfl|grind[R8,d5F]
theorem d8M {e}(e1:e.size=1)(e2:Nat.blt e.bytes 4096=true)(ab o g n xb ox gx m):go (a4F e (.slice (some ⟨ab,o,some g⟩) n 1) (.slice (some ⟨xb,ox,some gx⟩) (m+1) 1)) ⟨c,h,r,w⟩=ldS (Nat.blt xb c) (h.get xb) ox gx (m+1) λvs=>bcase (apC n vs) (apS (Nat.blt ab c) (h.get ab) o g n vs λcs' cur ro=>some (.slice (some ⟨ab,o,some (cur+1)⟩) (n+x8 vs) 1,⟨c,upd h ab (.cells cs' (cur+1) ro),ab::xb::r,ab::w⟩)) none:=by unfold a4F;rw[e1,b8K,uu,J8,a1u];refine c8S m xb ox gx _ _ λvs hv=>?_;rw[Z6];cases hc:apC n vs with|false=>exact b4B e1 e2 _ n 1 vs hv hc|true=>obtain⟨h1,h2,h3⟩:=c4t hc;exact c3u e1 e2 ab o g n vs h1 h2 h3
theorem c3L {e}(e1:e.size=1)(e2:Nat.blt e.bytes 4096=true)(es xb ox gx m):go (a4F e (.slice none 0 es) (.slice (some ⟨xb,ox,some gx⟩) (m+1) 1)) ⟨c,h,r,w⟩=ldS (Nat.blt xb c) (h.get xb) ox gx (m+1) λvs=>bcase (apC 0 vs) (some (.slice (some ⟨c,0,some 0⟩) (x8 vs) 1,⟨c+1,upd h c (.cells (U0 (λv=>(v,0)) vs) 0 false),xb::r,c::w⟩)) none:=by unfold a4F;rw[e1,b8K,uu,J8,a1u];refine c8S m xb ox gx _ _ λvs hv=>?_;rw[Z6];cases hc:apC 0 vs with|false=>exact b4B e1 e2 _ 0 es vs hv hc|true=>obtain⟨h1,h2,h3⟩:=c4t hc;exact b8X e1 e2 es vs h1 h2 (by rw[vV]at h3;exact h3)
theorem b6y {e}(b n es k):go (a4F e (.slice b n es) (.slice none 0 k)) ⟨c,h,r,w⟩=some (.slice b n es,⟨c,h,r,w⟩):=by rfl
theorem c3E {q bs}(e:q bs=some []):go (a6P q bs) ⟨c,h,r,w⟩=some (.slice none 0 0,⟨c,h,r,w⟩):=by show a6P q bs _=_;unfold a6P;rw[e];rfl
theorem b3l {q bs v vs}(e:q bs=some (v::vs))(ho:J2 O4 (v::vs)=true):go (a6P q bs) ⟨c,h,r,w⟩=some (.slice (some ⟨c,0,some 0⟩) (x8 vs+1) 1,⟨c+1,upd h c (.cells (U0 (λv=>(v,0)) (v::vs)) 0 false),r,c::w⟩):=by show a6P q bs _=_;unfold a6P;rw[e];rw[E8];simp only[];rw[b4W,a1T (e:=ho),J3];rfl
theorem b4H:O4 .nilFunc=true:=wJ rfl rfl
theorem b2G:(Value.nilFunc).cells.toList=[.nilFunc]:=wJ rfl rfl
theorem d9L (c:Nat):Nat.beq c (c+1)=false:=Y4 _ _ zy
theorem d8J (c):Nat.beq (c+1) c=false:=Y4 _ _ zy
theorem e1y (c:Nat):Nat.beq c (c+1+1)=false:=Y4 _ _ zy
theorem d9n (c):Nat.beq (c+1+1) c=false:=Y4 _ _ zy
theorem d9Z (c:Nat):Nat.beq c (c+1+1+1)=false:=Y4 _ _ zy
theorem d8W (c):Nat.beq (c+1+1+1) c=false:=Y4 _ _ zy
theorem d8v (c:Nat):Nat.beq c (c+1+1+1+1)=false:=Y4 _ _ zy
theorem d8i (c):Nat.beq (c+1+1+1+1) c=false:=Y4 _ _ zy
theorem e1q (c:Nat):Nat.beq c (c+1+1+1+1+1)=false:=Y4 _ _ zy
theorem d8w (c):Nat.beq (c+1+1+1+1+1) c=false:=Y4 _ _ zy
theorem d8t (c:Nat):Nat.beq c (c+1+1+1+1+1+1)=false:=Y4 _ _ zy
theorem e2z (c):Nat.beq (c+1+1+1+1+1+1) c=false:=Y4 _ _ zy
theorem e2C (c:Nat):Nat.beq c (c+1+1+1+1+1+1+1)=false:=Y4 _ _ zy
theorem d8O (c):Nat.beq (c+1+1+1+1+1+1+1) c=false:=Y4 _ _ zy
theorem e1b (c:Nat):Nat.beq c (c+1+1+1+1+1+1+1+1)=false:=Y4 _ _ zy
theorem e0H (c):Nat.beq (c+1+1+1+1+1+1+1+1) c=false:=Y4 _ _ zy
theorem d8r (c:Nat):Nat.beq c (c+1+1+1+1+1+1+1+1+1)=false:=Y4 _ _ zy
theorem d8G (c):Nat.beq (c+1+1+1+1+1+1+1+1+1) c=false:=Y4 _ _ zy
theorem d4g (c:Nat):Nat.beq c (c+1+1+1+1+1+1+1+1+1+1)=false:=Y4 _ _ zy
theorem d5f (c):Nat.beq (c+1+1+1+1+1+1+1+1+1+1) c=false:=Y4 _ _ zy
theorem d4i (c:Nat):Nat.beq c (c+1+1+1+1+1+1+1+1+1+1+1)=false:=Y4 _ _ zy
theorem d3R (c):Nat.beq (c+1+1+1+1+1+1+1+1+1+1+1) c=false:=Y4 _ _ zy
theorem d4E (c:Nat):Nat.beq c (c+1+1+1+1+1+1+1+1+1+1+1+1)=false:=Y4 _ _ zy
theorem d5d (c):Nat.beq (c+1+1+1+1+1+1+1+1+1+1+1+1) c=false:=Y4 _ _ zy
theorem d5l (c:Nat):Nat.beq c (c+1+1+1+1+1+1+1+1+1+1+1+1+1)=false:=Y4 _ _ zy
theorem d5k (c):Nat.beq (c+1+1+1+1+1+1+1+1+1+1+1+1+1) c=false:=Y4 _ _ zy
theorem d4U (c:Nat):Nat.beq c (c+1+1+1+1+1+1+1+1+1+1+1+1+1+1)=false:=Y4 _ _ zy
theorem d3V (c):Nat.beq (c+1+1+1+1+1+1+1+1+1+1+1+1+1+1) c=false:=Y4 _ _ zy
theorem c5C:a1E []=some []:=wJ rfl rfl
theorem b4r (s vs):a1E (.string s::vs)=oS (a1E vs) λl=>some (s.data.toList::l):=by grind[a1E,oS]
theorem b6J (sep x l):a4L sep (x::l)=D7 x (a4g sep l):=wJ rfl rfl
theorem b3E (sep):a4g sep []=[]:=wJ rfl rfl
theorem a9C (sep x l):a4g sep (x::l)=D7 sep (D7 x (a4g sep l)):=wJ rfl rfl
theorem c2D (b o g n sep):go (a7X [.slice (some ⟨b,o,some g⟩) (n+1) 1,.string sep]) ⟨c,h,r,w⟩=ldS (Nat.blt b c) (h.get b) o g (n+1) λvs=>oS (a1E vs) λxs=>bcase (Nat.blt n 4294967295&&Nat.blt (x8 (a4L sep.data.toList xs)) 4294967296) (some (.string ⟨⟨a4L sep.data.toList xs⟩⟩,⟨c,h,b::r,w⟩)) none:=by show go (M.bind (loadN ⟨b,o,some g⟩ (n+1)) λvs=>M.obind (a1E vs) λxs=>M.guard (Nat.blt n 4294967295&&Nat.blt (x8 (a4L sep.data.toList xs)) 4294967296)<|M.pure (Value.string ⟨⟨a4L sep.data.toList xs⟩⟩)) _=_;rw[J8,a1u];refine(b7p _ _ _ _ _ _ (λx=>R8 x λvs=>M.obind (a1E vs) λxs=>M.guard (Nat.blt n 4294967295&&Nat.blt (x8 (a4L sep.data.toList xs)) 4294967296)<|M.pure (Value.string ⟨⟨a4L sep.data.toList xs⟩⟩)) rfl).trans ?_;congr 1;funext vs;show go (M.obind (a1E vs) λxs=>M.guard (Nat.blt n 4294967295&&Nat.blt (x8 (a4L sep.data.toList xs)) 4294967296)<|M.pure (Value.string ⟨⟨a4L sep.data.toList xs⟩⟩)) _=_;cases a1E vs with|none=>rfl|some xs=>rw[E8,a1B];cases Nat.blt n 4294967295&&Nat.blt (x8 (a4L sep.data.toList xs)) 4294967296<;>rfl
theorem c1s (f:Nat)(a b vs):b1f (.func (.func f) a b) vs=some (f,D7 a.toList (D7 vs b.toList)):=wJ rfl rfl
end Go.V
end
section
namespace Go.V
theorem dy {p:Prop}(h:p:=by first|assumption|omega|(simp only[d9L,d8J,e1y,d9n,d9Z,d8W,d8v,d8i,e1q,d8w,d8t,e2z,e2C,d8O,e1b,e0H,d8r,d8G,d4g,d5f,d4i,d3R,d4E,d5d,d5l,d5k,d4U,d3V,b4H,b2G,Nat.reduceMul,Nat.reduceLT,U1,a7l,a9V,a8G,a5d,a7t,a5F,a8t,a2C,ug,si,sj,uL,uf,X8,a2a,vV,Nat.reduceAdd,R5,a7m,Nat.reduceBEq,P7,P9,a7r,a3N,a6E,a4B,a3Y,a5l,a2v,a3K,b6B,b6F,b6E,c1S,c0u,a7C,a6B,b0T,a5p,a5L,W9,b0p,a9t,a3p,IntKind.bits,X3,a4C,a4U]<;>omega)):p:=h
theorem dx {p:Prop}(h:p:=by first|assumption|omega|(simp only[U1,a7l,a9V,a8G,a5d,a7t,a5F,a8t,a2C,ug,si,sj,uL,uf,X8,a2a,vV,Nat.reduceAdd,R5,a7m,Nat.reduceBEq,P7,P9,a7r,a3N,a6E,a4B,a3Y,a5l,a2v,a3K,b6B,b6F,b6E,c1S,c0u,a7C,a6B,b0T,a5p,a5L,W9,b0p,a9t,a3p,IntKind.bits,X3,a4C,a4U]<;>omega)):p:=h
abbrev gD:=And.intro @wF.{0,0}<|And.intro @uE<|And.intro @A9<|And.intro @y9<|And.intro @b6B<|And.intro @b6F<|And.intro @b6E<|And.intro @si<|And.intro @c1s<|And.intro @X8<|And.intro @a2a<|And.intro @I7<|And.intro @d0I<|And.intro @b5j<|And.intro @c4c<|And.intro @b7N<|And.intro @c5C<|And.intro @b4r<|And.intro @b6J<|And.intro @b3E<|And.intro @a9C<|And.intro @c2D<|And.intro @O0<|And.intro @R6<|And.intro @U6<|And.intro @a5q<|And.intro @J8<|And.intro @J3<|And.intro @Z9<|And.intro @I4<|And.intro @a0g<|And.intro @M9<|And.intro @b0W<|And.intro @a4C<|And.intro @a4U<|And.intro @V6<|And.intro @X5<|And.intro @J5<|And.intro @F6<|And.intro @V.e7v<|And.intro @E8<|And.intro @P8<|And.intro @Q5<|And.intro @a4y<|And.intro @O9<|And.intro @a5M<|And.intro @b1W<|And.intro @a3N<|And.intro @a4B<|And.intro @a5l<|And.intro @a9n<|And.intro @a9L<|And.intro @b2A<|And.intro @a7W<|And.intro @a6Z<|And.intro @U1<|And.intro @a7l<|And.intro @a5d<|And.intro @uf<|And.intro @a4p<|And.intro @a3f<|And.intro @a7D<|And.intro @a6l<|And.intro @b0D<|And.intro @a9Q<|And.intro @a0h<|And.intro @a1B<|And.intro @a4W<|And.intro @o7<|And.intro @d9<|And.intro @a3B<|And.intro @a4x<|And.intro @a0i<|And.intro @a7y<|And.intro @a1z<|And.intro @V9<|And.intro @vV<|And.intro @vB<|And.intro @a4n<|And.intro @a2f<|And.intro @a2x<|And.intro @b7M<|And.intro @b2u<|And.intro @J4<| @ug
end Go.V
end
section
namespace Go.Proofs.YtmomonnlmbljoaaGreatDoor
open Go.V Go.RowKit Go.Shelf Go.Proofs
variable {mL:Int}
noncomputable def b0c (i:TypeInfo)(u:TypeDesc):TI:=⟨u,i.size,i.bytes,i.zero.getD undef⟩
noncomputable abbrev T_ (i:TypeInfo):TI:=b0c i i.desc
noncomputable abbrev U_ (i j:TypeInfo):TI:=b0c i j.desc
abbrev n_ {α:Type}(x:α)(l r:Trie α):Trie α:=.node (some x) l r
abbrev e_ {α:Type}(x:α):Trie α:=n_ x .leaf .leaf
noncomputable def ti3:TI:=b0c Tryz.t3 Tryz.t3.desc
noncomputable def ti9:TI:=b0c Tryz.t9 Tryz.t9.desc
noncomputable def d2w:TI:=b0c Tryz.t26 Tryz.t25.desc
noncomputable def b3b:TI:=b0c Tryz.t30 Tryz.t29.desc
noncomputable def b9W:TI:=b0c Tryz.t119 Tryz.t118.desc
noncomputable def b5W:TI:=b0c Tryz.t127 Tryz.t126.desc
noncomputable def d4j:TI:=b0c Tryz.t142 Tryz.t141.desc
noncomputable def b6N:TI:=b0c Tryz.t160 Tryz.t159.desc
noncomputable def b6L:TI:=b0c Tryz.t175 Tryz.t174.desc
noncomputable def d1F:Trie TI:=n_ (T_ Tryz.t0) (n_ (T_ Tryz.t1) (n_ ti3 (n_ (T_ Tryz.t7) (n_ (T_ Tryz.t15) (n_ (T_ Tryz.t31) (n_ (T_ Tryz.t63) (n_ b5W (e_ (T_ Tryz.t255)) .leaf) (e_ (T_ Tryz.t191))) (n_ (T_ Tryz.t95) (e_ (T_ Tryz.t159)) (e_ (T_ Tryz.t223)))) (n_ (T_ Tryz.t47) (n_ (T_ Tryz.t79) (n_ (T_ Tryz.t143) (e_ (T_ Tryz.t271)) .leaf) (e_ (T_ Tryz.t207))) (n_ (T_ Tryz.t111) (e_ b6L) (e_ (T_ Tryz.t239))))) (n_ (T_ Tryz.t23) (n_ (T_ Tryz.t39) (n_ (T_ Tryz.t71) (n_ (T_ Tryz.t135) (e_ (T_ Tryz.t263)) .leaf) (e_ (T_ Tryz.t199))) (n_ (T_ Tryz.t103) (e_ (T_ Tryz.t167)) (e_ (T_ Tryz.t231)))) (n_ (T_ Tryz.t55) (n_ (T_ Tryz.t87) (n_ (U_ Tryz.t151 Tryz.t150) (e_ (U_ Tryz.t279 Tryz.t5)) .leaf) (e_ (T_ Tryz.t215))) (n_ b9W (e_ (T_ Tryz.t183)) (e_ (T_ Tryz.t247)))))) (n_ (U_ Tryz.t11 Tryz.t9) (n_ (U_ Tryz.t19 Tryz.t18) (n_ (T_ Tryz.t35) (n_ (T_ Tryz.t67) (n_ (T_ Tryz.t131) (e_ (U_ Tryz.t259 Tryz.t258)) .leaf) (e_ (T_ Tryz.t195))) (n_ (T_ Tryz.t99) (e_ (T_ Tryz.t163)) (e_ (T_ Tryz.t227)))) (n_ (T_ Tryz.t51) (n_ (T_ Tryz.t83) (n_ (T_ Tryz.t147) (e_ (T_ Tryz.t275)) .leaf) (e_ (T_ Tryz.t211))) (n_ (T_ Tryz.t115) (e_ (T_ Tryz.t179)) (e_ (T_ Tryz.t243))))) (n_ (T_ Tryz.t27) (n_ (T_ Tryz.t43) (n_ (T_ Tryz.t75) (n_ (T_ Tryz.t139) (e_ (T_ Tryz.t267)) .leaf) (e_ (T_ Tryz.t203))) (n_ (T_ Tryz.t107) (e_ (U_ Tryz.t171 Tryz.t170)) (e_ (T_ Tryz.t235)))) (n_ (T_ Tryz.t59) (n_ (T_ Tryz.t91) (n_ (T_ Tryz.t155) (e_ (T_ Tryz.t283)) .leaf) (e_ (T_ Tryz.t219))) (n_ (T_ Tryz.t123) (e_ (T_ Tryz.t187)) (e_ (T_ Tryz.t251))))))) (n_ (T_ Tryz.t5) (n_ ti9 (n_ (T_ Tryz.t17) (n_ (T_ Tryz.t33) (n_ (T_ Tryz.t65) (n_ (U_ Tryz.t129 Tryz.t128) (e_ (T_ Tryz.t257)) .leaf) (e_ (T_ Tryz.t193))) (n_ (U_ Tryz.t97 Tryz.t96) (e_ (T_ Tryz.t161)) (e_ (T_ Tryz.t225)))) (n_ (T_ Tryz.t49) (n_ (T_ Tryz.t81) (n_ (T_ Tryz.t145) (e_ (T_ Tryz.t273)) .leaf) (e_ (T_ Tryz.t209))) (n_ (T_ Tryz.t113) (e_ (T_ Tryz.t177)) (e_ (T_ Tryz.t241))))) (n_ (T_ Tryz.t25) (n_ (U_ Tryz.t41 Tryz.t3) (n_ (T_ Tryz.t73) (n_ (U_ Tryz.t137 Tryz.t136) (e_ (U_ Tryz.t265 Tryz.t264)) .leaf) (e_ (T_ Tryz.t201))) (n_ (U_ Tryz.t105 Tryz.t104) (e_ (T_ Tryz.t169)) (e_ (T_ Tryz.t233)))) (n_ (T_ Tryz.t57) (n_ (T_ Tryz.t89) (n_ (U_ Tryz.t153 Tryz.t152) (e_ (U_ Tryz.t281 Tryz.t21)) .leaf) (e_ (T_ Tryz.t217))) (n_ (T_ Tryz.t121) (e_ (T_ Tryz.t185)) (e_ (T_ Tryz.t249)))))) (n_ (T_ Tryz.t13) (n_ (T_ Tryz.t21) (n_ (T_ Tryz.t37) (n_ (T_ Tryz.t69) (n_ (T_ Tryz.t133) (e_ (T_ Tryz.t261)) .leaf) (e_ (T_ Tryz.t197))) (n_ (T_ Tryz.t101) (e_ (T_ Tryz.t165)) (e_ (T_ Tryz.t229)))) (n_ (T_ Tryz.t53) (n_ (T_ Tryz.t85) (n_ (T_ Tryz.t149) (e_ (U_ Tryz.t277 Tryz.t276)) .leaf) (e_ (T_ Tryz.t213))) (n_ (U_ Tryz.t117 Tryz.t3) (e_ (T_ Tryz.t181)) (e_ (U_ Tryz.t245 Tryz.t244))))) (n_ (T_ Tryz.t29) (n_ (T_ Tryz.t45) (n_ (T_ Tryz.t77) (n_ (T_ Tryz.t141) (e_ (T_ Tryz.t269)) .leaf) (e_ (T_ Tryz.t205))) (n_ (T_ Tryz.t109) (e_ (T_ Tryz.t173)) (e_ (T_ Tryz.t237)))) (n_ (T_ Tryz.t61) (n_ (T_ Tryz.t93) (e_ (T_ Tryz.t157)) (e_ (T_ Tryz.t221))) (n_ (T_ Tryz.t125) (e_ (T_ Tryz.t189)) (e_ (T_ Tryz.t253)))))))) (n_ (T_ Tryz.t2) (n_ (T_ Tryz.t4) (n_ (U_ Tryz.t8 Tryz.t7) (n_ (T_ Tryz.t16) (n_ (T_ Tryz.t32) (n_ (T_ Tryz.t64) (n_ (T_ Tryz.t128) (e_ (T_ Tryz.t256)) .leaf) (e_ (T_ Tryz.t192))) (n_ (T_ Tryz.t96) (e_ b6N) (e_ (T_ Tryz.t224)))) (n_ (T_ Tryz.t48) (n_ (T_ Tryz.t80) (n_ (T_ Tryz.t144) (e_ (T_ Tryz.t272)) .leaf) (e_ (T_ Tryz.t208))) (n_ (T_ Tryz.t112) (e_ (T_ Tryz.t176)) (e_ (T_ Tryz.t240))))) (n_ (U_ Tryz.t24 Tryz.t3) (n_ (T_ Tryz.t40) (n_ (T_ Tryz.t72) (n_ (T_ Tryz.t136) (e_ (T_ Tryz.t264)) .leaf) (e_ (T_ Tryz.t200))) (n_ (T_ Tryz.t104) (e_ (T_ Tryz.t168)) (e_ (T_ Tryz.t232)))) (n_ (T_ Tryz.t56) (n_ (T_ Tryz.t88) (n_ (T_ Tryz.t152) (e_ (T_ Tryz.t280)) .leaf) (e_ (T_ Tryz.t216))) (n_ (T_ Tryz.t120) (e_ (T_ Tryz.t184)) (e_ (T_ Tryz.t248)))))) (n_ (T_ Tryz.t12) (n_ (T_ Tryz.t20) (n_ (T_ Tryz.t36) (n_ (T_ Tryz.t68) (n_ (T_ Tryz.t132) (e_ (T_ Tryz.t260)) .leaf) (e_ (T_ Tryz.t196))) (n_ (T_ Tryz.t100) (e_ (T_ Tryz.t164)) (e_ (T_ Tryz.t228)))) (n_ (T_ Tryz.t52) (n_ (T_ Tryz.t84) (n_ (T_ Tryz.t148) (e_ (T_ Tryz.t276)) .leaf) (e_ (T_ Tryz.t212))) (n_ (U_ Tryz.t116 Tryz.t115) (e_ (U_ Tryz.t180 Tryz.t179)) (e_ (T_ Tryz.t244))))) (n_ (T_ Tryz.t28) (n_ (T_ Tryz.t44) (n_ (U_ Tryz.t76 Tryz.t3) (n_ (T_ Tryz.t140) (e_ (T_ Tryz.t268)) .leaf) (e_ (T_ Tryz.t204))) (n_ (T_ Tryz.t108) (e_ (T_ Tryz.t172)) (e_ (T_ Tryz.t236)))) (n_ (U_ Tryz.t60 Tryz.t59) (n_ (U_ Tryz.t92 Tryz.t91) (n_ (T_ Tryz.t156) (e_ (U_ Tryz.t284 Tryz.t283)) .leaf) (e_ (T_ Tryz.t220))) (n_ (T_ Tryz.t124) (e_ (T_ Tryz.t188)) (e_ (T_ Tryz.t252))))))) (n_ (U_ Tryz.t6 Tryz.t5) (n_ (U_ Tryz.t10 Tryz.t9) (n_ (T_ Tryz.t18) (n_ (T_ Tryz.t34) (n_ (T_ Tryz.t66) (n_ (T_ Tryz.t130) (e_ (T_ Tryz.t258)) .leaf) (e_ (T_ Tryz.t194))) (n_ (T_ Tryz.t98) (e_ (T_ Tryz.t162)) (e_ (T_ Tryz.t226)))) (n_ (T_ Tryz.t50) (n_ (T_ Tryz.t82) (n_ (T_ Tryz.t146) (e_ (U_ Tryz.t274 Tryz.t273)) .leaf) (e_ (T_ Tryz.t210))) (n_ (T_ Tryz.t114) (e_ (T_ Tryz.t178)) (e_ (T_ Tryz.t242))))) (n_ d2w (n_ (T_ Tryz.t42) (n_ (T_ Tryz.t74) (n_ (T_ Tryz.t138) (e_ (T_ Tryz.t266)) .leaf) (e_ (T_ Tryz.t202))) (n_ (T_ Tryz.t106) (e_ (T_ Tryz.t170)) (e_ (T_ Tryz.t234)))) (n_ (T_ Tryz.t58) (n_ (T_ Tryz.t90) (n_ (T_ Tryz.t154) (e_ (U_ Tryz.t282 Tryz.t21)) .leaf) (e_ (T_ Tryz.t218))) (n_ (T_ Tryz.t122) (e_ (T_ Tryz.t186)) (e_ (T_ Tryz.t250)))))) (n_ (U_ Tryz.t14 Tryz.t13) (n_ (U_ Tryz.t22 Tryz.t3) (n_ (T_ Tryz.t38) (n_ (T_ Tryz.t70) (n_ (T_ Tryz.t134) (e_ (U_ Tryz.t262 Tryz.t261)) .leaf) (e_ (T_ Tryz.t198))) (n_ (T_ Tryz.t102) (e_ (U_ Tryz.t166 Tryz.t165)) (e_ (T_ Tryz.t230)))) (n_ (U_ Tryz.t54 Tryz.t53) (n_ (T_ Tryz.t86) (n_ (T_ Tryz.t150) (e_ (U_ Tryz.t278 Tryz.t5)) .leaf) (e_ (T_ Tryz.t214))) (n_ (T_ Tryz.t118) (e_ (U_ Tryz.t182 Tryz.t181)) (e_ (T_ Tryz.t246))))) (n_ b3b (n_ (T_ Tryz.t46) (n_ (T_ Tryz.t78) (n_ d4j (e_ (T_ Tryz.t270)) .leaf) (e_ (T_ Tryz.t206))) (n_ (T_ Tryz.t110) (e_ (T_ Tryz.t174)) (e_ (T_ Tryz.t238)))) (n_ (T_ Tryz.t62) (n_ (T_ Tryz.t94) (e_ (T_ Tryz.t158)) (e_ (T_ Tryz.t222))) (n_ (T_ Tryz.t126) (e_ (U_ Tryz.t190 Tryz.t189)) (e_ (T_ Tryz.t254))))))))
noncomputable def d2x:Trie Func:=n_ Tryz.f0 (n_ Tryz.f1 (n_ Tryz.f3 (n_ Tryz.f7 (n_ Tryz.f15 (n_ Tryz.f31 (n_ Tryz.f63 (e_ Tryz.f127) (e_ Tryz.f191)) (n_ Tryz.f95 (e_ Tryz.f159) (e_ Tryz.f223))) (n_ Tryz.f47 (n_ Tryz.f79 (e_ Tryz.f143) (e_ Tryz.f207)) (n_ Tryz.f111 (e_ Tryz.f175) (e_ Tryz.f239)))) (n_ Tryz.f23 (n_ Tryz.f39 (n_ Tryz.f71 (e_ Tryz.f135) (e_ Tryz.f199)) (n_ Tryz.f103 (e_ Tryz.f167) (e_ Tryz.f231))) (n_ Tryz.f55 (n_ Tryz.f87 (e_ Tryz.f151) (e_ Tryz.f215)) (n_ Tryz.f119 (e_ Tryz.f183) (e_ Tryz.f247))))) (n_ Tryz.f11 (n_ Tryz.f19 (n_ Tryz.f35 (n_ Tryz.f67 (e_ Tryz.f131) (e_ Tryz.f195)) (n_ Tryz.f99 (e_ Tryz.f163) (e_ Tryz.f227))) (n_ Tryz.f51 (n_ Tryz.f83 (e_ Tryz.f147) (e_ Tryz.f211)) (n_ Tryz.f115 (e_ Tryz.f179) (e_ Tryz.f243)))) (n_ Tryz.f27 (n_ Tryz.f43 (n_ Tryz.f75 (e_ Tryz.f139) (e_ Tryz.f203)) (n_ Tryz.f107 (e_ Tryz.f171) (e_ Tryz.f235))) (n_ Tryz.f59 (n_ Tryz.f91 (e_ Tryz.f155) (e_ Tryz.f219)) (n_ Tryz.f123 (e_ Tryz.f187) .leaf))))) (n_ Tryz.f5 (n_ Tryz.f9 (n_ Tryz.f17 (n_ Tryz.f33 (n_ Tryz.f65 (e_ Tryz.f129) (e_ Tryz.f193)) (n_ Tryz.f97 (e_ Tryz.f161) (e_ Tryz.f225))) (n_ Tryz.f49 (n_ Tryz.f81 (e_ Tryz.f145) (e_ Tryz.f209)) (n_ Tryz.f113 (e_ Tryz.f177) (e_ Tryz.f241)))) (n_ Tryz.f25 (n_ Tryz.f41 (n_ Tryz.f73 (e_ Tryz.f137) (e_ Tryz.f201)) (n_ Tryz.f105 (e_ Tryz.f169) (e_ Tryz.f233))) (n_ Tryz.f57 (n_ Tryz.f89 (e_ Tryz.f153) (e_ Tryz.f217)) (n_ Tryz.f121 (e_ Tryz.f185) .leaf)))) (n_ Tryz.f13 (n_ Tryz.f21 (n_ Tryz.f37 (n_ Tryz.f69 (e_ Tryz.f133) (e_ Tryz.f197)) (n_ Tryz.f101 (e_ Tryz.f165) (e_ Tryz.f229))) (n_ Tryz.f53 (n_ Tryz.f85 (e_ Tryz.f149) (e_ Tryz.f213)) (n_ Tryz.f117 (e_ Tryz.f181) (e_ Tryz.f245)))) (n_ Tryz.f29 (n_ Tryz.f45 (n_ Tryz.f77 (e_ Tryz.f141) (e_ Tryz.f205)) (n_ Tryz.f109 (e_ Tryz.f173) (e_ Tryz.f237))) (n_ Tryz.f61 (n_ Tryz.f93 (e_ Tryz.f157) (e_ Tryz.f221)) (n_ Tryz.f125 (e_ Tryz.f189) .leaf)))))) (n_ Tryz.f2 (n_ Tryz.f4 (n_ Tryz.f8 (n_ Tryz.f16 (n_ Tryz.f32 (n_ Tryz.f64 (e_ Tryz.f128) (e_ Tryz.f192)) (n_ Tryz.f96 (e_ Tryz.f160) (e_ Tryz.f224))) (n_ Tryz.f48 (n_ Tryz.f80 (e_ Tryz.f144) (e_ Tryz.f208)) (n_ Tryz.f112 (e_ Tryz.f176) (e_ Tryz.f240)))) (n_ Tryz.f24 (n_ Tryz.f40 (n_ Tryz.f72 (e_ Tryz.f136) (e_ Tryz.f200)) (n_ Tryz.f104 (e_ Tryz.f168) (e_ Tryz.f232))) (n_ Tryz.f56 (n_ Tryz.f88 (e_ Tryz.f152) (e_ Tryz.f216)) (n_ Tryz.f120 (e_ Tryz.f184) (e_ Tryz.f248))))) (n_ Tryz.f12 (n_ Tryz.f20 (n_ Tryz.f36 (n_ Tryz.f68 (e_ Tryz.f132) (e_ Tryz.f196)) (n_ Tryz.f100 (e_ Tryz.f164) (e_ Tryz.f228))) (n_ Tryz.f52 (n_ Tryz.f84 (e_ Tryz.f148) (e_ Tryz.f212)) (n_ Tryz.f116 (e_ Tryz.f180) (e_ Tryz.f244)))) (n_ Tryz.f28 (n_ Tryz.f44 (n_ Tryz.f76 (e_ Tryz.f140) (e_ Tryz.f204)) (n_ Tryz.f108 (e_ Tryz.f172) (e_ Tryz.f236))) (n_ Tryz.f60 (n_ Tryz.f92 (e_ Tryz.f156) (e_ Tryz.f220)) (n_ Tryz.f124 (e_ Tryz.f188) .leaf))))) (n_ Tryz.f6 (n_ Tryz.f10 (n_ Tryz.f18 (n_ Tryz.f34 (n_ Tryz.f66 (e_ Tryz.f130) (e_ Tryz.f194)) (n_ Tryz.f98 (e_ Tryz.f162) (e_ Tryz.f226))) (n_ Tryz.f50 (n_ Tryz.f82 (e_ Tryz.f146) (e_ Tryz.f210)) (n_ Tryz.f114 (e_ Tryz.f178) (e_ Tryz.f242)))) (n_ Tryz.f26 (n_ Tryz.f42 (n_ Tryz.f74 (e_ Tryz.f138) (e_ Tryz.f202)) (n_ Tryz.f106 (e_ Tryz.f170) (e_ Tryz.f234))) (n_ Tryz.f58 (n_ Tryz.f90 (e_ Tryz.f154) (e_ Tryz.f218)) (n_ Tryz.f122 (e_ Tryz.f186) .leaf)))) (n_ Tryz.f14 (n_ Tryz.f22 (n_ Tryz.f38 (n_ Tryz.f70 (e_ Tryz.f134) (e_ Tryz.f198)) (n_ Tryz.f102 (e_ Tryz.f166) (e_ Tryz.f230))) (n_ Tryz.f54 (n_ Tryz.f86 (e_ Tryz.f150) (e_ Tryz.f214)) (n_ Tryz.f118 (e_ Tryz.f182) (e_ Tryz.f246)))) (n_ Tryz.f30 (n_ Tryz.f46 (n_ Tryz.f78 (e_ Tryz.f142) (e_ Tryz.f206)) (n_ Tryz.f110 (e_ Tryz.f174) (e_ Tryz.f238))) (n_ Tryz.f62 (n_ Tryz.f94 (e_ Tryz.f158) (e_ Tryz.f222)) (n_ Tryz.f126 (e_ Tryz.f190) .leaf))))))
noncomputable def tab:Tab:=⟨d1F,d2x,7⟩
set_option maxRecDepth 100000
theorem V5:TabOk Tryz.prog tab:=d2n zw zw zw zw
theorem N7:Tryz.prog.follows .mixedOrders=true:=zw
end Go.Proofs.YtmomonnlmbljoaaGreatDoor
end
