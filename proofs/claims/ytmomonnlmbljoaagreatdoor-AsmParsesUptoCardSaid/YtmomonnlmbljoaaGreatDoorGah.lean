import Derived.Test.YtmomonnlmbljoaaGreatDoorProg
import Derived.Test.YtmomonnlmbljoaaGreatDoorGaf
import Derived.Test.YtmomonnlmbljoaaGreatDoorGag
set_option maxRecDepth 1000000
set_option maxHeartbeats 4000000
set_option linter.unusedVariables false
set_option linter.unusedSimpArgs false
noncomputable section
namespace Go.V
section
variable (p:Program)(T:Tab)
theorem b1x {op t x y k n m v}(h1:a4X op k n m=none)(h2:b3O op k (.ofNat n) (.ofNat m)=none)(h3:c0d op k n m=some v):a0J p T op t x y (.int k (.ofNat n)) (.int k (.ofNat m))=M.pure v:=by
 have hk:a2f k k=true:=by cases k<;>rfl
 have:a3h op k k (.ofNat n) (.ofNat m)=some v:=by grind[a3h,a6e]
 grind[a0J]
theorem b0j (k n)(h:n<a3U k):N8 k (.ofNat n)=.ofNat n:=by grind[N8,L8]
theorem b1N (t x y k n m)(h:n<a3U k):a0J p T .quo t x y (.int k (.ofNat n)) (.int k (.ofNat (m+1)))=M.pure (.int k (.ofNat (n/(m+1)))):=by refine b1x p T rfl rfl ?_;show some (Value.int k (N8 k (.ofNat (n/(m+1)))))=_;rw[b0j _ _ (uU (pW _ _) h)]
theorem b5F (t x y k n m):a0J p T .rem t x y (.int k (.ofNat n)) (.int k (.ofNat (m+1)))=M.pure (.int k (.ofNat (n%(m+1)))):=b1x p T rfl rfl rfl
theorem b2k (t x y k n m)(hk:a3U k=2^k.bits)(h1:n<a3U k)(h2:m<a3U k):a0J p T .and t x y (.int k (.ofNat n)) (.int k (.ofNat m))=M.pure (.int k (.ofNat (Nat.land n m))):=by refine b1x p T rfl rfl ?_;show some (Value.int k (N8 k (.ofNat (Nat.land (Nat.mod n (Nat.pow 2 k.bits)) (Nat.mod m (Nat.pow 2 k.bits))))))=_;have e1:Nat.mod n (Nat.pow 2 k.bits)=n:=uG (by rw[<-show(2:Nat)^k.bits=Nat.pow 2 k.bits from rfl,<-hk];exact h1);have e2:Nat.mod m (Nat.pow 2 k.bits)=m:=uG (by rw[<-show(2:Nat)^k.bits=Nat.pow 2 k.bits from rfl,<-hk];exact h2);rw[e1,e2,b0j];exact uU Nat.and_le_left h1
theorem a8A (t x y k k' n m)(h:m<=k.bits):a0J p T .shl t x y (.int k (.ofNat n)) (.int k' (.ofNat m))=M.pure (.int k (N8 k (.ofNat (n*2^m)))):=by
 have e:a3h .shl k k' (.ofNat n) (.ofNat m)=some (.int k (N8 k (.ofNat (n*2^m)))):=by
  have e1:a4X .shl k n m=some (.int k (N8 k (.ofNat (n*2^m)))):=by show some (Value.int k (N8 k (.ofNat (Nat.mul n (Nat.pow 2 (b0B k m))))))=_;simp_all[b0B,a2e]
  grind[a3h,a6e]
 grind[a0J]
theorem e1m (k k' z m)(h:m<=k.bits):a0H p (Op.shift .shr k z k' (.ofNat m))=some (.int k (z.fdiv (2^m))):=by unfold Op.shift;rw[vg zm];simp only[uL,Int.toNat_natCast,Nat.min_eq_left h];rfl
theorem U9 (t x y k k' z m)(h:m<=k.bits):a0J p T .shr t x y (.int k z) (.int k' (.ofNat m))=M.pure (.int k (z.fdiv (2^m))):=by
 cases z with
  |ofNat n=>
   have e:a3h .shr k k' (.ofNat n) (.ofNat m)=some (.int k (.ofNat (n/2^m))):=by
    have e1:a4X .shr k n m=some (.int k (.ofNat (n/2^m))):=by show some (Value.int k (.ofNat (Nat.div n (Nat.pow 2 (b0B k m)))))=_;unfold b0B;rw[a2e h];rfl
    grind[a3h,a6e]
   grind[a0J]|negSucc n=>
   have e:a3h .shr k k' (.negSucc n) (.ofNat m)=none:=by unfold a3h;show(match a2f k k' with|true=>_|false=>none)=none;cases a2f k k'<;>rfl
   unfold a0J;simp only[e];have hn:b1j T .shr t x y (.int k (.negSucc n)) (.int k' (.ofNat m))=none:=rfl;unfold a9s;rw[hn];simp only[show M7 8 (Value.int k (.negSucc n))=true from rfl,show M7 8 (Value.int k' (.ofNat m))=true from rfl,uk,V4];have k2:a0H p (do eqGuard .shr t x y (.int k (.negSucc n)) (.int k' (.ofNat m));binOp .shr t (.int k (.negSucc n)) (.int k' (.ofNat m)))=some (.int k ((Int.negSucc n).fdiv (2^m))):=by rw[a2Y];have:a0H p (eqGuard .shr t x y (.int k (.negSucc n)) (.int k' (.ofNat m)))=some ():=rfl;rw[this];exact e1m p k k' _ m h
   rw[k2];rfl
end
theorem a5c (s kl kh l h)(e:l<=h)(e2:h<=F9 s.data.toList):a5H (.string s) (some (.int kl (.ofNat l))) (some (.int kh (.ofNat h)))=M.pure (.string ⟨⟨a2i (F8 s.data.toList l) (h-l)⟩⟩):=by show a7K s _ _=_;grind[a7K,a2U,a9l,G7,a2e,V4,a0g]
theorem a5U (s kl l)(e2:l<=F9 s.data.toList):a5H (.string s) (some (.int kl (.ofNat l))) none=M.pure (.string ⟨⟨a2i (F8 s.data.toList l) (F9 s.data.toList-l)⟩⟩):=by show a7K s _ _=_;unfold a7K;grind[a2U,a9l,G7,a2e,V4,a0g]
theorem U0 (l i):d8q i (.tuple ⟨l⟩)=M.obind (a0r l i) M.pure:=wm rfl rfl
theorem c3e (l i):xF1 i (.agg ⟨l⟩)=M.obind (a0r l i) M.pure:=wm rfl rfl
theorem a1J (t b x y):a1O t (bcase b x y)=bcase b (a1O t x) (a1O t y):=ze
theorem V8 (t):a1O t undef=false:=wm rfl rfl
theorem a4i (b x):bcase b x false=(b&&x):=ze
theorem c5R (b x):bcase b x true=(!b||x):=ze
theorem c7f (b x):bcase b true x=(b||x):=ze
theorem c6X (b x):bcase b false x=(!b&&x):=ze
theorem b5g {β}(b x y u u' v s)(f:Value->M β)(e):bcase b (U3 (go (a3R (bcase b x u) (bcase b y u') v) s) f) e=bcase b (U3 (go (a3R x y v) s) f) e:=ze
theorem b5z {β}(b n x y u u' v s)(f:Value->M β)(e):bcase b (U3 (go (a3R (bcase b x u) (bcase (b&&n) y u') v) s) f) e=bcase b (U3 (go (a3R x (bcase n y u') v) s) f) e:=ze
theorem b5c {β}(b x y u u' v s)(f:Value->M β)(e):bcase b e (U3 (go (a3R (bcase b u x) (bcase b u' y) v) s) f)=bcase b e (U3 (go (a3R x y v) s) f):=ze
theorem b5w {β}(b n x y u u' v s)(f:Value->M β)(e):bcase b e (U3 (go (a3R (bcase b u x) (bcase (!b&&n) y u') v) s) f)=bcase b e (U3 (go (a3R x (bcase n y u') v) s) f):=ze
theorem b0g {α}(x y:List α):F9 (I9 x y)=F9 x+F9 y:=by rw[J2,J2,J2,V7,wW]
theorem b3I (b c):a3R (.bool (!b)) (.bool true) (bcase b (.bool c) undef)=M.pure (.bool (!b||c)):=ze
theorem b1V (b c):a3R (.bool (!b)) (bcase b undef (.bool c)) (.bool false)=M.pure (.bool (!b&&c)):=ze
theorem X8 (a b):a3R (.bool true) a b=M.pure a:=wm rfl rfl
theorem X0 (a b):a3R (.bool false) a b=M.pure b:=wm rfl rfl
theorem b6W (b x y):bcase b (CR.ret x) (CR.ret y)=.ret (bcase b x y):=ze
theorem b7g (b x y):bcase b (Value.string ⟨⟨x⟩⟩) (Value.string ⟨⟨y⟩⟩)=.string ⟨⟨bcase b x y⟩⟩:=ze
theorem c1b (b k x y):bcase b (Value.int k x) (Value.int k y)=.int k (bcase b x y):=ze
theorem b7B (b x y):bcase b (Value.bool x) (Value.bool y)=.bool (bcase b x y):=ze
theorem b3M (call f vs):a1M call f vs=M.bind (call f vs) λr=>a1w r M.pure λ_=>M.fail:=wm rfl rfl
theorem a1v (F):a0v [] F=true:=wm rfl rfl
theorem a0W (i j:Nat)(L:List (Nat×Nat))(F:List a0A):a0v ((i,j)::L) F=((match a0r F i with
 |some x=>match a0r F j with|some y=>a2p x y|none=>false
 |none=>false)&&a0v L F):=X7 _ _ _
theorem b3o (a b c d):a2p (a,b) (c,d)=(Y3 b c&&Y3 b d&&Y3 d a):=wm rfl rfl
theorem a0N (m):Y3 [] m=true:=wm rfl rfl
theorem a1Q (i l m):Y3 (i::l) m=(!(a2D i m)&&Y3 l m):=X7 _ _ _
theorem O9 (l):Y3 l []=true:=by induction l with|nil=>rfl|cons i l ih=>rw[a1Q,ih];rfl
theorem a4w (i):a2D i []=false:=wm rfl rfl
theorem a3v (i x:Nat)(m:List Nat):a2D i (x::m)=match Nat.beq i x with|true=>true|false=>a2D i m:=wm rfl rfl
theorem e1r {sh f N}{q:Cb->Nat->I5->M CR}(h:sh.get f=some (ar0 (q a2y N)))(n):o8 sh (n+1) f []=q o9 N (o8 sh n):=yl
theorem a1j {sh f N}{q:Cb->Nat->I5->Value->M CR}(h:sh.get f=some (ar1 (q a2y N)))(n a):o8 sh (n+1) f [a]=q o9 N (o8 sh n) a:=yl
theorem a0Z {sh f N}{q:Cb->Nat->I5->Value->Value->M CR}(h:sh.get f=some (ar2 (q a2y N)))(n a b):o8 sh (n+1) f [a,b]=q o9 N (o8 sh n) a b:=yl
theorem a5I {sh f N}{q:Cb->Nat->I5->Value->Value->Value->M CR}(h:sh.get f=some (ar3 (q a2y N)))(n a b c):o8 sh (n+1) f [a,b,c]=q o9 N (o8 sh n) a b c:=yl
theorem b0T {sh f N}{q:Cb->Nat->I5->Value->Value->Value->Value->M CR}(h:sh.get f=some (ar4 (q a2y N)))(n a b c d):o8 sh (n+1) f [a,b,c,d]=q o9 N (o8 sh n) a b c d:=yl
end Go.V
end
noncomputable section
namespace Go.V
def on1 (k:IntKind)(q:Int->Option Value)(bs:List Value):Option Value:=match bs with|[.int k' n]=>bcase (a2f k k') (q n) none|_=>none
def on2 (k1 k2:IntKind)(q:Int->Int->Option Value)(bs:List Value):Option Value:=match bs with|[.int k1' n,.int k2' m]=>bcase (a2f k1 k1'&&a2f k2 k2') (q n m) none|_=>none
theorem b9l (k):a2f k k=true:=by cases k<;>rfl
theorem c5H {k q bs v}(h:on1 k q bs=some v):∃n,bs=[.int k n]/\q n=some v:=by
 unfold on1 at h;split at h;rename_i k' n;cases hk:a2f k k' with|true=>rw[hk]at h;rw[a8I hk];exact⟨n,rfl,h⟩|false=>rw[hk]at h;cases h
 cases h
theorem d9H (k q n):on1 k q [.int k n]=q n:=by show bcase (a2f k k) (q n) none=_;rw[b9l];rfl
def X1 (k:IntKind)(q:Int->Option Value):List Value->M Value:=λbs=>M.lift (on1 k q bs)
def X2 (k1 k2:IntKind)(q:Int->Int->Option Value):List Value->M Value:=λbs=>M.lift (on2 k1 k2 q bs)
theorem a6G {sh f k q}(h:sh.get f=some (arX (X1 k q)))(m){n v}(e:q n=some v):o8 sh (m+1) f [.int k n]=M.pure (.ret v):=a0o sh m f _ h (by rw[d9H];exact e)
def a4B (m:M CR)(v:Value):Prop:=∀c h r w,l9 (go m ⟨c,h,r,w⟩) λx s2=>x=.ret v/\∀i,i<c->s2.h.get i=h.get i
theorem a4B.pure {m v}(h:m=M.pure (.ret v)):a4B m v:=λc hh r w=>⟨.ret v,_,by rw[h];rfl,rfl,λ_ _=>rfl⟩
section
variable {P:Program}{T:Tab}{vs:a2C}{ext:Nat->Option (List Value->M Value)}{N:Nat}{sh:a1r}
theorem b7N (hT:TabOk P T)(hM:P.follows .mixedOrders=true)(L:Shelf' P T vs N ext sh){f fn cd}(hPf:P.funcs[f]?=some fn)(hnum:(fn.name== "runtime.NumGoroutine")=false)(hb:fn.body=some cd){k}{q}(h:∀n v,q n=some v->M7 8 v=true/\∃m,a4B (o8 sh m f [.int k n]) v):V6 P T vs f (X1 k q):=a2n hT hM L.e L.s hPf hnum hb λbs v hq=>by obtain⟨n,rfl,e⟩:=c5H hq;obtain⟨h1,m,h2⟩:=h n v e;exact⟨h1,λc h r w=>⟨m,h2 c h r w⟩⟩
theorem a7B {f k q}(h:∀n v,q n=some v->M7 8 v=true/\a6Q P vs f [.int k n] v):V6 P T vs f (X1 k q):=a9u λbs v hq=>by obtain⟨n,rfl,e⟩:=c5H hq;exact⟨rfl,h n v e⟩
end
end Go.V
namespace Go.V
section
variable {P:Program}{T:Tab}{vs:a2C}
noncomputable def b1f (r:Option (CR×S))(m:Nat):Bool:=match r with
 |some x=>match x.1 with
  |.ret v=>match v with|.int k n=>a2f k .i64&&(match n with|.ofNat j=>Nat.beq j m|.negSucc _=>false)|_=>false
  |.pan _=>false
 |none=>false
theorem a9L {r m}(h:b1f r m=true):∃s,r=some (.ret (.int .i64 (.ofNat m)),s):=by unfold b1f at h;split at h;rename_i x;split at h;rename_i v hv;split at h;rename_i k n;rw[wh]at h;split at h;rename_i j;obtain⟨y,s⟩:=x;obtain rfl:y=_:=hv;obtain rfl:=a8I h.1;simp_all;cases h.2;cases h;cases h;cases h
end
end Go.V
end
noncomputable section
namespace Go.V
def SlV (c:Nat)(h:Trie VObj)(v:Value)(vs:List Value):Prop:=∃a e,v=.slice a vs.length e/\(vs=[]\/∃b o g cs cur ro,a=some ⟨b,o,some g⟩/\e=1/\b<c/\h.get b=some (.cells cs cur ro)/\A7 g (F8 cs o) vs.length=some vs)
theorem a1e {g}:∀{cs} {n} {vs},A7 g cs n=some vs->∀(i) (x),vs[i]?=some x->A7 g (F8 cs i) 1=some [x]:=by
 intro cs;induction cs with
  |nil=>intro n vs h i x hx;cases n with|zero=>cases h;simp at hx|succ n=>cases h
  |cons q cs ih=>
   intro n vs h i x hx;cases n with
    |zero=>cases h;simp at hx|succ n=>
     obtain⟨v,st⟩:=q;rw[a0D]at h;split at h;rename_i hb;split at h;rename_i vs' hvs;cases h;cases i with|zero=>obtain rfl:v=x:=zu;rw[Y7,a0D,hb,Y5]|succ i=>exact ih hvs i x zu
     cases h;cases h
theorem SlV.get {c h v vs}(H:SlV c h v vs){i x}(hx:vs[i]?=some x):∃b o g cs cur ro,v=.slice (some ⟨b,o,some g⟩) vs.length 1/\b<c/\h.get b=some (.cells cs cur ro)/\A7 g (F8 cs (o+i)) 1=some [x]:=by obtain⟨a,e,rfl,hor⟩:=H;rcases hor with rfl|⟨b,o,g,cs,cur,ro,rfl,rfl,h1,h2,h3⟩;simp at hx;exact⟨b,o,g,cs,cur,ro,rfl,h1,h2,by rw[a3y];grind[a1e]⟩
theorem SlV.read {c c' h h' v vs}(H:SlV c h v vs)(hc:c<=c')(hh:∀b,b<c->h'.get b=h.get b){i x}(hx:vs[i]?=some x):∃p b,b<c/\a7l 1 v (.int .i64 (.ofNat i))=M.pure p/\∀r w,go (a6U p) ⟨c',h',r,w⟩=some (x,⟨c',h',b::r,w⟩):=by obtain⟨b,o,g,cs,cur,ro,rfl,h1,h2,h3⟩:=H.get hx;have hlt:i<vs.length:=(xC.1 hx).1;refine⟨.pointer (some ⟨b,o+i*1,some g⟩),b,h1,a1d 1 i vs.length .i64 b o (some g) hlt zq,λr w=>?_⟩;rw[a1s,L8 zy,hh b h1,h2,Z5,vQ,h3];rfl
theorem SlV.len {c h v vs}(H:SlV c h v vs):b1Z v=M.pure (.int .i64 (.ofNat vs.length)):=by obtain⟨a,e,rfl,_⟩:=H;rfl
theorem SlV.one {c h v vs}(H:SlV c h v vs):P8 v=true:=by obtain⟨a,e,rfl,_⟩:=H;rfl
theorem SlV.mono {c c' h h' v vs}(H:SlV c h v vs)(hc:c<=c')(hh:∀b,b<c->h'.get b=h.get b):SlV c' h' v vs:=yM
def c6m (v:Value):M (List Value):=M.guard (b5h v) (b0p 1 v)
theorem Fr.rdSl (v:Value):Fr (c6m v):=Fr.guard _ (Fr.source _ _)
theorem d2L {v s s' vs}(h:c6m v s=some (vs,s')):SlV s.c s.h v vs/\s'.c=s.c/\s'.h=s.h:=by
 obtain⟨h1,h2⟩:=I4 h;cases v with
  |slice a n e=>
   have h3:(match a with|none=>M.guard (Nat.beq n 0)<|M.pure []|some a=>match n with|0=>M.pure []|len+1=>M.guard (Nat.beq e 1)<|loadN a ((len+1)*1)) s=some (vs,s'):=h2;cases a with
    |none=>obtain⟨q1,q2⟩:=I4 h3;obtain⟨rfl,rfl⟩:=y8 q2;obtain rfl:=wo q1;exact⟨⟨none,e,rfl,Or.inl rfl⟩,rfl,rfl⟩|some a=>
     cases n with
      |zero=>obtain⟨rfl,rfl⟩:=y8 h3;exact⟨⟨some a,e,rfl,Or.inl rfl⟩,rfl,rfl⟩|succ n=>
       obtain⟨q1,q2⟩:=I4 h3;have hb:a.block<s.c:=by obtain⟨g,h5,h6⟩:=H9 q2;obtain⟨o,s1,h7,_⟩:=E8 h6;exact(a9Q h7).1
       obtain⟨g,cs,cur,ro,e1,e2,e3,e4,e5⟩:=a9d q2;obtain rfl:=wo q1;rw[vQ,<-a0O]at e3;have hl:vs.length=n+1:=(a6H g _ _ _ e3).1;obtain⟨b,off,sp⟩:=a;obtain rfl:sp=some g:=e1;refine⟨⟨_,1,by rw[hl],Or.inr ⟨b,off,g,cs,cur,ro,rfl,rfl,hb,e2,by rw[hl];exact e3⟩⟩,e4,e5⟩
  |_=>cases h1
end Go.V
namespace Go.V
end Go.V
end
noncomputable section
namespace Go.V
def b9y {α:Type}(x:Option (α×S))(r w:List Nat):Option ((α×a0A)×S):=match x with|none=>none|some y=>some ((y.1,(y.2.r,y.2.w)),⟨y.2.c,y.2.h,I9 y.2.r r,I9 y.2.w w⟩)
theorem b7G {α}(m:M α)(c h r w):go (M.foot m) ⟨c,h,r,w⟩=b9y (go m ⟨c,h,[],[]⟩) r w:=rfl
theorem b7d {α}(a:α)(c h r' w' r w):b9y (some (a,(⟨c,h,r',w'⟩:S))) r w=some ((a,(r',w')),⟨c,h,I9 r' r,I9 w' w⟩):=wm rfl rfl
theorem x9 {α}{x y:Option (α×S)}(r w)(h:x=y):b9y x r w=b9y y r w:=by rw[h]
section
variable {P:Program}{T:Tab}{vs:a2C}
def d8g (q:List Value->Option (List Value))(bs:List Value):M Value:=M.obind (q bs) λcs=>match cs with|[]=>M.pure (.slice none 0 0)|v::cs=>M.bind (a0b (v::cs)) λa=>M.pure (.slice (some a) (F9 cs+1) 1)
end
end Go.V
end
noncomputable section
namespace Go.V
open Go.RowKit (Below)
def b3V (l:List UInt8):List UInt8->Bool:=List.rec (motive:=λ_=>List UInt8->Bool) (λ_=>true) (λv _ ih m=>match m with|[]=>false|w::m=>match Nat.beq v.toNat w.toNat with|true=>ih m|false=>false) l
def b3u (sub s:List UInt8):Bool:=List.rec (motive:=λ_=>Bool) (b3V sub []) (λc s ih=>match b3V sub (c::s)with|true=>true|false=>ih) s
theorem c3s (l):∀m,b3V l m=l.isPrefixOf m:=by
 induction l with
  |nil=>intro m;cases m<;>rfl|cons v l ih=>
   intro m;cases m with
    |nil=>rfl|cons w m=>
     show(match Nat.beq v.toNat w.toNat with|true=>b3V l m|false=>false)=(v==w&&l.isPrefixOf m);have e:Nat.beq v.toNat w.toNat=(v==w):=by rw[tJ];simp_all[tL]
     rw[e,ih];cases v==w<;>simp
def b7K (l:List UInt8)(n:Nat):List UInt8:=Nat.rec (motive:=λ_=>List UInt8) [] (λ_ ih=>I9 l ih) n
def b0D (sep:List UInt8)(xs:List (List UInt8)):List UInt8:=List.rec (motive:=λ_=>List UInt8) [] (λx _ ih=>I9 sep (I9 x ih)) xs
def c7x (sep:List UInt8)(xs:List (List UInt8)):List UInt8:=match xs with|[]=>[]|x::xs=>I9 x (b0D sep xs)
theorem c7B (l n):b7K l n=Lib.repeatL l n:=by induction n with|zero=>rfl|succ n ih=>show I9 l (b7K l n)=_;rw[V7,ih];rfl
theorem c2O (sep xs):b0D sep xs=Lib.joinTail sep xs:=by induction xs<;>first|rfl|grind[b0D,V7,Lib.joinTail]
theorem c3g (sep xs):c7x sep xs=Lib.join xs sep:=by cases xs with|nil=>rfl|cons x xs=>show I9 x (b0D sep xs)=_;rw[V7,c2O,Lib.join_cons]
theorem c2u (sub s):b3u sub s=Lib.contains s sub:=by
 unfold Lib.contains;induction s with
  |nil=>show b3V sub []=_;rw[c3s];cases sub with|nil=>rfl|cons a t=>rfl
  |cons c s ih=>show(match b3V sub (c::s)with|true=>true|false=>b3u sub s)=_;rw[c3s,ih,Lib.index];have hge:=Lib.index_ge s sub;grind
def b0s (bs:List Value):Option Value:=match bs with
 |[.string s,.string sub]=>match Nat.blt (F9 s.data.toList) 4294967281 with|true=>some (.bool (b3u sub.data.toList s.data.toList))|false=>none
 |_=>none
def b4p (bs:List Value):Option Value:=match bs with
 |[.string s,.int .i64 (.ofNat c)]=>match Nat.blt c 4294967296&&Nat.ble (F9 s.data.toList*c) 4294967296 with|true=>some (.string ⟨⟨b7K s.data.toList c⟩⟩)|false=>none
 |_=>none
def b6X (vs:List Value):Option (List (List UInt8)):=List.rec (motive:=λ_=>Option (List (List UInt8))) (some []) (λv _ ih=>match v with
 |.string s=>match ih with|some l=>some (s.data.toList::l)|none=>none
 |_=>none) vs
theorem c7w:∀(vs) (l),b6X vs=some l->vs=l.map λx=>.string ⟨⟨x⟩⟩:=by
 intro vs;induction vs with
  |nil=>intro l h;cases h;rfl|cons v vs ih=>
   intro l h;cases v with
    |string s=>have h:(match b6X vs with|some l=>some (s.data.toList::l)|none=>none)=some l:=h;cases hs:b6X vs with|none=>rw[hs]at h;cases h|some l'=>rw[hs]at h;cases h;rw[ih l' hs];rfl
    |_=>cases h
def b4f (bs:List Value):M Value:=match bs with
 |[.slice a len es,.string sep]=>match len with|0=>M.pure (.string ⟨⟨[]⟩⟩)|n+1=>M.obind a λa=>M.guard (Nat.beq es 1)<|M.bind (loadN a (n+1)) λvs=>M.obind (b6X vs) λxs=>M.guard (Nat.blt n 4294967295&&Nat.blt (F9 (c7x sep.data.toList xs)) 4294967296)<|M.pure (.string ⟨⟨c7x sep.data.toList xs⟩⟩)
 |_=>M.fail
section
variable {P:Program}{T:Tab}{vs:a2C}
theorem c3X {f:Nat}(hen:∀(aS9) w,(callFunc f aS9).run P w=.ok (.enter f aS9) w)(h0:∀(a) (c) (sep) (w),Calls P f #[.slice a 0 c,.string sep] w λe w'=>e=.returned (.string ⟨#[]⟩)/\w'=w) (h1:∀(bk o c) (xs:List ByteArray) (sep) (w),(∀(j) x,xs[j]?=some x->w.cell? ⟨bk,o+j,none⟩=some (.string x))->bk<w.heap.size->xs.length<=140737488355328->xs.length<=c->(Lib.join (xs.map (·.data.toList)) sep.data.toList).length<=140737488355328->Calls P f #[.slice (some ⟨bk,o,none⟩) xs.length c,.string sep] w λe w'=>e=.returned (.string ⟨(Lib.join (xs.map (·.data.toList)) sep.data.toList).toArray⟩)/\Below w.heap.size w w'):V6 P T vs f b4f:=by
 refine⟨λaS9=>?_,?_⟩;unfold b4f;grind[Fr.pure,Fr.obind,Fr.guard,Fr.bind,Fr.loadN,Fr.fail];intro B0 w0 hL hB aS9 s v s' w K as' h S hG F has;unfold b4f at h;split at h;rename_i a len es sep;obtain⟨x',y',rfl⟩:∃x' y',as'=[x',y']:=by have:=has.len;match as',this with|[x',y'],_=>simp_all
 have ry:y'=.string sep:=(has.at_ 1 _ _ rfl rfl).eq_of_plain rfl;have rx:VR K x' (.slice a len es):=has.at_ 0 _ _ rfl rfl;subst ry;refine Or.inr ⟨hen _ _,?_⟩;split at h;obtain⟨rfl,rfl⟩:=y8 h;have:∃a' c,x'=.slice a' 0 c:=by generalize hz:Value.slice a 0 es=z at rx;cases rx<;>grind
 obtain⟨a',c,rfl⟩:=this;refine(h0 a' c sep w).mono λe w' ⟨q1,q2⟩=>?_;subst q2;exact⟨_,K,q1,Step.same S rfl,.plain rfl⟩;rename_i n;obtain⟨ad,ea,h2⟩:=H9 h;subst ea;obtain⟨hes,h3⟩:=I4 h2;obtain⟨ws,s1,h4,h5⟩:=E8 h3;obtain⟨xs,hx,h6⟩:=H9 h5;obtain⟨hg,h7⟩:=I4 h6;obtain⟨rfl,rfl⟩:=y8 h7;simp only[wh]at hg;obtain⟨g,cs,cur,ro,e1,e2,e3,e4,e5⟩:=a9d h4;have es1:=wo hes;subst es1;have hsl:∃l a' cap,x'=.slice (some a') (n+1) cap/\K ad.block g=some l/\l.lo<=ad.off/\n+1<=cap/\a'=⟨l.blk,l.at_+(ad.off-l.lo),none⟩:=by generalize hz:Value.slice (some ad) (n+1) 1=z at rx;cases rx with|plain hp=>grind[V.plain]| @slice b g' off len cap es l a' hk hlo hes' hcap hsp hor=>cases hz;cases e1;have hcap0:cap≠0:=zy;obtain⟨q1,q2,_⟩:=hor.resolve_left hcap0;obtain⟨ab,ao,asp⟩:=a';grind|_=>cases hz
 obtain⟨l,a',cap,rfl,hk,hlo,hcap,rfl⟩:=hsl;obtain⟨ws',c1,c2,c3⟩:=a8S S hk hlo e2 e3;have hws:=c7w ws xs hx;have hw':ws'=ws:=by
  apply vK;intro i;by_cases hi:i<ws.length;have hi':i<ws'.length:=by rw[c1.len];exact hi
  have r:=c1.at_ i _ _ (wz hi') (wz hi);rw[wz hi',wz hi];have:plain ws[i]=true:=by
   have hm:∀u,u∈ws->plain u=true:=λu hu=>by rw[hws]at hu;obtain⟨y,_,hy⟩:=uj.1 hu;rw[<-hy];rfl
   simp_all
  rw[r.eq_of_plain this];rw[wT (by rw[c1.len];omega),wT zy]
 have hlen:xs.length=n+1:=by rw[<-c2,hws];simp
 have key:=h1 l.blk (l.at_+(ad.off-l.lo)) cap (xs.map λx=>(⟨⟨x⟩⟩:ByteArray)) sep w (λj x hj=>zu) (S.dom _ _ _ hk) (by have:=hg.1;simp at this⊢;omega) zg (by
  have hj:(xs.map λx=>(⟨⟨x⟩⟩:ByteArray)).map (λb=>b.data.toList)=xs:=by rw[tX];exact List.map_id'' (λ_=>rfl) xs
  rw[hj,<-c3g];have:=hg.2;rw[J2]at this;simp at this;omega);have hj:(xs.map λx=>(⟨⟨x⟩⟩:ByteArray)).map (λb=>b.data.toList)=xs:=by rw[tX];exact List.map_id'' (λ_=>rfl) xs
 rw[hj,<-c3g]at key;rw[wK,hlen]at key;refine key.mono λe w' ⟨q1,q2⟩=>?_;refine⟨_,K,q1,⟨KM.le_refl K,λ_ _ _=>rfl,?_⟩,.plain rfl⟩;rw[e5];exact a5Y S ⟨q2.os,q2.tape,q2.output,q2.size,q2.block⟩;cases h
end
end Go.V
end
noncomputable section
namespace Go.V
variable {c:Nat}{h:Trie VObj}{r w:List Nat}
def apS {γ:Type}(lt:Bool)(ob:Option VObj)(o g len:Nat)(vs:List Value)(k:List (Value×Nat)->Nat->Bool->Option γ):Option γ:=match lt with
 |true=>match ob with
  |some (.cells cs cur ro)=>match !ro&&Nat.ble (o+len) (F9 cs)with
   |true=>match A7 g (F8 cs o) len with|some _=>k (I9 (a2i cs (o+len)) (J7 (λv=>(v,cur+1)) vs)) cur ro|none=>none
   |false=>none
  |_=>none
 |false=>none
theorem D6 {γ lt lt' ob ob'}(o g len vs)(k:List (Value×Nat)->Nat->Bool->Option γ)(h1:lt=lt')(h2:ob=ob'):apS lt ob o g len vs k=apS lt' ob' o g len vs k:=by rw[h1,h2]
theorem b4K:P8 .nilFunc=true:=wm rfl rfl
theorem b2L:(Value.nilFunc).cells.toList=[.nilFunc]:=wm rfl rfl
theorem e1Q (c:Nat):Nat.beq c (c+1)=false:=a0e _ _ zy
theorem e1T (c):Nat.beq (c+1) c=false:=a0e _ _ zy
theorem d7T (c:Nat):Nat.beq c (c+1+1)=false:=a0e _ _ zy
theorem e1l (c):Nat.beq (c+1+1) c=false:=a0e _ _ zy
theorem d9X (c:Nat):Nat.beq c (c+1+1+1)=false:=a0e _ _ zy
theorem e2u (c):Nat.beq (c+1+1+1) c=false:=a0e _ _ zy
theorem d9x (c:Nat):Nat.beq c (c+1+1+1+1)=false:=a0e _ _ zy
theorem e0Q (c):Nat.beq (c+1+1+1+1) c=false:=a0e _ _ zy
theorem d8U (c:Nat):Nat.beq c (c+1+1+1+1+1)=false:=a0e _ _ zy
theorem e1q (c):Nat.beq (c+1+1+1+1+1) c=false:=a0e _ _ zy
theorem d9V (c:Nat):Nat.beq c (c+1+1+1+1+1+1)=false:=a0e _ _ zy
theorem d9B (c):Nat.beq (c+1+1+1+1+1+1) c=false:=a0e _ _ zy
theorem d8R (c:Nat):Nat.beq c (c+1+1+1+1+1+1+1)=false:=a0e _ _ zy
theorem e1u (c):Nat.beq (c+1+1+1+1+1+1+1) c=false:=a0e _ _ zy
theorem e2o (c:Nat):Nat.beq c (c+1+1+1+1+1+1+1+1)=false:=a0e _ _ zy
theorem e0M (c):Nat.beq (c+1+1+1+1+1+1+1+1) c=false:=a0e _ _ zy
theorem e0B (c:Nat):Nat.beq c (c+1+1+1+1+1+1+1+1+1)=false:=a0e _ _ zy
theorem d9A (c):Nat.beq (c+1+1+1+1+1+1+1+1+1) c=false:=a0e _ _ zy
theorem d3H (c:Nat):Nat.beq c (c+1+1+1+1+1+1+1+1+1+1)=false:=a0e _ _ zy
theorem d3G (c):Nat.beq (c+1+1+1+1+1+1+1+1+1+1) c=false:=a0e _ _ zy
theorem d4f (c:Nat):Nat.beq c (c+1+1+1+1+1+1+1+1+1+1+1)=false:=a0e _ _ zy
theorem d3N (c):Nat.beq (c+1+1+1+1+1+1+1+1+1+1+1) c=false:=a0e _ _ zy
theorem d5b (c:Nat):Nat.beq c (c+1+1+1+1+1+1+1+1+1+1+1+1)=false:=a0e _ _ zy
theorem d4R (c):Nat.beq (c+1+1+1+1+1+1+1+1+1+1+1+1) c=false:=a0e _ _ zy
theorem d3F (c:Nat):Nat.beq c (c+1+1+1+1+1+1+1+1+1+1+1+1+1)=false:=a0e _ _ zy
theorem d5e (c):Nat.beq (c+1+1+1+1+1+1+1+1+1+1+1+1+1) c=false:=a0e _ _ zy
theorem d4b (c:Nat):Nat.beq c (c+1+1+1+1+1+1+1+1+1+1+1+1+1+1)=false:=a0e _ _ zy
theorem d5p (c):Nat.beq (c+1+1+1+1+1+1+1+1+1+1+1+1+1+1) c=false:=a0e _ _ zy
end Go.V
end
section
namespace Go.V
theorem dy {p:Prop}(h:p:=by first|assumption|omega|(simp only[e1Q,e1T,d7T,e1l,d9X,e2u,d9x,e0Q,d8U,e1q,d9V,d9B,d8R,e1u,e2o,e0M,e0B,d9A,d3H,d3G,d4f,d3N,d5b,d4R,d3F,d5e,d4b,d5p,b4K,b2L,Nat.reduceMul,Nat.reduceLT,X7,a7g,a9P,a8E,a5n,a7x,a5F,a8v,a2A,uy,sK,uC,vE,uk,a5V,b1T,wM,Nat.reduceAdd,J4,a6c,Nat.reduceBEq,O5,O4,a7s,a3I,a6E,a5E,a4h,a6r,a1I,a8x,c1A,c3N,c3c,c2I,c2J,a1v,a0W,b3o,a0N,a1Q,O9,a4w,a3v,a3U,IntKind.bits,b0g,a5g,a6g]<;>omega)):p:=h
theorem dx {p:Prop}(h:p:=by first|assumption|omega|(simp only[X7,a7g,a9P,a8E,a5n,a7x,a5F,a8v,a2A,uy,sK,uC,vE,uk,a5V,b1T,wM,Nat.reduceAdd,J4,a6c,Nat.reduceBEq,O5,O4,a7s,a3I,a6E,a5E,a4h,a6r,a1I,a8x,c1A,c3N,c3c,c2I,c2J,a1v,a0W,b3o,a0N,a1Q,O9,a4w,a3v,a3U,IntKind.bits,b0g,a5g,a6g]<;>omega)):p:=h
end Go.V
end
namespace Go.Proofs.YtmomonnlmbljoaaGreatDoor
open Go.V Go.RowKit Go.Shelf Go.Proofs
variable {mL:Int}
section
noncomputable def b0b (i:TypeInfo)(u:TypeDesc):TI:=⟨u,i.size,i.bytes,i.zero.getD undef⟩
noncomputable abbrev T_ (i:TypeInfo):TI:=b0b i i.desc
noncomputable abbrev U_ (i j:TypeInfo):TI:=b0b i j.desc
abbrev n_ {α:Type}(x:α)(l r:Trie α):Trie α:=.node (some x) l r
abbrev e_ {α:Type}(x:α):Trie α:=n_ x .leaf .leaf
noncomputable def ti3:TI:=b0b Tryz.t3 Tryz.t3.desc
noncomputable def ti9:TI:=b0b Tryz.t9 Tryz.t9.desc
noncomputable def d2U:TI:=b0b Tryz.t26 Tryz.t25.desc
noncomputable def a6j:TI:=b0b Tryz.t30 Tryz.t29.desc
noncomputable def c0w:TI:=b0b Tryz.t119 Tryz.t118.desc
noncomputable def b6t:TI:=b0b Tryz.t127 Tryz.t126.desc
noncomputable def d4E:TI:=b0b Tryz.t142 Tryz.t141.desc
noncomputable def b6q:TI:=b0b Tryz.t160 Tryz.t159.desc
noncomputable def b7q:TI:=b0b Tryz.t175 Tryz.t174.desc
noncomputable def d2O:Trie TI:=n_ (T_ Tryz.t0) (n_ (T_ Tryz.t1) (n_ ti3 (n_ (T_ Tryz.t7) (n_ (T_ Tryz.t15) (n_ (T_ Tryz.t31) (n_ (T_ Tryz.t63) (n_ b6t (e_ (T_ Tryz.t255)) .leaf) (e_ (T_ Tryz.t191))) (n_ (T_ Tryz.t95) (e_ (T_ Tryz.t159)) (e_ (T_ Tryz.t223)))) (n_ (T_ Tryz.t47) (n_ (T_ Tryz.t79) (n_ (T_ Tryz.t143) (e_ (T_ Tryz.t271)) .leaf) (e_ (T_ Tryz.t207))) (n_ (T_ Tryz.t111) (e_ b7q) (e_ (T_ Tryz.t239))))) (n_ (T_ Tryz.t23) (n_ (T_ Tryz.t39) (n_ (T_ Tryz.t71) (n_ (T_ Tryz.t135) (e_ (T_ Tryz.t263)) .leaf) (e_ (T_ Tryz.t199))) (n_ (T_ Tryz.t103) (e_ (T_ Tryz.t167)) (e_ (T_ Tryz.t231)))) (n_ (T_ Tryz.t55) (n_ (T_ Tryz.t87) (n_ (U_ Tryz.t151 Tryz.t150) (e_ (U_ Tryz.t279 Tryz.t5)) .leaf) (e_ (T_ Tryz.t215))) (n_ c0w (e_ (T_ Tryz.t183)) (e_ (T_ Tryz.t247)))))) (n_ (U_ Tryz.t11 Tryz.t9) (n_ (U_ Tryz.t19 Tryz.t18) (n_ (T_ Tryz.t35) (n_ (T_ Tryz.t67) (n_ (T_ Tryz.t131) (e_ (U_ Tryz.t259 Tryz.t258)) .leaf) (e_ (T_ Tryz.t195))) (n_ (T_ Tryz.t99) (e_ (T_ Tryz.t163)) (e_ (T_ Tryz.t227)))) (n_ (T_ Tryz.t51) (n_ (T_ Tryz.t83) (n_ (T_ Tryz.t147) (e_ (T_ Tryz.t275)) .leaf) (e_ (T_ Tryz.t211))) (n_ (T_ Tryz.t115) (e_ (T_ Tryz.t179)) (e_ (T_ Tryz.t243))))) (n_ (T_ Tryz.t27) (n_ (T_ Tryz.t43) (n_ (T_ Tryz.t75) (n_ (T_ Tryz.t139) (e_ (T_ Tryz.t267)) .leaf) (e_ (T_ Tryz.t203))) (n_ (T_ Tryz.t107) (e_ (U_ Tryz.t171 Tryz.t170)) (e_ (T_ Tryz.t235)))) (n_ (T_ Tryz.t59) (n_ (T_ Tryz.t91) (n_ (T_ Tryz.t155) (e_ (T_ Tryz.t283)) .leaf) (e_ (T_ Tryz.t219))) (n_ (T_ Tryz.t123) (e_ (T_ Tryz.t187)) (e_ (T_ Tryz.t251))))))) (n_ (T_ Tryz.t5) (n_ ti9 (n_ (T_ Tryz.t17) (n_ (T_ Tryz.t33) (n_ (T_ Tryz.t65) (n_ (U_ Tryz.t129 Tryz.t128) (e_ (T_ Tryz.t257)) .leaf) (e_ (T_ Tryz.t193))) (n_ (U_ Tryz.t97 Tryz.t96) (e_ (T_ Tryz.t161)) (e_ (T_ Tryz.t225)))) (n_ (T_ Tryz.t49) (n_ (T_ Tryz.t81) (n_ (T_ Tryz.t145) (e_ (T_ Tryz.t273)) .leaf) (e_ (T_ Tryz.t209))) (n_ (T_ Tryz.t113) (e_ (T_ Tryz.t177)) (e_ (T_ Tryz.t241))))) (n_ (T_ Tryz.t25) (n_ (U_ Tryz.t41 Tryz.t3) (n_ (T_ Tryz.t73) (n_ (U_ Tryz.t137 Tryz.t136) (e_ (U_ Tryz.t265 Tryz.t264)) .leaf) (e_ (T_ Tryz.t201))) (n_ (U_ Tryz.t105 Tryz.t104) (e_ (T_ Tryz.t169)) (e_ (T_ Tryz.t233)))) (n_ (T_ Tryz.t57) (n_ (T_ Tryz.t89) (n_ (U_ Tryz.t153 Tryz.t152) (e_ (U_ Tryz.t281 Tryz.t21)) .leaf) (e_ (T_ Tryz.t217))) (n_ (T_ Tryz.t121) (e_ (T_ Tryz.t185)) (e_ (T_ Tryz.t249)))))) (n_ (T_ Tryz.t13) (n_ (T_ Tryz.t21) (n_ (T_ Tryz.t37) (n_ (T_ Tryz.t69) (n_ (T_ Tryz.t133) (e_ (T_ Tryz.t261)) .leaf) (e_ (T_ Tryz.t197))) (n_ (T_ Tryz.t101) (e_ (T_ Tryz.t165)) (e_ (T_ Tryz.t229)))) (n_ (T_ Tryz.t53) (n_ (T_ Tryz.t85) (n_ (T_ Tryz.t149) (e_ (U_ Tryz.t277 Tryz.t276)) .leaf) (e_ (T_ Tryz.t213))) (n_ (U_ Tryz.t117 Tryz.t3) (e_ (T_ Tryz.t181)) (e_ (U_ Tryz.t245 Tryz.t244))))) (n_ (T_ Tryz.t29) (n_ (T_ Tryz.t45) (n_ (T_ Tryz.t77) (n_ (T_ Tryz.t141) (e_ (T_ Tryz.t269)) .leaf) (e_ (T_ Tryz.t205))) (n_ (T_ Tryz.t109) (e_ (T_ Tryz.t173)) (e_ (T_ Tryz.t237)))) (n_ (T_ Tryz.t61) (n_ (T_ Tryz.t93) (e_ (T_ Tryz.t157)) (e_ (T_ Tryz.t221))) (n_ (T_ Tryz.t125) (e_ (T_ Tryz.t189)) (e_ (T_ Tryz.t253)))))))) (n_ (T_ Tryz.t2) (n_ (T_ Tryz.t4) (n_ (U_ Tryz.t8 Tryz.t7) (n_ (T_ Tryz.t16) (n_ (T_ Tryz.t32) (n_ (T_ Tryz.t64) (n_ (T_ Tryz.t128) (e_ (T_ Tryz.t256)) .leaf) (e_ (T_ Tryz.t192))) (n_ (T_ Tryz.t96) (e_ b6q) (e_ (T_ Tryz.t224)))) (n_ (T_ Tryz.t48) (n_ (T_ Tryz.t80) (n_ (T_ Tryz.t144) (e_ (T_ Tryz.t272)) .leaf) (e_ (T_ Tryz.t208))) (n_ (T_ Tryz.t112) (e_ (T_ Tryz.t176)) (e_ (T_ Tryz.t240))))) (n_ (U_ Tryz.t24 Tryz.t3) (n_ (T_ Tryz.t40) (n_ (T_ Tryz.t72) (n_ (T_ Tryz.t136) (e_ (T_ Tryz.t264)) .leaf) (e_ (T_ Tryz.t200))) (n_ (T_ Tryz.t104) (e_ (T_ Tryz.t168)) (e_ (T_ Tryz.t232)))) (n_ (T_ Tryz.t56) (n_ (T_ Tryz.t88) (n_ (T_ Tryz.t152) (e_ (T_ Tryz.t280)) .leaf) (e_ (T_ Tryz.t216))) (n_ (T_ Tryz.t120) (e_ (T_ Tryz.t184)) (e_ (T_ Tryz.t248)))))) (n_ (T_ Tryz.t12) (n_ (T_ Tryz.t20) (n_ (T_ Tryz.t36) (n_ (T_ Tryz.t68) (n_ (T_ Tryz.t132) (e_ (T_ Tryz.t260)) .leaf) (e_ (T_ Tryz.t196))) (n_ (T_ Tryz.t100) (e_ (T_ Tryz.t164)) (e_ (T_ Tryz.t228)))) (n_ (T_ Tryz.t52) (n_ (T_ Tryz.t84) (n_ (T_ Tryz.t148) (e_ (T_ Tryz.t276)) .leaf) (e_ (T_ Tryz.t212))) (n_ (U_ Tryz.t116 Tryz.t115) (e_ (U_ Tryz.t180 Tryz.t179)) (e_ (T_ Tryz.t244))))) (n_ (T_ Tryz.t28) (n_ (T_ Tryz.t44) (n_ (U_ Tryz.t76 Tryz.t3) (n_ (T_ Tryz.t140) (e_ (T_ Tryz.t268)) .leaf) (e_ (T_ Tryz.t204))) (n_ (T_ Tryz.t108) (e_ (T_ Tryz.t172)) (e_ (T_ Tryz.t236)))) (n_ (U_ Tryz.t60 Tryz.t59) (n_ (U_ Tryz.t92 Tryz.t91) (n_ (T_ Tryz.t156) (e_ (U_ Tryz.t284 Tryz.t283)) .leaf) (e_ (T_ Tryz.t220))) (n_ (T_ Tryz.t124) (e_ (T_ Tryz.t188)) (e_ (T_ Tryz.t252))))))) (n_ (U_ Tryz.t6 Tryz.t5) (n_ (U_ Tryz.t10 Tryz.t9) (n_ (T_ Tryz.t18) (n_ (T_ Tryz.t34) (n_ (T_ Tryz.t66) (n_ (T_ Tryz.t130) (e_ (T_ Tryz.t258)) .leaf) (e_ (T_ Tryz.t194))) (n_ (T_ Tryz.t98) (e_ (T_ Tryz.t162)) (e_ (T_ Tryz.t226)))) (n_ (T_ Tryz.t50) (n_ (T_ Tryz.t82) (n_ (T_ Tryz.t146) (e_ (U_ Tryz.t274 Tryz.t273)) .leaf) (e_ (T_ Tryz.t210))) (n_ (T_ Tryz.t114) (e_ (T_ Tryz.t178)) (e_ (T_ Tryz.t242))))) (n_ d2U (n_ (T_ Tryz.t42) (n_ (T_ Tryz.t74) (n_ (T_ Tryz.t138) (e_ (T_ Tryz.t266)) .leaf) (e_ (T_ Tryz.t202))) (n_ (T_ Tryz.t106) (e_ (T_ Tryz.t170)) (e_ (T_ Tryz.t234)))) (n_ (T_ Tryz.t58) (n_ (T_ Tryz.t90) (n_ (T_ Tryz.t154) (e_ (U_ Tryz.t282 Tryz.t21)) .leaf) (e_ (T_ Tryz.t218))) (n_ (T_ Tryz.t122) (e_ (T_ Tryz.t186)) (e_ (T_ Tryz.t250)))))) (n_ (U_ Tryz.t14 Tryz.t13) (n_ (U_ Tryz.t22 Tryz.t3) (n_ (T_ Tryz.t38) (n_ (T_ Tryz.t70) (n_ (T_ Tryz.t134) (e_ (U_ Tryz.t262 Tryz.t261)) .leaf) (e_ (T_ Tryz.t198))) (n_ (T_ Tryz.t102) (e_ (U_ Tryz.t166 Tryz.t165)) (e_ (T_ Tryz.t230)))) (n_ (U_ Tryz.t54 Tryz.t53) (n_ (T_ Tryz.t86) (n_ (T_ Tryz.t150) (e_ (U_ Tryz.t278 Tryz.t5)) .leaf) (e_ (T_ Tryz.t214))) (n_ (T_ Tryz.t118) (e_ (U_ Tryz.t182 Tryz.t181)) (e_ (T_ Tryz.t246))))) (n_ a6j (n_ (T_ Tryz.t46) (n_ (T_ Tryz.t78) (n_ d4E (e_ (T_ Tryz.t270)) .leaf) (e_ (T_ Tryz.t206))) (n_ (T_ Tryz.t110) (e_ (T_ Tryz.t174)) (e_ (T_ Tryz.t238)))) (n_ (T_ Tryz.t62) (n_ (T_ Tryz.t94) (e_ (T_ Tryz.t158)) (e_ (T_ Tryz.t222))) (n_ (T_ Tryz.t126) (e_ (U_ Tryz.t190 Tryz.t189)) (e_ (T_ Tryz.t254))))))))
noncomputable def d3b:Trie Func:=n_ Tryz.f0 (n_ Tryz.f1 (n_ Tryz.f3 (n_ Tryz.f7 (n_ Tryz.f15 (n_ Tryz.f31 (n_ Tryz.f63 (e_ Tryz.f127) (e_ Tryz.f191)) (n_ Tryz.f95 (e_ Tryz.f159) (e_ Tryz.f223))) (n_ Tryz.f47 (n_ Tryz.f79 (e_ Tryz.f143) (e_ Tryz.f207)) (n_ Tryz.f111 (e_ Tryz.f175) (e_ Tryz.f239)))) (n_ Tryz.f23 (n_ Tryz.f39 (n_ Tryz.f71 (e_ Tryz.f135) (e_ Tryz.f199)) (n_ Tryz.f103 (e_ Tryz.f167) (e_ Tryz.f231))) (n_ Tryz.f55 (n_ Tryz.f87 (e_ Tryz.f151) (e_ Tryz.f215)) (n_ Tryz.f119 (e_ Tryz.f183) (e_ Tryz.f247))))) (n_ Tryz.f11 (n_ Tryz.f19 (n_ Tryz.f35 (n_ Tryz.f67 (e_ Tryz.f131) (e_ Tryz.f195)) (n_ Tryz.f99 (e_ Tryz.f163) (e_ Tryz.f227))) (n_ Tryz.f51 (n_ Tryz.f83 (e_ Tryz.f147) (e_ Tryz.f211)) (n_ Tryz.f115 (e_ Tryz.f179) (e_ Tryz.f243)))) (n_ Tryz.f27 (n_ Tryz.f43 (n_ Tryz.f75 (e_ Tryz.f139) (e_ Tryz.f203)) (n_ Tryz.f107 (e_ Tryz.f171) (e_ Tryz.f235))) (n_ Tryz.f59 (n_ Tryz.f91 (e_ Tryz.f155) (e_ Tryz.f219)) (n_ Tryz.f123 (e_ Tryz.f187) .leaf))))) (n_ Tryz.f5 (n_ Tryz.f9 (n_ Tryz.f17 (n_ Tryz.f33 (n_ Tryz.f65 (e_ Tryz.f129) (e_ Tryz.f193)) (n_ Tryz.f97 (e_ Tryz.f161) (e_ Tryz.f225))) (n_ Tryz.f49 (n_ Tryz.f81 (e_ Tryz.f145) (e_ Tryz.f209)) (n_ Tryz.f113 (e_ Tryz.f177) (e_ Tryz.f241)))) (n_ Tryz.f25 (n_ Tryz.f41 (n_ Tryz.f73 (e_ Tryz.f137) (e_ Tryz.f201)) (n_ Tryz.f105 (e_ Tryz.f169) (e_ Tryz.f233))) (n_ Tryz.f57 (n_ Tryz.f89 (e_ Tryz.f153) (e_ Tryz.f217)) (n_ Tryz.f121 (e_ Tryz.f185) .leaf)))) (n_ Tryz.f13 (n_ Tryz.f21 (n_ Tryz.f37 (n_ Tryz.f69 (e_ Tryz.f133) (e_ Tryz.f197)) (n_ Tryz.f101 (e_ Tryz.f165) (e_ Tryz.f229))) (n_ Tryz.f53 (n_ Tryz.f85 (e_ Tryz.f149) (e_ Tryz.f213)) (n_ Tryz.f117 (e_ Tryz.f181) (e_ Tryz.f245)))) (n_ Tryz.f29 (n_ Tryz.f45 (n_ Tryz.f77 (e_ Tryz.f141) (e_ Tryz.f205)) (n_ Tryz.f109 (e_ Tryz.f173) (e_ Tryz.f237))) (n_ Tryz.f61 (n_ Tryz.f93 (e_ Tryz.f157) (e_ Tryz.f221)) (n_ Tryz.f125 (e_ Tryz.f189) .leaf)))))) (n_ Tryz.f2 (n_ Tryz.f4 (n_ Tryz.f8 (n_ Tryz.f16 (n_ Tryz.f32 (n_ Tryz.f64 (e_ Tryz.f128) (e_ Tryz.f192)) (n_ Tryz.f96 (e_ Tryz.f160) (e_ Tryz.f224))) (n_ Tryz.f48 (n_ Tryz.f80 (e_ Tryz.f144) (e_ Tryz.f208)) (n_ Tryz.f112 (e_ Tryz.f176) (e_ Tryz.f240)))) (n_ Tryz.f24 (n_ Tryz.f40 (n_ Tryz.f72 (e_ Tryz.f136) (e_ Tryz.f200)) (n_ Tryz.f104 (e_ Tryz.f168) (e_ Tryz.f232))) (n_ Tryz.f56 (n_ Tryz.f88 (e_ Tryz.f152) (e_ Tryz.f216)) (n_ Tryz.f120 (e_ Tryz.f184) (e_ Tryz.f248))))) (n_ Tryz.f12 (n_ Tryz.f20 (n_ Tryz.f36 (n_ Tryz.f68 (e_ Tryz.f132) (e_ Tryz.f196)) (n_ Tryz.f100 (e_ Tryz.f164) (e_ Tryz.f228))) (n_ Tryz.f52 (n_ Tryz.f84 (e_ Tryz.f148) (e_ Tryz.f212)) (n_ Tryz.f116 (e_ Tryz.f180) (e_ Tryz.f244)))) (n_ Tryz.f28 (n_ Tryz.f44 (n_ Tryz.f76 (e_ Tryz.f140) (e_ Tryz.f204)) (n_ Tryz.f108 (e_ Tryz.f172) (e_ Tryz.f236))) (n_ Tryz.f60 (n_ Tryz.f92 (e_ Tryz.f156) (e_ Tryz.f220)) (n_ Tryz.f124 (e_ Tryz.f188) .leaf))))) (n_ Tryz.f6 (n_ Tryz.f10 (n_ Tryz.f18 (n_ Tryz.f34 (n_ Tryz.f66 (e_ Tryz.f130) (e_ Tryz.f194)) (n_ Tryz.f98 (e_ Tryz.f162) (e_ Tryz.f226))) (n_ Tryz.f50 (n_ Tryz.f82 (e_ Tryz.f146) (e_ Tryz.f210)) (n_ Tryz.f114 (e_ Tryz.f178) (e_ Tryz.f242)))) (n_ Tryz.f26 (n_ Tryz.f42 (n_ Tryz.f74 (e_ Tryz.f138) (e_ Tryz.f202)) (n_ Tryz.f106 (e_ Tryz.f170) (e_ Tryz.f234))) (n_ Tryz.f58 (n_ Tryz.f90 (e_ Tryz.f154) (e_ Tryz.f218)) (n_ Tryz.f122 (e_ Tryz.f186) .leaf)))) (n_ Tryz.f14 (n_ Tryz.f22 (n_ Tryz.f38 (n_ Tryz.f70 (e_ Tryz.f134) (e_ Tryz.f198)) (n_ Tryz.f102 (e_ Tryz.f166) (e_ Tryz.f230))) (n_ Tryz.f54 (n_ Tryz.f86 (e_ Tryz.f150) (e_ Tryz.f214)) (n_ Tryz.f118 (e_ Tryz.f182) (e_ Tryz.f246)))) (n_ Tryz.f30 (n_ Tryz.f46 (n_ Tryz.f78 (e_ Tryz.f142) (e_ Tryz.f206)) (n_ Tryz.f110 (e_ Tryz.f174) (e_ Tryz.f238))) (n_ Tryz.f62 (n_ Tryz.f94 (e_ Tryz.f158) (e_ Tryz.f222)) (n_ Tryz.f126 (e_ Tryz.f190) .leaf))))))
noncomputable def tab:Tab:=⟨d2O,d3b,7⟩
set_option maxRecDepth 100000
theorem a0n:TabOk Tryz.prog tab:=d1T zw zw zw zw
theorem U6:Tryz.prog.follows .mixedOrders=true:=zw
end
end Go.Proofs.YtmomonnlmbljoaaGreatDoor
