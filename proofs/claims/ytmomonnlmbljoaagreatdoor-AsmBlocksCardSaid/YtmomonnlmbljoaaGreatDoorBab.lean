import Derived.Test.YtmomonnlmbljoaaGreatDoorBaa
set_option maxRecDepth 1000000
set_option maxHeartbeats 4000000
set_option linter.unusedVariables false
set_option linter.unusedSimpArgs false
section
namespace Go.V
theorem F9 {α}(l:List α):x8 l=l.length:=by induction l<;>first|rfl|grind[x8]
theorem a2J {α}(l:List α):∀i,a0l l i=l[i]?:=by induction l with|nil=>intro i;rfl|cons v l ih=>intro i;cases i with|zero=>rfl|succ i=>exact ih i
theorem a0D {α}(l:List α):∀i,H9 l i=l.drop i:=by induction l with|nil=>grind[H9]|cons v l ih=>intro i;cases i with|zero=>rfl|succ i=>exact ih i
theorem a2m {α}(l:List α):∀i,a0x l i=l.take i:=by induction l with|nil=>grind[a0x]|cons v l ih=>intro i;cases i with|zero=>rfl|succ i=>simp_all[a0x]
theorem D9 {α}(l m:List α):D7 l m=l++m:=by induction l<;>first|rfl|grind[D7]
theorem a0R {α β}(f:α->β)(l):U0 f l=l.map f:=by induction l<;>first|rfl|grind[U0]
theorem U1 {α}(f:α->Bool)(v l):J2 f (v::l)=(f v&&J2 f l):=by show Bool.rec (motive:=λ_=>Bool) false (J2 f l) (f v)=_;cases f v<;>rfl
theorem c4S {α}(f:α->Bool)(l):J2 f l=l.all f:=by induction l<;>first|rfl|grind[U1]
theorem M4 {α}(f:α->Bool)(l):J2 f l=true↔∀x∈l,f x=true:=by rw[c4S,rq]
theorem Trie.get_node_zero {α}(v:Option α)(l r):(Trie.node v l r).get 0=v:=rfl
theorem Trie.get_node_succ {α}(v:Option α)(l r k):(Trie.node v l r).get (k+1)=if k%2=0 then l.get (k/2)else r.get (k/2):=by show(match k%2 with|0=>l.get (k/2)|_+1=>r.get (k/2))=_;split<;>rename_i h<;>simp[h]
theorem Trie.get_leaf {α}(n):(Trie.leaf:Trie α).get n=none:=rfl
def Trie.put {α:Type}(o:Option α)(f:Nat)(t:Trie α)(n:Nat):Trie α:=Trie.putK o f t n id
theorem Trie.putK_eq' {α}(o f):∀(β) (t) (n) (q:Trie α->β),Trie.putK o f t n q=q (Trie.put o f t n):=by induction f with|zero=>intro β t n q;rfl|succ f ih=>intro β t n q;cases n with|zero=>cases t<;>rfl|succ k=>have hk:k%2=0\/k%2=1:=zy;cases t with|leaf=>show(match k%2 with|0=>Trie.putK o f .leaf (k/2) λt=>q (.node none t .leaf)|_+1=>Trie.putK o f .leaf (k/2) λt=>q (.node none .leaf t))=q (match k%2 with|0=>Trie.putK o f .leaf (k/2) λt=>id (Trie.node none t .leaf)|_+1=>Trie.putK o f .leaf (k/2) λt=>id (Trie.node none .leaf t));rcases hk with h|h<;>simp only[h]<;>rw[ih,ih]<;>rfl|node v l r=>show(match k%2 with|0=>Trie.putK o f l (k/2) λt=>q (.node v t r)|_+1=>Trie.putK o f r (k/2) λt=>q (.node v l t))=q (match k%2 with|0=>Trie.putK o f l (k/2) λt=>id (Trie.node v t r)|_+1=>Trie.putK o f r (k/2) λt=>id (Trie.node v l t));rcases hk with h|h<;>simp only[h]<;>rw[ih,ih]<;>rfl
theorem Trie.putK_eq {α β}(o f t n)(q:Trie α->β):Trie.putK o f t n q=q (Trie.put o f t n):=Trie.putK_eq' o f β t n q
theorem Trie.get_put {α}(o:Option α):∀(f) (t) (n),n<f->∀m,(Trie.put o f t n).get m=if m=n then o else t.get m:=by
 intro f;induction f with
  |zero=>omega|succ f ih=>
   intro t n h m;cases n with
    |zero=>
     cases t with
      |leaf=>show(Trie.node o .leaf .leaf).get m=_;cases m<;>first|rfl|grind[Trie.get_node_succ,Trie.get_leaf]
      |node v l r=>show(Trie.node o l r).get m=_;cases m<;>first|rfl|grind[Trie.get_node_succ]
    |succ k=>
     have hk:k%2=0\/k%2=1:=zy;have hf:k/2<f:=zy;cases t with
      |leaf=>
       have e:Trie.put o (f+1) (.leaf:Trie α) (k+1)=match k%2 with|0=>Trie.node none (Trie.put o f .leaf (k/2)) .leaf|_+1=>Trie.node none .leaf (Trie.put o f .leaf (k/2)):=by show(match k%2 with|0=>Trie.putK o f .leaf (k/2) λt=>id (Trie.node none t .leaf)|_+1=>Trie.putK o f .leaf (k/2) λt=>id (Trie.node none .leaf t))=_;rcases hk with h|h<;>simp only[h]<;>rw[Trie.putK_eq]<;>rfl
       rw[e];cases m<;>first|rfl|grind[Trie.get_node_zero,Trie.get_leaf,Trie.get_node_succ]
      |node v l r=>
       have e:Trie.put o (f+1) (.node v l r) (k+1)=match k%2 with|0=>Trie.node v (Trie.put o f l (k/2)) r|_+1=>Trie.node v l (Trie.put o f r (k/2)):=by show(match k%2 with|0=>Trie.putK o f l (k/2) λt=>id (Trie.node v t r)|_+1=>Trie.putK o f r (k/2) λt=>id (Trie.node v l t))=_;rcases hk with h|h<;>simp only[h]<;>rw[Trie.putK_eq]<;>rfl
       rw[e];cases m<;>first|rfl|grind[Trie.get_node_zero,Trie.get_node_succ]
theorem a2F {α}(n)(k:Nat->α):a8x n k=k n:=by cases n<;>rfl
theorem d7B {α}(n)(k:Int->α):d3K n k=k n:=by cases n<;>simp[d3K,a2F]
theorem Z6 {β α}(l):∀(k:List β->α),fList l k=k l:=by induction l with|nil=>intro k;rfl|cons x l ih=>intro k;exact ih λl=>k (x::l)
theorem d2d {α}(g)(k:Option Nat->α):c5g g k=k g:=by cases g<;>simp[c5g,a2F]
theorem d1Q {α}(a)(k:Option Addr->α):b9s a k=k a:=by cases a<;>simp_all[b9s,a2F,d2d]
theorem a8y {α}(v)(k:Value->α):a7Y v k=k v:=by cases v with|bool b=>cases b<;>rfl|_=>simp[a7Y,d7B,a2F,d1Q,Z6]
theorem C8 {α β m}{f:α->M β}{s s2 b}(h:M.bind m f s=some (b,s2)):∃a s1,m s=some (a,s1)/\f a s1=some (b,s2):=by unfold M.bind at h;grind
theorem G5 {α β o}{f:α->M β}{s s2 b}(h:M.obind o f s=some (b,s2)):∃a,o=some a/\f a s=some (b,s2):=by cases o with|none=>cases h|some a=>exact⟨a,rfl,h⟩
theorem G9 {α c}{m:M α}{s s2 b}(h:M.guard c m s=some (b,s2)):c=true/\m s=some (b,s2):=by cases c with|false=>cases h|true=>exact⟨rfl,h⟩
theorem a3i {α}{o:Option α}{s s2 b}(h:M.lift o s=some (b,s2)):o=some b/\s2=s:=by cases o with|none=>cases h|some a=>cases h;simp_all
theorem q9 {α}{a b:α}{s s2}(h:M.pure a s=some (b,s2)):b=a/\s2=s:=by cases h;simp_all
theorem b0C {i o s s2}(h:rd i s=some (o,s2)):i<s.c/\s.h.get i=some o/\s2.c=s.c/\s2.h=s.h:=by unfold rd at h;split at h;rename_i hb;split at h;rename_i o' ho;cases h;simp_all;cases h;cases h
def Fr {α:Type}(m:M α):Prop:=∀s a s',m s=some (a,s')->∃dr dw,s'.r=dr++s.r/\s'.w=dw++s.w/\s.c<=s'.c/\(∀i,i∈dr->i<s'.c)/\(∀i,i∈dw->i<s'.c)/\(∀i,s.c<=i->i<s'.c->i∈dw)/\(∀i,i∉dw->s'.h.get i=s.h.get i)/\∀h2 r2 w2,(∀i,(i∈dr\/i∈dw)->i<s.c->h2.get i=s.h.get i)->∃h2',m ⟨s.c,h2,r2,w2⟩=some (a,⟨s'.c,h2',dr++r2,dw++w2⟩)/\(∀i,i∈dw->h2'.get i=s'.h.get i)/\(∀i,i∉dw->h2'.get i=h2.get i)
theorem Fr.pure {α}(a:α):Fr (M.pure a):=by intro s a' s' h;cases h;exact⟨[],[],rfl,rfl,wQ _,zq,zq,λi h1 h2=>zy,λ_ _=>rfl,λh2 r2 w2 _=>⟨h2,rfl,zq,λ_ _=>rfl⟩⟩
theorem Fr.fail {α}:Fr (M.fail:M α):=by intro s a s' h;cases h
theorem Fr.lift {α}(o:Option α):Fr (M.lift o):=by cases o with|none=>exact Fr.fail|some a=>exact Fr.pure a
theorem Fr.obind {α β}(o){f:α->M β}(h:∀a,Fr (f a)):Fr (M.obind o f):=by cases o with|none=>exact Fr.fail|some a=>exact h a
theorem Fr.guard {α}(b){m:M α}(h:Fr m):Fr (M.guard b m):=by cases b with|true=>exact h|false=>exact Fr.fail
theorem Fr.bind {α β m}{f:α->M β}(hm:Fr m)(hf:∀a,Fr (f a)):Fr (M.bind m f):=by
 intro s b s2 h;cases e:m s with
  |none=>grind[M.bind]|some x=>
   obtain⟨a,s1⟩:=x;have h':f a s1=some (b,s2):=by grind[M.bind]
   obtain⟨dr1,dw1,e1,e2,e3,e4,e5,e6,e7,e8⟩:=hm s a s1 e;obtain⟨dr2,dw2,g1,g2,g3,g4,g5,g6,g7,g8⟩:=hf a s1 b s2 h';refine⟨dr2++dr1,dw2++dw1,by rw[g1,e1,vw],by rw[g2,e2,vw],zy,?_,?_,?_,?_,?_⟩;grind;grind;grind;simp_all;intro h2 r2 w2 hag;obtain⟨h2',q1,q2,q3⟩:=e8 h2 r2 w2 (λi hi hc=>hag i (by rcases hi with hi|hi<;>simp[hi]) hc);obtain⟨h3,p1,p2,p3⟩:=g8 h2' (dr1++r2) (dw1++w2) zo;grind[M.bind]
theorem Fr.rd (i:Nat):Fr (rd i):=by intro s a s' h;unfold V.rd at h;split at h;rename_i hb;have hlt:i<s.c:=zn;split at h;rename_i o ho;cases h;refine⟨[i],[],rfl,rfl,wQ _,zo,zq,λj h1 h2=>zo,λ_ _=>rfl,?_⟩;intro h2 r2 w2 hag;refine⟨h2,?_,zq,λ_ _=>rfl⟩;have:=hag i zq hlt;grind[V.rd];cases h;cases h
theorem Fr.wr (i:Nat)(o:VObj):Fr (wr i o):=by intro s a s' h;unfold V.wr at h;split at h;rename_i hb;have hlt:i<s.c:=zn;split at h;rename_i o' ho;rw[Trie.putK_eq]at h;cases h;refine⟨[],[i],rfl,rfl,wQ _,zq,zo,λj h1 h2=>zo,?_,?_⟩;simp_all[Trie.get_put];intro h2 r2 w2 hag;have h1:=hag i zq hlt;refine⟨Trie.put (some o) (i+1) h2 i,?_,?_,?_⟩;grind[V.wr,Trie.putK_eq];intro j hj;obtain rfl:j=i:=zo;simp_all[Trie.get_put];simp_all[Trie.get_put];cases h;cases h
theorem b2R (o s):new o s=some (s.c,⟨s.c+1,Trie.put (some o) (s.c+1) s.h s.c,s.r,s.c::s.w⟩):=by unfold new;rw[Trie.putK_eq,a2F]
theorem Fr.new (o:VObj):Fr (new o):=by intro s a s' h;rw[b2R]at h;cases h;refine⟨[],[s.c],rfl,rfl,vv _,zq,zq,?_,?_,?_⟩;grind;simp_all[Trie.get_put];intro h2 r2 w2 _;refine⟨Trie.put (some o) (s.c+1) h2 s.c,b2R _ _,?_,?_⟩;intro j hj;obtain rfl:j=s.c:=zo;simp_all[Trie.get_put];simp_all[Trie.get_put]
end Go.V
end
section
namespace Go.V
section
variable (p:Program)(T:Tab)
theorem Fr.asCells {α:Type}(o:VObj){k:List (Value×Nat)->Nat->Bool->M α}(h:∀a b c,Fr (k a b c)):Fr (a7o o k):=by cases o<;>first|exact h _ _ _|exact Fr.fail
theorem Fr.asMap {α:Type}(o:VObj){k:List (Value×Value)->M α}(h:∀a,Fr (k a)):Fr (c6G o k):=by cases o<;>first|exact h _|exact Fr.fail
theorem Fr.asPtr {α:Type}(v:Value){k:Addr->M α}(h:∀a,Fr (k a)):Fr (a0G v k):=by cases v<;>first|exact Fr.obind _ h|exact Fr.fail
theorem Fr.ti {α:Type}(t:TypeId){k:TI->M α}(h:∀a,Fr (k a)):Fr (ti T t k):=Fr.obind _ h
theorem Fr.ev (fr:List Value)(x:Operand){k:Value->M Value}(h:∀a,Fr (k a)):Fr (ev T fr x k):=Fr.obind _ h
theorem Fr.evs (fr:List Value)(x:List Operand){k:List Value->M Value}(h:∀a,Fr (k a)):Fr (evs T fr x k):=Fr.obind _ h
theorem Fr.fList {β α:Type}(l:List β){k:List β->M α}(h:∀a,Fr (k a)):Fr (fList l k):=by rw[Z6];exact h l
theorem Fr.fNat {α:Type}(l:Nat){k:Nat->M α}(h:∀a,Fr (k a)):Fr (a8x l k):=by rw[a2F];exact h l
theorem Fr.fVal {α:Type}(v:Value){k:Value->M α}(h:∀a,Fr (k a)):Fr (a7Y v k):=by rw[a8y];exact h v
theorem Fr.pureV (o:Option Value):Fr (pureV o):=Fr.obind _ λ_=>Fr.guard _ (Fr.pure _)
theorem Fr.loadN (a:Addr)(n:Nat):Fr (loadN a n):=Fr.obind _ λ_=>Fr.bind (Fr.rd _) λ_=>Fr.asCells _ λ_ _ _=>Fr.lift _
theorem Fr.storeN (a:Addr)(vs:List Value):Fr (storeN a vs):=Fr.obind _ λ_=>Fr.bind (Fr.rd _) λ_=>Fr.asCells _ λ_ _ _=>Fr.guard _ (Fr.obind _ λ_=>Fr.fList _ λ_=>Fr.wr _ _)
theorem Fr.newCells (vs:List Value):Fr (Y7 vs):=Fr.guard _ (Fr.fList _ λ_=>Fr.bind (Fr.new _) λ_=>Fr.pure _)
theorem Fr.loadV (t:TypeId)(a:Addr):Fr (a4K T t a):=Fr.ti T _ λi=>by grind[Fr.guard,Fr.bind,Fr.loadN,Fr.pure]
theorem Fr.storeV (t:TypeId)(a:Addr)(v:Value):Fr (b6C T t a v):=Fr.ti T _ λ_=>Fr.guard _ (Fr.storeN _ _)
theorem Fr.elemAt (a:Addr)(i len elem:Nat):Fr (elemAt T a i len elem):=Fr.ti T _ λ_=>Fr.guard _ (Fr.pure _)
theorem Fr.indexAddrV (t:TypeId)(x ix:Value):Fr (a9N T t x ix):=Fr.ti T _ λi=>Fr.obind _ λj=>by grind[Fr.asPtr,Fr.elemAt,Fr.obind,Fr.ti,Fr.guard,Fr.fail]
theorem Fr.fieldAddrV (t:TypeId)(x:Value)(f:Nat):Fr (b2q T t x f):=Fr.ti T _ λi=>by grind[Fr.asPtr,Fr.obind,Fr.ti,Fr.guard,Fr.pure,Fr.fail]
theorem Fr.cut (a:Addr)(len elem:Nat)(lo hi:Option Value):Fr (cut T a len elem lo hi):=Fr.ti T _ λ_=>Fr.obind _ λ_=>Fr.obind _ λ_=>Fr.guard _ (Fr.pure _)
theorem Fr.cutStr (s:ByteArray)(lo hi:Option Value):Fr (a7U s lo hi):=Fr.obind _ λ_=>Fr.obind _ λ_=>Fr.guard _ (by rw[Z6];exact Fr.pure _)
theorem Fr.cutNil (lo hi:Option Value):Fr (cutNil lo hi):=Fr.obind _ λ_=>Fr.obind _ λ_=>Fr.guard _ (Fr.pure _)
theorem Fr.sliceV (t:TypeId)(x:Value)(lo hi mx:Option Value):Fr (b3x T t x lo hi mx):=Fr.ti T _ λi=>Fr.guard _ (by split;grind[Fr.cutStr,Fr.fail];grind[Fr.ti,Fr.guard,Fr.cut,Fr.cutNil,Fr.fail];grind[Fr.asPtr,Fr.ti,Fr.bind,Fr.loadN,Fr.cut];exact Fr.fail)
theorem Fr.makeSliceV (t:TypeId)(l c:Value):Fr (b1V T t l c):=Fr.ti T _ λi=>by grind[Fr.ti,Fr.obind,Fr.guard,Fr.bind,Fr.newCells,Fr.pure,Fr.fail]
theorem Fr.source (n:Nat)(x:Value):Fr (a9s n x):=by unfold V.a9s;grind[Fr.guard,Fr.pure,Fr.loadN,Fr.fail]
theorem Fr.appendAt (e:TI)(a:Addr)(len:Nat)(vs:List Value)(m:Nat):Fr (appendAt e a len vs m):=Fr.obind _ λ_=>Fr.bind (Fr.rd _) λ_=>Fr.asCells _ λ_ _ _=>Fr.guard _ (Fr.guard _ (Fr.obind _ λ_=>Fr.fList _ λ_=>Fr.bind (Fr.wr _ _) λ_=>Fr.pure _))
theorem Fr.appendTo (e:TI)(s:Value)(vs:List Value):Fr (a1J e s vs):=by unfold V.a1J;grind[Fr.guard,Fr.pure,Fr.fNat,Fr.bind,Fr.newCells,Fr.appendAt,Fr.fail]
theorem Fr.appendV (ts:Array TypeId)(vs:List Value):Fr (appendV T ts vs):=Fr.obind _ λ_=>Fr.obind _ λ_=>Fr.ti T _ λd=>Fr.ti T _ λ_=>by grind[Fr.obind,Fr.ti,Fr.guard,Fr.bind,Fr.source,Fr.fList,Fr.appendTo,Fr.fail]
theorem Fr.mapAt (r:Nat):Fr (a7d r):=Fr.bind (Fr.rd _) λ_=>Fr.asMap _ λ_=>Fr.pure _
theorem Fr.entries (x:Value):Fr (b4d x):=by unfold V.b4d;grind[Fr.pure,Fr.mapAt,Fr.fail]
theorem Fr.lookupV (t:TypeId)(x ix:Value)(ok:Bool):Fr (b1E T t x ix ok):=Fr.ti T _ λd=>by split;grind[Fr.ti,Fr.guard,Fr.bind,Fr.entries,Fr.obind,Fr.pure];exact Fr.fail
theorem Fr.mapUpdateV (t:TypeId)(m k v:Value):Fr (a7L T t m k v):=Fr.ti T _ λd=>by split;grind[Fr.obind,Fr.ti,Fr.guard,Fr.bind,Fr.mapAt,Fr.fList,Fr.wr,Fr.fail];exact Fr.fail
theorem Fr.lenV (d:TypeDesc)(x:Value):Fr (d1G d x):=by unfold V.d1G;grind[Fr.pure,Fr.fail,Fr.bind,Fr.entries]
theorem Fr.convStr (e:TypeId)(b:ByteArray):Fr (c4l T e b):=Fr.ti T _ λ_=>Fr.guard _ (Fr.bind (Fr.newCells _) λ_=>Fr.pure _)
theorem Fr.convBytes (e:TypeId)(x:Value):Fr (convBytes T e x):=Fr.ti T _ λ_=>Fr.guard _ (Fr.bind (Fr.source _ _) λ_=>Fr.obind _ λ_=>Fr.pure _)
theorem Fr.convertV (s d:TypeId)(x:Value):Fr (b2j T s d x):=Fr.ti T _ λ_=>Fr.ti T _ λ_=>by grind[Fr.pure,Fr.fail,Fr.convStr,Fr.guard,Fr.convBytes]
theorem Fr.partV (t:TypeId)(cs:List Value)(off:Nat):Fr (partV T t cs off):=Fr.ti T _ λ_=>by grind[Fr.pure,Fr.obind]
theorem Fr.binV (op:BinOp)(t:TypeId)(x y:Operand)(a b:Value):Fr (a9z p T op t x y a b):=by grind[V.a9z,Fr.pure,Fr.guard,Fr.pureV]
theorem Fr.nextAt (b:Nat)(s:ByteArray)(pos:Nat):Fr (b3T b s pos):=by grind[V.b3T,Fr.fNat,Fr.bind,Fr.wr,Fr.pure]
theorem Fr.opBuiltin (fr:List Value)(b:Builtin)(args:Array Operand)(ts:Array TypeId):Fr (a0N p T fr b args ts):=Fr.evs T _ _ λ_=>by grind[Fr.guard,Fr.appendV,Fr.obind,Fr.ti,Fr.lenV,Fr.pureV,Fr.fail]
theorem Fr.simpleOp (fr:List Value)(o:Op):Fr (O7 p T fr o):=by unfold V.O7;split;exact Fr.lift _;exact Fr.lift _;refine Fr.ev T _ _ λ_=>Fr.ev T _ _ λ_=>Fr.ev T _ _ λ_=>?_;grind[Fr.pure,Fr.fail];exact Fr.ti T _ λ_=>Fr.guard _ (Fr.bind (Fr.newCells _) λ_=>Fr.pure _);exact Fr.ev T _ _ λ_=>Fr.guard _ (Fr.bind (Fr.newCells _) λ_=>Fr.pure _);refine Fr.evs T _ _ λ_=>Fr.ti T _ λ_=>Fr.guard _ ?_;grind[Fr.guard,Fr.obind,Fr.pure,Fr.ti,Fr.fail];refine Fr.evs T _ _ λ_=>Fr.ti T _ λ_=>?_;grind[Fr.ti,Fr.guard,Fr.obind,Fr.bind,Fr.newCells,Fr.pure,Fr.fail];exact Fr.ev T _ _ λ_=>Fr.asPtr _ λ_=>Fr.loadV T _ _;exact Fr.ev T _ _ λ_=>Fr.ev T _ _ λ_=>Fr.asPtr _ λ_=>Fr.bind (Fr.storeV T _ _ _) λ_=>Fr.pure _;refine Fr.ev T _ _ λ_=>?_;grind[Fr.guard,Fr.pure,Fr.fail];refine Fr.ev T _ _ λ_=>Fr.ev T _ _ λ_=>?_;grind[Fr.pure,Fr.binV,Fr.fail,Fr.lift];exact Fr.ev T _ _ λ_=>Fr.guard _ (Fr.pureV _);exact Fr.ev T _ _ λ_=>Fr.convertV T _ _ _;exact Fr.ev T _ _ λ_=>Fr.ti T _ λ_=>Fr.guard _ (Fr.pure _);exact Fr.evs T _ _ λ_=>Fr.evs T _ _ λ_=>Fr.pure _;unfold V.b2l;grind[Fr.bind,Fr.new,Fr.pure,Fr.ev,Fr.ti,Fr.guard];exact Fr.ev T _ _ λ_=>Fr.ev T _ _ λ_=>Fr.makeSliceV T _ _ _;exact Fr.evs T _ _ λ_=>Fr.evs T _ _ λ_=>Fr.evs T _ _ λ_=>Fr.ev T _ _ λ_=>Fr.sliceV T _ _ _ _ _;exact Fr.ev T _ _ λ_=>Fr.fieldAddrV T _ _ _;refine Fr.ev T _ _ λ_=>Fr.ti T _ λ_=>?_;grind[Fr.obind,Fr.partV,Fr.fail];exact Fr.ev T _ _ λ_=>Fr.ev T _ _ λ_=>Fr.indexAddrV T _ _ _;refine Fr.ev T _ _ λ_=>Fr.ev T _ _ λ_=>Fr.obind _ λ_=>Fr.ti T _ λ_=>?_;grind[Fr.obind,Fr.pure,Fr.fail,Fr.ti,Fr.guard,Fr.partV];exact Fr.ev T _ _ λ_=>Fr.ev T _ _ λ_=>Fr.lookupV T _ _ _ _;exact Fr.ev T _ _ λ_=>Fr.ev T _ _ λ_=>Fr.ev T _ _ λ_=>Fr.bind (Fr.mapUpdateV T _ _ _ _) λ_=>Fr.pure _;exact Fr.ev T _ _ λ_=>Fr.ev T _ _ λ_=>Fr.ev T _ _ λ_=>Fr.bind (Fr.mapUpdateV T _ _ _ _) λ_=>Fr.pure _;refine Fr.ev T _ _ λ_=>Fr.ti T _ λ_=>?_;grind[Fr.bind,Fr.new,Fr.pure,Fr.fail];refine Fr.guard _ (Fr.ev T _ _ λ_=>Fr.asPtr _ λ_=>Fr.guard _ (Fr.bind (Fr.rd _) λ_=>?_));grind[Fr.nextAt,Fr.fail];refine Fr.ev T _ _ λ_=>?_;grind[Fr.obind,Fr.pure,Fr.fail];exact Fr.fail
theorem Fr.stepOp {call:Nat->List Value->M Value}(hc:∀f vs,Fr (call f vs))(fr:List Value)(o:Op):Fr (Z0 p T call fr o):=by unfold V.Z0;split;unfold V.b1x;split;refine Fr.ev T _ _ λ_=>Fr.evs T _ _ λ_=>?_;grind[Fr.fail];grind[Fr.opBuiltin];exact Fr.fail;grind[Fr.simpleOp]
theorem Fr.resultsV (fr:List Value)(rs:List ResultVar):Fr (a3S T fr rs):=by induction rs with|nil=>exact Fr.pure _|cons r rs ih=>cases r with|tmp t=>exact Fr.bind ih λ_=>Fr.pure _|cell a t=>exact Fr.asPtr _ λ_=>Fr.bind (Fr.loadV T _ _) λ_=>Fr.bind ih λ_=>Fr.pure _
theorem b1d (call ops o os fr):a6c p T call ops (o::os) fr=if a1U ops fr o then M.bind (Z0 p T call fr o.op) λv=>a6c p T call ops os (Q6 fr o v)else a6c p T call ops os (Q6 fr o undef):=by show(match a1U ops fr o with|true=>M.bind (Z0 p T call fr o.op) λv=>a7Y v λv=>a6c p T call ops os (Q6 fr o v)|false=>a6c p T call ops os (Q6 fr o undef))=_;grind[a8y]
theorem Fr.runOps {call:Nat->List Value->M Value}(hc:∀f vs,Fr (call f vs))(ops os:List Oper):∀fr,Fr (a6c p T call ops os fr):=by induction os with|nil=>intro fr;exact Fr.pure _|cons o os ih=>grind[b1d,Fr.bind,Fr.stepOp]
theorem Fr.foot {α}{m:M α}(hm:Fr m):Fr (M.foot m):=by intro s x s' h;unfold M.foot at h;cases e:m ⟨s.c,s.h,[],[]⟩with|none=>rw[e]at h;cases h|some y=>obtain⟨a,s1⟩:=y;rw[e]at h;simp only[D9]at h;cases h;obtain⟨dr,dw,e1,e2,e3,e4,e5,e6,e7,e8⟩:=hm _ _ _ e;simp only[wH]at e1 e2;refine⟨dr,dw,by rw[e1],by rw[e2],e3,e4,e5,e6,e7,λh2 r2 w2 hag=>?_⟩;obtain⟨h2',q1,q2,q3⟩:=e8 h2 [] [] hag;simp_all[M.foot,D9]
theorem a7w (call ops o os fr):a2s p T call ops (o::os) fr=if a1U ops fr o then M.bind (M.foot (Z0 p T call fr o.op)) (λx=>M.bind (a2s p T call ops os (Q6 fr o x.1)) λy=>M.pure (y.1,x.2::y.2))else M.bind (a2s p T call ops os (Q6 fr o undef)) λy=>M.pure (y.1,([],[])::y.2):=by show(match a1U ops fr o with|true=>M.bind (M.foot (Z0 p T call fr o.op)) λx=>a7Y x.1 λv=>M.bind (a2s p T call ops os (Q6 fr o v)) λy=>M.pure (y.1,x.2::y.2)|false=>M.bind (a2s p T call ops os (Q6 fr o undef)) λy=>M.pure (y.1,([],[])::y.2))=_;grind[a8y]
theorem Fr.runD {call:Nat->List Value->M Value}(hc:∀f vs,Fr (call f vs))(ops os:List Oper):∀fr,Fr (a2s p T call ops os fr):=by induction os with|nil=>intro fr;exact Fr.pure _|cons o os ih=>grind[a7w,Fr.bind,Fr.foot,Fr.stepOp,Fr.pure]
theorem Fr.region {call:Nat->List Value->M Value}(hc:∀f vs,Fr (call f vs))(ops:List Oper)(draw:Bool)(fr:List Value):Fr (region p T call ops draw fr):=by unfold V.region;grind[Fr.bind,Fr.runOps,Fr.pure,Fr.runD,Fr.guard]
theorem Fr.exec {call:Nat->List Value->M Value}(hc:∀f vs,Fr (call f vs))(n:Nat):∀c fr,Fr (a6J p T call n c fr):=by induction n with|zero=>intro c fr;exact Fr.fail|succ n ih=>intro c fr;show Fr (c6R p T call (V.a6J p T call n) c fr);unfold V.c6R;grind[Fr.pure,Fr.region,Fr.bind,Fr.obind,Fr.fail,Fr.fList]
theorem Fr.externV (f:Nat)(vs:List Value):Fr (b7b p f vs):=Fr.guard _ (Fr.obind _ λ_=>Fr.obind _ λ_=>Fr.guard _ (Fr.pure _))
theorem Fr.callV {ext:Nat->Option (List Value->M Value)}(he:∀f g,ext f=some g->∀vs,Fr (g vs))(n:Nat):∀f vs,Fr (a7g p T ext n f vs):=by induction n with|zero=>intro f vs;exact Fr.fail|succ n ih=>intro f vs;show Fr (match ext f with|some g=>g vs|none=>M.obind (T.funcs.get f) λfn=>enter p T (V.a7g p T ext n) n fn f vs);split;rename_i g hg;exact he f g hg vs;refine Fr.obind _ λfn=>?_;grind[V.enter,Fr.externV,Fr.bind,Fr.exec,V.b1k,Fr.fail,Fr.resultsV,Fr.pure]
end
end Go.V
end
section
namespace Go.V
open Go.RowKit (Below)
structure Loc where
 blk:Nat
 lo:Nat
 at_:Nat
 sz:Nat
 own:Bool
abbrev KM:=Nat->Nat->Option Loc
def KM.le (K K':KM):Prop:=∀b g l,K b g=some l->K' b g=some l
theorem KM.le_refl (K:KM):K.le K:=λ_ _ _ h=>h
theorem KM.le_trans {K K' K'':KM}(h:K.le K')(h':K'.le K''):K.le K'':=λb g l e=>h' b g l (h b g l e)
inductive VR (K:KM):Value→Value→Prop
 | plain {v:Value}:plain v=true→VR K v v
 | ptr {b g off:Nat} {l:Loc}:K b g=some l→l.lo≤off→VR K (.pointer (some ⟨l.blk,l.at_+(off - l.lo),none⟩)) (.pointer (some ⟨b,off,some g⟩))
 | slice {b g off len cap es:Nat} {l:Loc} {a':Addr}:K b g=some l→l.lo≤off→0<es→len≤cap→(cap=0∨a'.spot=none) →
  (cap=0∨(a'.block=l.blk∧a'.off=l.at_+(off - l.lo)∧(l.own=true→a'.off+cap * es≤l.sz))) →
  VR K (.slice (some a') len cap) (.slice (some ⟨b,off,some g⟩) len es)
 | map {b:Nat} {l:Loc}:K b 0=some l→VR K (.map (some l.blk)) (.map (some b))
 | agg {cs' cs:Array Value}:cs'.toList.length=cs.toList.length→(∀ (i:Nat) (v' v:Value),cs'.toList[i]?=some v'→cs.toList[i]?=some v→VR K v' v)→VR K (.agg cs') (.agg cs)
 | tuple {cs' cs:Array Value}:cs'.toList.length=cs.toList.length→(∀ (i:Nat) (v' v:Value),cs'.toList[i]?=some v'→cs.toList[i]?=some v→VR K v' v)→VR K (.tuple cs') (.tuple cs)
 | func {fn:Fn} {a' a b' b:Array Value}:a'.toList.length=a.toList.length→(∀ (i:Nat) (v' v:Value),a'.toList[i]?=some v'→a.toList[i]?=some v→VR K v' v) →
  b'.toList.length=b.toList.length→(∀ (i:Nat) (v' v:Value),b'.toList[i]?=some v'→b.toList[i]?=some v→VR K v' v)→VR K (.func fn a' b') (.func fn a b)
 | iface {t:TypeId} {v' v:Value}:VR K v' v→VR K (.iface t v') (.iface t v)
structure VRL (K:KM) (l' l:List Value):Prop where
 len:l'.length=l.length
 at_:∀ (i:Nat) (v' v:Value),l'[i]?=some v'→l[i]?=some v→VR K v' v
theorem VR.mono {K K'}(h:K.le K'){v' v}(r:VR K v' v):VR K' v' v:=by induction r with|plain h=>exact .plain h|ptr hk hl=>exact .ptr (h _ _ _ hk) hl|slice hk h1 h2 h3 h4 h5=>exact .slice (h _ _ _ hk) h1 h2 h3 h4 h5|map hk=>exact .map (h _ _ _ hk)|agg hl _ ih=>exact .agg hl ih|tuple hl _ ih=>exact .tuple hl ih|func hl _ hl' _ ih ih'=>exact .func hl ih hl' ih'|iface _ ih=>exact .iface ih
theorem VRL.mono {K K'}(h:K.le K'){l' l}(r:VRL K l' l):VRL K' l' l:=⟨r.len,λi v' v e e'=>(r.at_ i v' v e e').mono h⟩
theorem VRL.nil (K):VRL K [] []:=⟨rfl,λi v' v h=>by simp at h⟩
theorem VRL.cons {K v' v l' l}(h:VR K v' v)(r:VRL K l' l):VRL K (v'::l') (v::l):=⟨by simp[r.len],λi x' x e e'=>by cases i with|zero=>simp_all|succ i=>exact r.at_ i x' x zo zo⟩
theorem VRL.head {K v' v l' l}(r:VRL K (v'::l') (v::l)):VR K v' v:=r.at_ 0 v' v rfl rfl
theorem VRL.tail {K v' v l' l}(r:VRL K (v'::l') (v::l)):VRL K l' l:=⟨by simpa using r.len,λi x' x e e'=>r.at_ (i+1) x' x zo zo⟩
theorem VRL.append {K a' a b' b}(h:VRL K a' a)(r:VRL K b' b):VRL K (a'++b') (a++b):=⟨by simp[h.len,r.len],λi v' v e e'=>by by_cases hi:i<a.length;rw[vF (by rw[h.len];exact hi)]at e;rw[vF hi]at e';exact h.at_ i v' v e e';rw[vG (by rw[h.len];omega)]at e;rw[vG zy]at e';rw[h.len]at e;exact r.at_ _ v' v e e'⟩
theorem VRL.take {K a' a}(h:VRL K a' a)(n):VRL K (a'.take n) (a.take n):=⟨by simp[h.len],λi v' v e e'=>by rw[tL]at e e';split at e;rename_i hi;rw[vH hi]at e';exact h.at_ i v' v e e';cases e⟩
theorem VRL.drop {K a' a}(h:VRL K a' a)(n):VRL K (a'.drop n) (a.drop n):=⟨by simp[h.len],λi v' v e e'=>by rw[uT]at e e';exact h.at_ _ v' v e e'⟩
theorem VRL.refl_plain {K}(l)(h:∀v∈l,V.plain v=true):VRL K l l:=⟨rfl,λi v' v e e'=>by rw[e]at e';cases e';exact .plain (h _ (vP e))⟩
theorem VR.undef (K:KM):VR K undef undef:=.tuple rfl λi v' v h=>by simp at h
theorem a4d (l i):C9 l i=(l[i]?).getD Go.undef:=by induction l generalizing i with|nil=>rfl|cons v l ih=>cases i with|zero=>rfl|succ i=>exact ih i
theorem VRL.lget {K:KM}{l' l:List Value}(h:VRL K l' l)(i:Nat):VR K (C9 l' i) (C9 l i):=by
 rw[a4d,a4d];by_cases hi:i<l.length;have hi':i<l'.length:=by rw[h.len];exact hi
 rw[wO hi,wO hi'];exact h.at_ i _ _ (wO hi') (wO hi);have e1:l[i]?=none:=vo zy;have e2:l'[i]?=none:=vo (by rw[h.len];omega);rw[e1,e2];exact VR.undef K
theorem a9X (l i x):a4O l i x=l.set i x:=by induction l generalizing i with|nil=>simp[a4O]|cons v l ih=>cases i with|zero=>rfl|succ i=>simp_all[a4O]
theorem VRL.lset {K:KM}{l' l:List Value}(h:VRL K l' l)(i:Nat){x' x:Value}(hx:VR K x' x):VRL K (l'.set i x') (a4O l i x):=by rw[a9X];refine⟨by simp[h.len],λj v' v e e'=>?_⟩;rw[qQ]at e e';split at e;simp_all;rename_i hij;rw[vN hij]at e';exact h.at_ j v' v e e'
theorem VR.oneCell {K:KM}{v' v:Value}(h:VR K v' v)(h1:O4 v=true):v'.oneCell'=true:=by
 cases h with
  |plain hp=>cases v'<;>first|rfl|exact absurd h1 (by simp[V.O4])
  |agg _ _=>grind[V.O4]|tuple _ _=>grind[V.O4]|_=>rfl
structure MR (K:KM) (es':List MapEntry) (es:List (Value×Value)):Prop where
 len:es'.length=es.length
 key:∀ (i:Nat) (e':MapEntry) (e:Value×Value),es'[i]?=some e'→es[i]?=some e→e'.key=e.1∧VR K e'.val e.2
structure Base where
 w:World
 R:Nat→Prop
structure Sim (B0:Nat) (w0:Base) (K:KM) (h:Trie VObj) (w:World):Prop where
 size0:B0≤w0.w.heap.size∧∀ k,B0≤k→w0.R k
 below:Below B0 w0.w w
 dom':∀ b g l,K b g=some l→l.blk<w.heap.size∧w0.R l.blk
 dom2:∀ b g l,K b g=some l→∃ o,h.get b=some o
 own:∀ b g l,K b g=some l→l.own=true→B0≤l.blk
 apart:∀ b g l b' g' l',K b g=some l→K b' g'=some l'→b≠b'→l.own=true→l.blk≠l'.blk
 same:∀ b g l g' l',K b g=some l→K b g'=some l'→l.own=l'.own∧(l.blk=l'.blk→l.at_+l'.lo=l'.at_+l.lo)
 room:∀ b g l cs cur ro,K b g=some l→l.own=true→h.get b=some (.cells cs cur ro)→∃ c e fz,w.heap[l.blk]?=some (.cells c e fz)∧c.size=l.sz∧∀ o,o<l.sz→w.frozen? ⟨l.blk,o,none⟩=false
 gens:∀ b cs cur ro,h.get b=some (.cells cs cur ro)→(∀ g l,K b g=some l→g≤cur∧(ro=false→l.own=true))∧(∀ g,g≤cur→∃ l,K b g=some l)∧∀ c,c∈cs→c.2≤cur
 cells:∀ b cs cur ro g l,h.get b=some (.cells cs cur ro)→K b g=some l→∀ (off:Nat) v st,cs[off]?=some (v,st)→st≤g→l.lo≤off →
  ∃ v',w.cell? ⟨l.blk,l.at_+(off - l.lo),none⟩=some v'∧VR K v' v
 map:∀ b es,h.get b=some (.map es)→∃ l es' clock,K b 0=some l∧l.own=true∧w.heap[l.blk]?=some (.map es' clock)∧MR K es'.toList es
 siter:∀ b s pos,h.get b=some (.siter s pos)→∃ l,K b 0=some l∧l.own=true∧l.lo=0∧l.at_=0∧w.heap[l.blk]?=some (.stringIter s pos)
 gen0:∀ b g l,K b g=some l→(∀ cs cur ro,h.get b≠some (.cells cs cur ro))→g=0
theorem Sim.dom {B0 w0 K h w}(S:Sim B0 w0 K h w):∀b g l,K b g=some l->l.blk<w.heap.size:=λb g l q=>(S.dom' b g l q).1
theorem a6u (g):∀(cs) (n) (vs),y8 g cs n=some vs->vs.length=n/\∀i,i<n->∃v st,cs[i]?=some (v,st)/\st<=g/\vs[i]?=some v:=by
 intro cs;induction cs with
  |nil=>intro n vs h;cases n with|zero=>cases h;simp|succ n=>cases h
  |cons c cs ih=>
   intro n vs h;cases n with
    |zero=>cases h;simp|succ n=>
     have h':(match Nat.ble c.2 g with|true=>(match y8 g cs n with|some vs=>some (c.1::vs)|none=>none)|false=>none)=some vs:=h;split at h';rename_i hb;split at h';rename_i vs' hvs;cases h';obtain⟨h1,h2⟩:=ih n vs' hvs;refine⟨by simp[h1],λi hi=>?_⟩;cases i with|zero=>exact⟨c.1,c.2,rfl,vT hb,rfl⟩|succ i=>simp_all
     cases h';cases h'
theorem a9w (b o n):(⟨b,o,none⟩:Addr).add n=⟨b,o+n,none⟩:=by grind[Addr.add]
theorem a9m {a n s s' vs}(h:loadN a n s=some (vs,s')):∃g cs cur ro,a.spot=some g/\s.h.get a.block=some (.cells cs cur ro)/\y8 g (cs.drop a.off) n=some vs/\s'.c=s.c/\s'.h=s.h:=by unfold loadN at h;cases hg:a.spot with|none=>rw[hg]at h;cases h|some g=>rw[hg]at h;simp only[M.obind,M.bind,rd]at h;cases hb:Nat.blt a.block s.c with|false=>rw[hb]at h;cases h|true=>rw[hb]at h;cases ho:s.h.get a.block with|none=>rw[ho]at h;cases h|some o=>rw[ho]at h;cases o with|cells cs cur ro=>simp only[a7o,M.lift,a0D]at h;grind|map es=>cases h|siter x y=>cases h
theorem a9l {B0 w0 K h w}(S:Sim B0 w0 K h w){b g off n l cs cur ro vs}(hk:K b g=some l)(hlo:l.lo<=off)(ho:h.get b=some (.cells cs cur ro))(ht:y8 g (cs.drop off) n=some vs):∃vs',VRL K vs' vs/\vs.length=n/\∀(j) v',vs'[j]?=some v'->w.cell? ⟨l.blk,l.at_+(off-l.lo)+j,none⟩=some v':=by
 obtain⟨h1,h2⟩:=a6u g _ n vs ht;have h3:∀i,∃v',i<n->w.cell? ⟨l.blk,l.at_+(off-l.lo)+i,none⟩=some v'/\∀v,vs[i]?=some v->VR K v' v:=by intro i;by_cases hi:i<n;obtain⟨v,st,e1,e2,e3⟩:=h2 i hi;rw[uT]at e1;obtain⟨v',c1,c2⟩:=S.cells b cs cur ro g l ho hk (off+i) v st e1 e2 zy;grind;exact⟨undef,λh=>absurd h hi⟩
 refine⟨(List.range n).map λi=>Classical.choose (h3 i),⟨by simp[h1],λi v' v e e'=>?_⟩,h1,λj v' e=>?_⟩;have hi:i<n:=by have:=(wM.1 e).1;simp_all
 rw[vM,List.getElem?_range hi]at e;grind;grind
theorem b3N {P B0 w0 K w a n s s' vs}(h:loadN a n s=some (vs,s'))(S:Sim B0 w0 K s.h w){a'}(r:VR K (.pointer (some a')) (.pointer (some a))):∃vs',(loadCells a' n).run P w=.ok vs'.toArray w/\VRL K vs' vs/\vs'.length=n/\s'.c=s.c/\s'.h=s.h:=by
 obtain⟨g,cs,cur,ro,e1,e2,e3,e4,e5⟩:=a9m h;generalize hv:Value.pointer (some a)=v at r;generalize hv':Value.pointer (some a')=v' at r;cases r with
  |plain hp=>grind[V.plain]|ptr hk hlo=>
   cases hv;cases hv';cases e1;obtain⟨vs',c1,c2,c3⟩:=a9l S hk hlo e2 e3;have hn:vs'.length=n:=by rw[c1.len,c2]
   grind[run_loadCells_list,a9w]|_=>cases hv
structure Upd (w w':World) (b o:Nat) (vs:List Value):Prop where
 os:w'.os=w.os
 tape:w'.tape=w.tape
 output:w'.output=w.output
 size:w'.heap.size=w.heap.size
 other:∀ k,k≠b→w'.heap[k]?=w.heap[k]?
 blk:∀ c e fz,w.heap[b]?=some (.cells c e fz)→∃ c',w'.heap[b]?=some (.cells c' e fz)∧c'.size=c.size ∧
  ∀ j,c'[j]?=if o≤j∧j<o+vs.length then (if j<c.size then vs[j - o]? else none) else c[j]?
theorem Upd.nil (w b o):Upd w w b o []:=⟨rfl,rfl,rfl,rfl,λ_ _=>rfl,λc e fz h=>⟨c,h,rfl,λj=>by rw[vN zq]⟩⟩
theorem b1O (P b):∀(vs) (o i) (w),(∀j,j<vs.length->(w.cell? ⟨b,o+i+j,none⟩).isSome=true)->(∀j,j<vs.length->w.frozen? ⟨b,o+i+j,none⟩=false)->(∀v∈vs,v.oneCell'=true)->∃w',(storeCells ⟨b,o,none⟩ vs i).run P w=.ok () w'/\Upd w w' b (o+i) vs
 |[],o,i,w,_,_,_=>⟨w,rfl,Upd.nil w b _⟩|v::vs,o,i,w,hc,hf,h1=>by
  have c0:=hc 0 zq;have f0:=hf 0 zq;simp only[vB]at c0 f0;obtain⟨u,hu⟩:=tH.1 c0;have hne:∀j,(⟨b,o+i,none⟩:Addr)≠⟨b,o+i+(j+1),none⟩:=λj h=>by have:=wB Addr.off h;simp at this
  obtain⟨w',r1,r2⟩:=b1O P b vs o (i+1) (w.setCell ⟨b,o+i,none⟩ v) (λj hj=>by have:=hc (j+1) zo;rw[show o+(i+1)+j=o+i+(j+1) by omega,oI _ _ _ _ (hne j)];exact this) (λj hj=>by have:=hf (j+1) zo;rw[show o+(i+1)+j=o+i+(j+1) by omega,World.frozen?_setCell];exact this) (λx hx=>h1 x (vI _ hx));refine⟨w',?_,?_⟩;simp_all[storeCells,a9w,run_store];refine⟨r2.os,r2.tape,r2.output,by rw[r2.size];simp,?_,?_⟩;intro k hk;rw[r2.other k hk,RowKit.Below.heap_setCell _ _ _ _ hk];intro c e fz hb;have hb':(w.setCell ⟨b,o+i,none⟩ v).heap[b]?=some (.cells (c.setIfInBounds (o+i) v) e fz):=by simp[World.setCell,rF,hb]
  obtain⟨c',g1,g2,g3⟩:=r2.blk _ e fz hb';grind
theorem Upd.cell_other {w w' b o vs}(u:Upd w w' b o vs){c e fz}(hw:w.heap[b]?=some (.cells c e fz))(a)(h:a.block≠b\/¬(o<=a.off/\a.off<o+vs.length)):w'.cell? a=w.cell? a:=by by_cases hb:a.block=b;rcases h with h|h;omega;obtain⟨c',g1,g2,g3⟩:=u.blk c e fz hw;simp_all[World.cell?,vN];exact tF (w:=w) (u.other _ hb)
theorem Upd.cell_new {w w' b o vs}(u:Upd w w' b o vs){c e fz}(hw:w.heap[b]?=some (.cells c e fz))(hs:o+vs.length<=c.size)(j)(v)(hj:vs[j]?=some v):w'.cell? ⟨b,o+j,none⟩=some v:=by
 obtain⟨c',g1,g2,g3⟩:=u.blk c e fz hw;have hlt:j<vs.length:=(wM.1 hj).1;have e1:c'[o+j]?=vs[j]?:=by rw[g3 (o+j),vH zy,vH zy,show o+j-o=j by omega]
 simp only[World.cell?,g1];rw[vN zq,e1,hj]
theorem Upd.frozen {w w' b o vs}(u:Upd w w' b o vs){c e fz}(hw:w.heap[b]?=some (.cells c e fz))(a):w'.frozen? a=w.frozen? a:=by by_cases hb:a.block=b;obtain⟨c',g1,_,_⟩:=u.blk c e fz hw;grind[World.frozen?];exact qM (w:=w) (u.other _ hb)
theorem Upd.below {w w' b o vs}(u:Upd w w' b o vs){B}(hB:B<=b):Below B w w':=⟨u.os,u.tape,u.output,by rw[u.size];omega,λk hk=>u.other k zy⟩
theorem b1j (g):∀(vs) (cs) (j),(a2W g vs cs)[j]?=if j<vs.length then(vs[j]?).map (λv=>(v,g))else cs[j]?:=by intro vs;induction vs with|nil=>intro cs j;rfl|cons v vs ih=>intro cs j;cases cs with|nil=>show((v,g)::a2W g vs [])[j]?=_;grind|cons c cs=>show((v,g)::a2W g vs cs)[j]?=_;grind
theorem b8T (g vs):∀(cs) (n) (cs'),a2b g vs cs n=some cs'->∀(j),cs'[j]?=if n<=j/\j<n+vs.length then(vs[j-n]?).map (λv=>(v,g))else cs[j]?:=by
 intro cs;induction cs with
  |nil=>
   intro n cs' h j;cases n with
    |zero=>
     have:cs'=a2W g vs []:=by cases h;rfl
     rw[this,b1j];by_cases hj:j<vs.length<;>simp[hj]|succ n=>cases h
  |cons c cs ih=>
   intro n cs' h j;cases n with
    |zero=>
     have:cs'=a2W g vs (c::cs):=by cases h;rfl
     rw[this,b1j];by_cases hj:j<vs.length<;>simp[hj]|succ n=>have h':(match a2b g vs cs n with|some cs'=>some (c::cs')|none=>none)=some cs':=h;grind
theorem b6M {i o s s' u}(h:wr i o s=some (u,s')):(∃o',s.h.get i=some o')/\s'.c=s.c/\∀j,s'.h.get j=if j=i then some o else s.h.get j:=by unfold wr at h;split at h;split at h;rename_i o' ho;rw[Trie.putK_eq]at h;cases h;exact⟨⟨o',ho⟩,rfl,λj=>Trie.get_put _ _ _ _ (wE _) j⟩;cases h;cases h
theorem Upd.room {w w' b o vs}(u:Upd w w' b o vs){k n}(h:∃c e fz,w.heap[k]?=some (.cells c e fz)/\c.size=n/\∀o,o<n->w.frozen? ⟨k,o,none⟩=false){c0}{e0}{fz0}(hw:w.heap[b]?=some (.cells c0 e0 fz0)):∃c e fz,w'.heap[k]?=some (.cells c e fz)/\c.size=n/\∀o,o<n->w'.frozen? ⟨k,o,none⟩=false:=by obtain⟨c,e,fz,h1,h2,h3⟩:=h;by_cases hk:k=b;subst hk;obtain⟨c',g1,g2,_⟩:=u.blk c e fz h1;exact⟨c',e,fz,g1,zy,λo ho=>by rw[u.frozen h1];grind⟩;exact⟨c,e,fz,by rw[u.other k hk];exact h1,h2,λo ho=>by rw[u.frozen hw];grind⟩
theorem c8s {B0 w0 K h h' w w'}(S:Sim B0 w0 K h w){b cur off l cs cs' vs vs'}(hk:K b cur=some l)(hlo:l.lo<=off)(ho:h.get b=some (.cells cs cur false))(hlen:off+vs.length<=cs.length)(hpos:0<vs.length)(hcs:∀(j),cs'[j]?=if off<=j/\j<off+vs.length then(vs[j-off]?).map (λv=>(v,cur))else cs[j]?)(hh:∀j,h'.get j=if j=b then some (.cells cs' cur false)else h.get j)(hv:VRL K vs' vs)(u:Upd w w' l.blk (l.at_+(off-l.lo)) vs'):Sim B0 w0 K h' w':=by
 obtain⟨hg1,hg2,hg3⟩:=S.gens b cs cur false ho;have hown:l.own=true:=(hg1 cur l hk).2 rfl;obtain⟨c,e,fz,hc1,hc2,hc3⟩:=S.room b cur l cs cur false hk hown ho;have hsz:l.at_+(off-l.lo)+vs'.length<=c.size:=by have h1:off+vs.length-1<cs.length:=zy;obtain⟨v',q1,_⟩:=S.cells b cs cur false cur l ho hk (off+vs.length-1) cs[off+vs.length-1].1 cs[off+vs.length-1].2 (wO h1) (hg3 _ (uP h1)) zy;simp only[World.cell?,hc1]at q1;have:=(ql.1 (by simpa using q1)).1;rw[hv.len];omega
 have hb:h'.get b=some (.cells cs' cur false):=xQ;have hnb:∀j,j≠b->h'.get j=h.get j:=λj hj=>xP;refine⟨S.size0,S.below.trans (u.below (S.own b cur l hk hown)),λb2 g2 l2 q=>by rw[u.size];exact S.dom' b2 g2 l2 q,λb2 g2 l2 q=>by by_cases hx:b2=b;exact⟨_,by rw[hx];exact hb⟩;rw[hnb b2 hx];exact S.dom2 b2 g2 l2 q,S.own,S.apart,S.same,?_,?_,?_,?_,?_,(λb2 g2 l2 q hnc=>by by_cases hx:b2=b;simp_all;exact S.gen0 b2 g2 l2 q (λcs cur ro e=>hnc cs cur ro (by rw[hnb b2 hx];exact e)))⟩;intro b2 g2 l2 cs2 cur2 ro2 q1 q2 q3;by_cases hb2:b2=b;subst hb2;exact u.room (S.room b2 g2 l2 cs cur false q1 q2 ho) hc1;rw[hnb b2 hb2]at q3;exact u.room (S.room b2 g2 l2 cs2 cur2 ro2 q1 q2 q3) hc1;intro b2 cs2 cur2 ro2 q;by_cases hb2:b2=b;subst hb2;rw[hb]at q;cases q;refine⟨hg1,hg2,λx hx=>?_⟩;obtain⟨j,hj,hx⟩:=pF hx;have e1:=hcs j;rw[wO hj,hx]at e1;grind;rw[hnb b2 hb2]at q;exact S.gens b2 cs2 cur2 ro2 q;intro b2 cs2 cur2 ro2 g2 l2 q1 q2 off2 v st q3 q4 q5;by_cases hb2:b2=b;subst hb2;rw[hb]at q1;cases q1;have e1:=hcs off2;rw[q3]at e1;split at e1;rename_i hr;cases hvj:vs[off2-off]? with
  |none=>rw[hvj]at e1;cases e1|some y=>
   rw[hvj]at e1;cases e1;have hgc:g2=cur:=Nat.le_antisymm (hg1 g2 l2 q2).1 q4;subst hgc;rw[hk]at q2;cases q2;have hlt:off2-off<vs'.length:=by rw[hv.len];omega
   refine⟨vs'[off2-off],?_,hv.at_ _ _ _ (wO hlt) hvj⟩;rw[show l.at_+(off2-l.lo)=l.at_+(off-l.lo)+(off2-off) by omega];exact u.cell_new hc1 hsz _ _ (wO hlt)
 rename_i hr;obtain⟨v',r1,r2⟩:=S.cells b2 cs cur false g2 l2 ho q2 off2 v st e1.symm q4 q5;refine⟨v',?_,r2⟩;rw[u.cell_other hc1 _ ?_];exact r1;by_cases hbk:l2.blk=l.blk;right;have:=(S.same b2 cur l g2 l2 hk q2).2 hbk.symm;have hl:=hv.len;grind;simp_all;rw[hnb b2 hb2]at q1;obtain⟨v',r1,r2⟩:=S.cells b2 cs2 cur2 ro2 g2 l2 q1 q2 off2 v st q3 q4 q5;refine⟨v',?_,r2⟩;rw[u.cell_other hc1 _ (Or.inl (S.apart b cur l b2 g2 l2 hk q2 (ow hb2) hown).symm)];exact r1;intro b2 es q;have hb2:b2≠b:=λh=>by rw[h,hb]at q;cases q
 rw[hnb b2 hb2]at q;obtain⟨l2,es',clock,r1,r2,r3,r4⟩:=S.map b2 es q;exact⟨l2,es',clock,r1,r2,by rw[u.other _ (S.apart b cur l b2 0 l2 hk r1 (ow hb2) hown).symm];exact r3,r4⟩;intro b2 x pos q;have hb2:b2≠b:=λh=>by rw[h,hb]at q;cases q
 rw[hnb b2 hb2]at q;obtain⟨l2,r1,r2,r3,r4,r5⟩:=S.siter b2 x pos q;exact⟨l2,r1,r2,r3,r4,by rw[u.other _ (S.apart b cur l b2 0 l2 hk r1 (ow hb2) hown).symm];exact r5⟩
theorem c5V {a vs s s' u}(h:storeN a vs s=some (u,s')):∃cur cs cs',a.spot=some cur/\s.h.get a.block=some (.cells cs cur false)/\(∀v∈vs,O4 v=true)/\a.off+vs.length<=cs.length/\a2b cur vs cs a.off=some cs'/\s'.c=s.c/\∀j,s'.h.get j=if j=a.block then some (.cells cs' cur false)else s.h.get j:=by
 unfold storeN at h;cases hg:a.spot with
  |none=>rw[hg]at h;cases h|some g=>
   rw[hg]at h;simp only[M.obind,M.bind,rd]at h;cases hb:Nat.blt a.block s.c with
    |false=>rw[hb]at h;cases h|true=>
     rw[hb]at h;cases ho:s.h.get a.block with
      |none=>rw[ho]at h;cases h|some o=>
       rw[ho]at h;cases o with
        |cells cs cur ro=>simp only[a7o]at h;cases hgd:(Nat.beq g cur&& !ro&&J2 O4 vs&&Nat.ble (a.off+x8 vs) (x8 cs))with|false=>rw[hgd]at h;cases h|true=>rw[hgd]at h;simp only[wK,tZ,M4,F9]at hgd;obtain⟨⟨⟨g1,g2⟩,g3⟩,g4⟩:=hgd;have g1:=wR g1;have g4:=vT g4;subst g1 g2;simp only[M.guard]at h;cases hp:a2b g vs cs a.off with|none=>rw[hp]at h;cases h|some cs'=>rw[hp]at h;simp only[Z6]at h;obtain⟨_,w2,w3⟩:=b6M h;simp_all
        |map es=>cases h|siter x y=>cases h
theorem a8D {K a a'}(r:VR K (.pointer (some a')) (.pointer (some a))):∃g l,a.spot=some g/\K a.block g=some l/\l.lo<=a.off/\a'=⟨l.blk,l.at_+(a.off-l.lo),none⟩:=by generalize hv:Value.pointer (some a)=v at r;generalize hv':Value.pointer (some a')=v' at r;cases r with|plain hp=>grind[V.plain]|ptr hk hlo=>simp_all|_=>cases hv
theorem c6Q {P B0 w0 K w a s s' vs vs' u}(h:storeN a vs s=some (u,s'))(S:Sim B0 w0 K s.h w)(hpos:0<vs.length){a'}(r:VR K (.pointer (some a')) (.pointer (some a)))(hv:VRL K vs' vs):∃w',(storeCells a' vs').run P w=.ok () w'/\Sim B0 w0 K s'.h w'/\s'.c=s.c:=by
 obtain⟨cur,cs,cs',e1,e2,e3,e4,e5,e6,e7⟩:=c5V h;obtain⟨g,l,f1,f2,f3,rfl⟩:=a8D r;rw[e1]at f1;cases f1;obtain⟨hg1,hg2,hg3⟩:=S.gens _ cs cur false e2;have hown:l.own=true:=(hg1 cur l f2).2 rfl;obtain⟨c,e,fz,hc1,hc2,hc3⟩:=S.room _ cur l cs cur false f2 hown e2;have hcell:∀j,j<vs'.length->(w.cell? ⟨l.blk,l.at_+(a.off-l.lo)+0+j,none⟩).isSome=true:=by
  intro j hj;have h1:a.off+j<cs.length:=by rw[hv.len]at hj;omega
  obtain⟨v',q1,_⟩:=S.cells _ cs cur false cur l e2 f2 (a.off+j) cs[a.off+j].1 cs[a.off+j].2 (wO h1) (hg3 _ (uP h1)) zy;rw[show l.at_+(a.off-l.lo)+0+j=l.at_+(a.off+j-l.lo) by omega,q1];rfl
 obtain⟨w',r1,r2⟩:=b1O P l.blk vs' (l.at_+(a.off-l.lo)) 0 w hcell (λj hj=>by grind[World.cell?]) (λv hvm=>by
  obtain⟨j,hj,rfl⟩:=pF hvm;have hj2:j<vs.length:=by rw[<-hv.len];exact hj
  exact(hv.at_ j _ _ (wO hj) (wO hj2)).oneCell (e3 _ (uP hj2)));exact⟨w',r1,c8s S f2 f3 e2 e4 hpos (b8T cur vs cs a.off cs' e5) e7 hv r2,e6⟩
def KM.put (K:KM)(b g:Nat)(l:Loc):KM:=λb' g'=>if b'=b/\g'=g then some l else K b' g'
theorem KM.put_same (K:KM)(b g l):K.put b g l b g=some l:=by simp[KM.put]
theorem KM.put_other (K:KM){b g b' g'}(l)(h:¬(b'=b/\g'=g)):K.put b g l b' g'=K b' g':=by simp[KM.put,h]
theorem KM.le_put (K:KM){b g}(l)(h:K b g=none):K.le (K.put b g l):=λb' g' l' e=>by rw[KM.put_other K l (λ⟨h1,h2⟩=>by rw[h1,h2,h]at e;cases e)];exact e
theorem KM.put_inv {K:KM}{b g b' g' l l'}(h:K.put b g l b' g'=some l'):(b'=b/\g'=g/\l'=l)\/K b' g'=some l':=by unfold KM.put at h;grind
structure Grew (w w':World):Prop where
 os:w'.os=w.os
 tape:w'.tape=w.tape
 output:w'.output=w.output
 size:w.heap.size≤w'.heap.size
 old:∀ k,k<w.heap.size→w'.heap[k]?=w.heap[k]?
theorem Grew.refl (w):Grew w w:=⟨rfl,rfl,rfl,wQ _,λ_ _=>rfl⟩
theorem Grew.trans {a b c}(h:Grew a b)(k:Grew b c):Grew a c:=⟨k.os.trans h.os,k.tape.trans h.tape,k.output.trans h.output,vQ h.size k.size,λi hi=>(k.old i (wD hi h.size)).trans (h.old i hi)⟩
theorem Grew.alloc (w o):Grew w (w.alloc o):=⟨rfl,rfl,rfl,zq,λk hk=>RowKit.Below.heap_alloc w o k hk⟩
theorem Grew.drew (w):Grew w w.drew:=⟨rfl,rfl,rfl,wQ _,λ_ _=>rfl⟩
theorem Grew.cell {w w'}(h:Grew w w'){a}(ha:a.block<w.heap.size):w'.cell? a=w.cell? a:=tF (w:=w) (h.old _ ha)
theorem Grew.frozen {w w'}(h:Grew w w'){a}(ha:a.block<w.heap.size):w'.frozen? a=w.frozen? a:=qM (w:=w) (h.old _ ha)
theorem Grew.below {w w'}(h:Grew w w'){B}(hB:B<=w.heap.size):Below B w w':=⟨h.os,h.tape,h.output,h.size,λk hk=>h.old k zy⟩
theorem Sim.base {B0 w0 K h w}(S:Sim B0 w0 K h w):B0<=w.heap.size:=vQ S.size0.1 S.below.size
theorem a6q {B0 w0 K h w w'}(S:Sim B0 w0 K h w)(G:Grew w w'):Sim B0 w0 K h w':=by refine⟨S.size0,S.below.trans (G.below S.base),λb g l q=>⟨wD (S.dom b g l q) G.size,(S.dom' b g l q).2⟩,S.dom2,S.own,S.apart,S.same,?_,S.gens,?_,?_,?_,S.gen0⟩;intro b g l cs cur ro q1 q2 q3;obtain⟨c,e,fz,r1,r2,r3⟩:=S.room b g l cs cur ro q1 q2 q3;exact⟨c,e,fz,by rw[G.old _ (S.dom b g l q1)];exact r1,r2,λo ho=>by rw[G.frozen (S.dom b g l q1)];grind⟩;intro b cs cur ro g l q1 q2 off v st q3 q4 q5;obtain⟨v',r1,r2⟩:=S.cells b cs cur ro g l q1 q2 off v st q3 q4 q5;exact⟨v',by rw[G.cell (S.dom b g l q2)];exact r1,r2⟩;intro b es q;obtain⟨l,es',clock,r1,r2,r3,r4⟩:=S.map b es q;exact⟨l,es',clock,r1,r2,by rw[G.old _ (S.dom b 0 l r1)];exact r3,r4⟩;intro b x pos q;obtain⟨l,r1,r2,r3,r4,r5⟩:=S.siter b x pos q;exact⟨l,r1,r2,r3,r4,by rw[G.old _ (S.dom b 0 l r1)];exact r5⟩
theorem MR.mono {K K'}(h:K.le K'){a b}(r:MR K a b):MR K' a b:=⟨r.len,λi e' e q q'=>⟨(r.key i e' e q q').1,(r.key i e' e q q').2.mono h⟩⟩
theorem b7a {B0 w0 K h h' w}(S:Sim B0 w0 K h w){c l o}(hK:∀g,K c g=none)(hh:∀j,h'.get j=if j=c then some o else h.get j)(hl:l.blk<w.heap.size)(hB:B0<=l.blk)(hown:l.own=true)(hfresh:∀b g l',K b g=some l'->l'.blk≠l.blk)(hcells:∀cs cur ro,o=.cells cs cur ro->cur=0/\ro=false/\(∀x∈cs,x.2=0)/\l.lo=0/\(∃a e fz,w.heap[l.blk]?=some (.cells a e fz)/\a.size=l.sz/\∀o,o<l.sz->w.frozen? ⟨l.blk,o,none⟩=false)/\∀(off) v st,cs[off]?=some (v,st)->∃v',w.cell? ⟨l.blk,l.at_+off,none⟩=some v'/\VR K v' v)(hmap:∀es,o=.map es->∃es' clock,w.heap[l.blk]?=some (.map es' clock)/\MR K es'.toList es)(hiter:∀x pos,o=.siter x pos->l.lo=0/\l.at_=0/\w.heap[l.blk]?=some (.stringIter x pos)):Sim B0 w0 (K.put c 0 l) h' w:=by
 have hle:K.le (K.put c 0 l):=KM.le_put K l (hK 0);have hc:h'.get c=some o:=xQ;have hn:∀j,j≠c->h'.get j=h.get j:=λj hj=>xP;have hput:∀b g l',(K.put c 0 l) b g=some l'->(b=c/\g=0/\l'=l)\/(b≠c/\K b g=some l'):=by grind[KM.put_inv]
 refine⟨S.size0,S.below,?_,?_,?_,?_,?_,?_,?_,?_,?_,?_,(λb g l1 q hnc=>by rcases hput b g l1 q with⟨_,e,_⟩|⟨n1,q1⟩;exact e;exact S.gen0 b g l1 q1 (λcs cur ro e=>hnc cs cur ro (by rw[hn b n1];exact e)))⟩;intro b g l' q;rcases hput b g l' q with⟨_,_,rfl⟩|⟨_,q⟩;exact⟨hl,S.size0.2 _ hB⟩;exact S.dom' b g l' q;intro b g l' q;rcases hput b g l' q with⟨e,_,_⟩|⟨hne,q⟩;simp_all;rw[hn b hne];exact S.dom2 b g l' q;intro b g l' q q2;rcases hput b g l' q with⟨_,_,rfl⟩|⟨_,q⟩;exact hB;exact S.own b g l' q q2;intro b g l1 b' g' l2 q1 q2 hne ho;rcases hput b g l1 q1 with⟨e1,_,e2⟩|⟨_,p1⟩<;>rcases hput b' g' l2 q2 with⟨e3,_,e4⟩|⟨_,p2⟩;omega;rw[e2];grind;rw[e4];grind;exact S.apart b g l1 b' g' l2 p1 p2 hne ho;intro b g l1 g' l2 q1 q2;rcases hput b g l1 q1 with⟨rfl,rfl,rfl⟩|⟨n1,q1⟩<;>rcases hput b g' l2 q2 with⟨e,rfl,rfl⟩|⟨n2,q2⟩;simp_all;omega;omega;exact S.same b g l1 g' l2 q1 q2;intro b g l1 cs cur ro q1 q2 q3;rcases hput b g l1 q1 with⟨rfl,rfl,rfl⟩|⟨n1,q1⟩;rw[hc]at q3;simp_all;rw[hn b n1]at q3;exact S.room b g l1 cs cur ro q1 q2 q3;intro b cs cur ro q;by_cases hb:b=c;subst hb;rw[hc]at q;cases q;obtain⟨rfl,rfl,e3,e4,e5,e6⟩:=hcells cs cur ro rfl;refine⟨λg l1 q1=>?_,λg hg=>⟨l,by rw[ol.1 hg];exact KM.put_same K b 0 l⟩,λx hx=>by rw[e3 x hx];omega⟩;grind;rw[hn b hb]at q;obtain⟨r1,r2,r3⟩:=S.gens b cs cur ro q;refine⟨λg l1 q1=>?_,λg hg=>let⟨l1,r⟩:=r2 g hg;⟨l1,hle _ _ _ r⟩,r3⟩;grind;intro b cs cur ro g l1 q1 q2 off v st q3 q4 q5;rcases hput b g l1 q2 with⟨rfl,rfl,rfl⟩|⟨n1,q2⟩;rw[hc]at q1;cases q1;obtain⟨rfl,rfl,e3,e4,e5,e6⟩:=hcells cs cur ro rfl;obtain⟨v',r1,r2⟩:=e6 off v st q3;exact⟨v',by rw[e4,qb];exact r1,r2.mono hle⟩;rw[hn b n1]at q1;obtain⟨v',r1,r2⟩:=S.cells b cs cur ro g l1 q1 q2 off v st q3 q4 q5;exact⟨v',r1,r2.mono hle⟩;intro b es q;by_cases hb:b=c;subst hb;rw[hc]at q;cases q;obtain⟨es',clock,r1,r2⟩:=hmap es rfl;exact⟨l,es',clock,KM.put_same K b 0 l,hown,r1,r2.mono hle⟩;rw[hn b hb]at q;obtain⟨l1,es',clock,r1,r2,r3,r4⟩:=S.map b es q;exact⟨l1,es',clock,hle _ _ _ r1,r2,r3,r4.mono hle⟩;intro b x pos q;by_cases hb:b=c;subst hb;rw[hc]at q;cases q;obtain⟨r1,r2,r3⟩:=hiter x pos rfl;grind[KM.put_same];rw[hn b hb]at q;obtain⟨l1,r1,r2,r3,r4,r5⟩:=S.siter b x pos q;exact⟨l1,hle _ _ _ r1,r2,r3,r4,r5⟩
structure Step (B0:Nat) (w0:Base) (K:KM) (s':S) (w':World) (K':KM):Prop where
 le:K.le K'
 far:∀ i g,s'.c≤i→K' i g=K i g
 sim:Sim B0 w0 K' s'.h w'
def a0B (_:KM)(s s':S):Prop:=∀i,s.c<=i->i<s'.c->s.h.get i=none
theorem Sim.none {B0:Nat}{w0:Base}{K:KM}{h:Trie VObj}{w:World}(S:Sim B0 w0 K h w){i:Nat}(hi:h.get i=none)(g:Nat):K i g=none:=by cases q:K i g with|none=>rfl|some l=>obtain⟨o,e⟩:=S.dom2 i g l q;rw[hi]at e;cases e
theorem b0h {vs s s' a}(h:Y7 vs s=some (a,s')):(∀v∈vs,O4 v=true)/\a=⟨s.c,0,some 0⟩/\s'.c=s.c+1/\∀j,s'.h.get j=if j=s.c then some (.cells (vs.map λv=>(v,0)) 0 false)else s.h.get j:=by unfold Y7 at h;cases hg:J2 O4 vs with|false=>rw[hg]at h;cases h|true=>rw[hg]at h;simp only[M.guard,Z6,a0R,M.bind,b2R,M.pure]at h;cases h;exact⟨(M4 _ _).1 hg,rfl,rfl,λj=>Trie.get_put _ _ _ _ (wE _) j⟩
theorem a6m {B0 w0 K w w' vs vs' s s' a}(h:Y7 vs s=some (a,s'))(S:Sim B0 w0 K s.h w)(F:a0B K s s')(hv:VRL K vs' vs){arr}{e}{fz}(G:Grew w w')(hblk:w'.heap[w.heap.size]?=some (.cells arr e fz)){rest}(harr:arr.toList=vs'++rest)(hfz:∀o,o<arr.size->¬(fz.1<=o/\o<fz.2)):∃K',Step B0 w0 K s' w' K'/\K' s.c 0=some ⟨w.heap.size,0,0,arr.size,true⟩/\a=⟨s.c,0,some 0⟩:=by
 obtain⟨h1,h2,h3,h4⟩:=b0h h;have S':=a6q S G;have hK:∀g,K s.c g=none:=S.none (F s.c (wQ _) zy);have hlt:w.heap.size<w'.heap.size:=(ql.1 hblk).1;refine⟨K.put s.c 0 ⟨w.heap.size,0,0,arr.size,true⟩,⟨KM.le_put K _ (hK 0),?_,?_⟩,KM.put_same _ _ _ _,h2⟩;grind[KM.put_other];refine b7a (o:=.cells (vs.map λv=>(v,0)) 0 false) S' hK h4 hlt S.base rfl (λb g l q=>by have:=S.dom b g l q;grind) ?_ (λes q=>ze) (λx pos q=>ze);intro cs cur ro q;cases q;refine⟨rfl,rfl,λx hx=>?_,rfl,⟨arr,e,fz,hblk,rfl,λo ho=>?_⟩,?_⟩;grind;grind[World.frozen?];intro off v st q;rw[vM]at q;cases hvo:vs[off]? with
  |none=>rw[hvo]at q;cases q|some y=>
   rw[hvo]at q;cases q;have hlt:off<vs'.length:=by rw[hv.len];grind
   refine⟨vs'[off],?_,hv.at_ _ _ _ (wO hlt) hvo⟩;simp only[World.cell?,hblk,vV];have:arr[off]?=some vs'[off]:=by rw[<-qA,harr,vF hlt];simp_all
   simp_all
end Go.V
end
