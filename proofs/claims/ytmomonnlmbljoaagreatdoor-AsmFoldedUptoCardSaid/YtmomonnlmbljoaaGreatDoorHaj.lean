import Derived.Test.YtmomonnlmbljoaaGreatDoorHai
set_option maxRecDepth 1000000
set_option maxHeartbeats 4000000
set_option linter.unusedVariables false
set_option linter.unusedSimpArgs false
section
noncomputable section
namespace Go.V
theorem c9D:O7 0=[]:=xK rfl rfl
theorem d0f (n):O7 (n+1)=undef::O7 n:=xK rfl rfl
theorem s_0 (v l x):a2L (v::l) 0 x=x::l:=xK rfl rfl
theorem s_s (v l i x):a2L (v::l) (i+1) x=v::a2L l i x:=xK rfl rfl
theorem e4m (a0 a1 a2 a3 a4 a5 a6 a7 a8 a9 a10 a11 a12 a13 a14 a15 l i):r6 (a0::a1::a2::a3::a4::a5::a6::a7::a8::a9::a10::a11::a12::a13::a14::a15::l) (i+16)=r6 l i:=xK rfl rfl
theorem e4w (a0 a1 a2 a3 a4 a5 a6 a7 a8 a9 a10 a11 a12 a13 a14 a15 l i x):a2L (a0::a1::a2::a3::a4::a5::a6::a7::a8::a9::a10::a11::a12::a13::a14::a15::l) (i+16) x=a0::a1::a2::a3::a4::a5::a6::a7::a8::a9::a10::a11::a12::a13::a14::a15::a2L l i x:=xK rfl rfl
theorem e4x (f:Operand->Value)(x):Option.map f (some x)=some (f x):=xK rfl rfl
theorem e5v (f:Operand->Value):Option.map f none=none:=xK rfl rfl
theorem c4v (fr):G3 fr []=[]:=xK rfl rfl
theorem c1f (fr i W):G3 fr (i::W)=r6 fr i::G3 fr W:=xK rfl rfl
theorem c0D (vs fr i):a3A vs [] i fr=fr:=xK rfl rfl
theorem c0d (vs fr t W i):a3A vs (t::W) i fr=a3A vs W (i+1) (a2L fr t (r6 vs i)):=xK rfl rfl
theorem c6L (vs fr W):C5 W vs fr=a3A vs W 0 fr:=xK rfl rfl
theorem d7p (fr)(t:Nat):vO fr (.tmp t)=r6 fr t:=xK rfl rfl
theorem d5f (fr k n m)(h:n=m):vO fr (.const (.int k n))=.int k m:=by rw[<-h];rfl
theorem c8a (fr v)(h:b4a v=false):vO fr (.const v)=v:=xK rfl rfl
theorem c5I (fr g):vO fr (.global g)=.pointer (some ⟨g,0,some 0⟩):=xK rfl rfl
theorem d2B (fr)(f:Nat):vO fr (.func f)=.func (.func f) #[] #[]:=xK rfl rfl
theorem d8z (fr):vL fr []=[]:=xK rfl rfl
theorem d2J (fr o os):vL fr (o::os)=vO fr o::vL fr os:=xK rfl rfl
def a3E (d:Option Nat)(fr:List Value)(v:Value):List Value:=match d with|some t=>a2L fr t v|none=>fr
theorem c6y (t fr v):a3E (some t) fr v=a2L fr t v:=xK rfl rfl
theorem c7A (fr v):a3E none fr v=fr:=xK rfl rfl
theorem d4L (v):a5K [v]=v:=xK rfl rfl
theorem d8A:a5K []=.tuple ⟨[]⟩:=xK rfl rfl
theorem d5e (v w vs):a5K (v::w::vs)=.tuple ⟨v::w::vs⟩:=xK rfl rfl
def b2I:Op->Bool|.move _=>false|.assign _=>false|.call _=>false|.panic _=>false|_=>true
section
variable {p:Program}{T:Tab}{cb:Cb}{N:Nat}{call:A8}{β:Type}{fr:List Value}{k:Xc->List Value->M β}{d:Option Nat}{ty:TypeId}{pos:String}{af:Array Edge}{g:Option (Nat×Bool)}{os:List Oper}
theorem c4d:P0 p T cb false call [] fr k=k .normal fr:=rfl
theorem d4u {x}(h:okO T x=true):P0 p T cb false call (⟨d,.move x,ty,pos,af,g⟩::os) fr k=P0 p T cb false call os (a3E d fr (vO fr x)) k:=by show M.obind (K4 T fr x) _=_;rw[a3m h];cases d<;>rfl
theorem d0d {x}(h:okO T x=true):P0 p T cb false call (⟨d,.assign x,ty,pos,af,g⟩::os) fr k=P0 p T cb false call os (a3E d fr (vO fr x)) k:=by show M.obind (K4 T fr x) _=_;rw[a3m h];cases d<;>rfl
theorem d0h {o}(h:b2I o=true):P0 p T cb false call (⟨d,o,ty,pos,af,g⟩::os) fr k=cb.bv β (E4 p T fr o) λv=>P0 p T cb false call os (a3E d fr v) k:=by cases d<;>cases o<;>first|rfl|cases h
theorem d6H {f:Nat}{a ts}(h:X0 T a.toList=true):P0 p T cb false call (⟨d,.call ⟨.value (.func f),a,ts⟩,ty,pos,af,g⟩::os) fr k=cb.bc β (call f (vL fr a.toList)) (λv=>P0 p T cb false call os (a3E d fr v) k) noP:=by
 show M.obind (a2P T fr (.func f) a.toList) _=_;have:a2P T fr (.func f) a.toList=some (f,vL fr a.toList):=by unfold a2P;rw[b2N h];show some (f,m9 [] (m9 (vL fr a.toList) []))=_;rw[a2w,v8,xJ]
 rw[this];cases d<;>rfl
theorem d3b {f a ts}(hf:okO T f=true)(h:X0 T a.toList=true):P0 p T cb false call (⟨d,.call ⟨.value f,a,ts⟩,ty,pos,af,g⟩::os) fr k=M.obind (a9a (vO fr f) (vL fr a.toList)) λga=>cb.bc β (call ga.1 ga.2) (λv=>P0 p T cb false call os (a3E d fr v) k) noP:=by
 show M.obind (a2P T fr f a.toList) _=_;have:a2P T fr f a.toList=a9a (vO fr f) (vL fr a.toList):=by grind[a2P,b2N,a3m]
 rw[this];cases d<;>rfl
theorem c6O {b a ts}:P0 p T cb false call (⟨d,.call ⟨.builtin b,a,ts⟩,ty,pos,af,g⟩::os) fr k=cb.bv β (S5 p T fr b a ts) λv=>P0 p T cb false call os (a3E d fr v) k:=by cases d<;>rfl
theorem d2b {x}(h:okO T x=true):P0 p T cb false call (⟨d,.panic x,ty,pos,af,g⟩::os) fr k=M.guard (a3i (vO fr x)) M.fail:=by show M.obind (K4 T fr x) _=_;rw[a3m h];rfl
def a3N (g:Option (Nat×Bool)):List Oper->List Oper|[]=>[]|o::os=>match a2o g o.guard with|true=>o::a3N g os|false=>[]
def a5G (g:Option (Nat×Bool)):List Oper->List Oper|[]=>[]|o::os=>match a2o g o.guard with|true=>a5G g os|false=>o::os
theorem c6P {a b}(h:a2o a b=true):a=b:=by
 cases a with
  |none=>cases b with|none=>rfl|some b=>cases h
  |some a=>cases b with|none=>cases h|some b=>simp only[a2o,xM,beq_iff_eq]at h;rw[show a=b from Prod.ext (xS h.1) h.2]
theorem b2j:∀(os) (o),Y9 (o::os)=(o.guard,o::a3N o.guard os)::Y9 (a5G o.guard os):=by intro os;induction os with|nil=>intro o;rfl|cons o2 os ih=>intro o;have hs:Y9 (o::o2::os)=(match Y9 (o2::os)with|[]=>[(o.guard,[o])]|g::gs=>match a2o o.guard g.1 with|true=>(g.1,o::g.2)::gs|false=>(o.guard,[o])::g::gs):=rfl;rw[hs,ih o2];grind[a3N,a5G,c6P]
def b0k (p:Program)(T:Tab)(cb:Cb)(call:A8){β:Type}(g:Option (Nat×Bool))(os:List Oper)(fr:List Value)(k:Xc->List Value->M β):M β:=P0 p T cb false call (a3N g os) fr k
def a7m (p:Program)(T:Tab)(cb:Cb)(call:A8){β:Type}(ops:List Oper)(g:Option (Nat×Bool))(os:List Oper)(fr:List Value)(k:Xc->List Value->M β):M β:=a5F p T cb false call ops (Y9 (a5G g os)) fr k
theorem e1w {o}:P0 p T cb false call (o::os) fr k=P0 p T cb false call [o] fr λex fr'=>J1 ex (P0 p T cb false call os fr' k) (λ_=>M.fail) M.fail λ_=>M.fail:=by rfl
theorem c3i:b0k p T cb call g [] fr k=k .normal fr:=rfl
theorem b7K {o g'}(h:a2o g g'=true):b0k p T cb call g (⟨d,o,ty,pos,af,g'⟩::os) fr k=P0 p T cb false call [⟨d,o,ty,pos,af,g'⟩] fr λex fr'=>J1 ex (b0k p T cb call g os fr' k) (λ_=>M.fail) M.fail λ_=>M.fail:=by
 have e:a3N g (⟨d,o,ty,pos,af,g'⟩::os)=⟨d,o,ty,pos,af,g'⟩::a3N g os:=by rw[a3N];grind
 unfold b0k;rw[e];exact e1w
theorem b9c {o g'}(h:a2o g g'=false):b0k p T cb call g (⟨d,o,ty,pos,af,g'⟩::os) fr k=k .normal fr:=by
 have e:a3N g (⟨d,o,ty,pos,af,g'⟩::os)=[]:=by rw[a3N];grind
 unfold b0k;rw[e];rfl
theorem c3Q {ops}:a7m p T cb call ops g [] fr k=k .normal fr:=rfl
theorem b9C {ops o g'}(h:a2o g g'=true):a7m p T cb call ops g (⟨d,o,ty,pos,af,g'⟩::os) fr k=a7m p T cb call ops g os fr k:=by
 have e:a5G g (⟨d,o,ty,pos,af,g'⟩::os)=a5G g os:=by rw[a5G];grind
 grind[a7m]
theorem b9X {ops o}(h:a2o g none=false):a7m p T cb call ops g (⟨d,o,ty,pos,af,none⟩::os) fr k=b0k p T cb call none (⟨d,o,ty,pos,af,none⟩::os) fr λex fr'=>J1 ex (a7m p T cb call ops none os fr' k) (λ_=>M.fail) M.fail λv=>k (.pan v) fr':=by unfold a7m;rw[show a5G g (⟨d,o,ty,pos,af,none⟩::os)=⟨d,o,ty,pos,af,none⟩::os by rw[a5G];grind,b2j];rfl
theorem b8N {ops o}{j z t:Nat}{b D}(h:a2o g (some (j,b))=false)(hj:a2n ops j=some t)(hD:E1 (⟨d,o,ty,pos,af,some (j,b)⟩::a3N (some (j,b)) os)=D)(hm:a0D t D=false)(hz:j9 D=z):a7m p T cb call ops g (⟨d,o,ty,pos,af,some (j,b)⟩::os) fr k=cb.bj β (bcase (Y6 b (r6 fr t)) (b0k p T cb call (some (j,b)) (⟨d,o,ty,pos,af,some (j,b)⟩::os) fr λex fr'=>M.pure (ex,G3 fr' D)) (M.pure (.normal,O7 z))) λex vs=>J1 ex (a7m p T cb call ops (some (j,b)) os (C5 D vs fr) k) (λ_=>M.fail) M.fail noP:=by
 have hs:a3N (some (j,b)) (⟨d,o,ty,pos,af,some (j,b)⟩::os)=⟨d,o,ty,pos,af,some (j,b)⟩::a3N (some (j,b)) os:=by
  have:a2o (some (j,b)) (some (j,b))=true:=by simp[a2o]
  rw[a3N];simp_all
 unfold a7m b0k;rw[show a5G g (⟨d,o,ty,pos,af,some (j,b)⟩::os)=⟨d,o,ty,pos,af,some (j,b)⟩::os by rw[a5G];grind,b2j,hs];show M.obind (a2n ops j) _=_;rw[hj];show M.guard (!(a0D t (E1 (⟨d,o,ty,pos,af,some (j,b)⟩::a3N (some (j,b)) os)))) _=_;rw[hD,hm,<-hz];rfl
def b0n (ops:List Oper):Bool:=A9 (λo=>o.guard.isNone) ops
theorem b8L:∀(ops),b0n ops=true->Y9 ops=[]/\ops=[]\/Y9 ops=[(none,ops)]:=by
 intro ops;induction ops with
  |nil=>intro _;exact Or.inl ⟨rfl,rfl⟩|cons o os ih=>
   intro h;unfold b0n at h;rw[I7,xM]at h;have hg:o.guard=none:=by simpa using h.1
   have hs:Y9 (o::os)=(match Y9 os with|[]=>[(o.guard,[o])]|g::gs=>match a2o o.guard g.1 with|true=>(g.1,o::g.2)::gs|false=>(o.guard,[o])::g::gs):=rfl;right;rcases ih h.2 with⟨q,rfl⟩|q;rw[hs,hg];rfl;rw[hs,q,hg];rfl
theorem d3N {ops:Array Oper}(h:b0n ops.toList=true):b4Z p T cb false call ops.toList false fr k=P0 p T cb false call ops.toList fr k:=by show a5F p T cb false call ops.toList (Y9 ops.toList) fr k=_;rcases b8L _ h with⟨q,e⟩|q;rw[q,e];rfl;rw[q];show P0 p T cb false call ops.toList fr (λex fr'=>J1 ex (k .normal fr') (λ_=>M.fail) M.fail λv=>k (.pan v) fr')=_;generalize ops.toList=l;induction l generalizing fr with|nil=>rfl|cons o os ih=>obtain⟨d,o,ty,pos,af,g⟩:=o;show a1T p T cb call fr o (λv=>P0 p T cb false call os (G2 fr _ v) _) _=a1T p T cb call fr o (λv=>P0 p T cb false call os (G2 fr _ v) _) _;congr 1;funext v;exact ih
variable {id:Nat}{ops:Array Oper}{pl pa pb:Pl}{a b:Code}{W E:List Nat}
theorem b9V:E0 p T cb false N call .skip pl β fr k=k .normal fr:=rfl
theorem b5p (h:b0n ops.toList=true):E0 p T cb false N call (.region id ops false) pl β fr k=P0 p T cb false call ops.toList fr k:=d3N h
theorem b2S:E0 p T cb false N call (.region id ops false) pl β fr k=a5F p T cb false call ops.toList (Y9 ops.toList) fr k:=rfl
theorem c2H {ops}:a5F p T cb false call ops (Y9 []) fr k=k .normal fr:=rfl
theorem b8p {ops o}:a5F p T cb false call ops (Y9 (⟨d,o,ty,pos,af,none⟩::os)) fr k=a7m p T cb call ops (some (0,true)) (⟨d,o,ty,pos,af,none⟩::os) fr k:=rfl
theorem b9E {ops o j b}:a5F p T cb false call ops (Y9 (⟨d,o,ty,pos,af,some (j,b)⟩::os)) fr k=a7m p T cb call ops none (⟨d,o,ty,pos,af,some (j,b)⟩::os) fr k:=rfl
def b3I (L:List (Nat×Nat))(F:List W9):Bool:=V5 L F
theorem B1 {α L F}{m:M α}(h:V5 L F=true):M.guard (b3I L F) m=m:=by unfold b3I;rw[h];rfl
theorem b8i {c ops F}{q:List Value->List W9->M β}:a1b p T c ops [] fr F q=q fr F:=rfl
theorem d3R {c ops F}{q:List Value->List W9->M β}{o}:a1b p T c ops (⟨d,o,ty,pos,af,none⟩::os) fr F q=M.bind (M.foot (M7 p T c fr o)) λx=>a1b p T c ops os (a3E d fr x.1) (m9 F [x.2]) q:=by cases d<;>rfl
theorem d3p {c ops F}{q:List Value->List W9->M β}{o}{j t:Nat}{b}(h:a2n ops j=some t):a1b p T c ops (⟨d,o,ty,pos,af,some (j,b)⟩::os) fr F q=M.bind (bcase (Y6 b (r6 fr t)) (M.foot (M7 p T c fr o)) (M.pure (undef,([],[])))) λx=>a1b p T c ops os (a3E d fr x.1) (m9 F [x.2]) q:=by
 have e:a9S p T c ops fr ⟨d,o,ty,pos,af,some (j,b)⟩=bcase (Y6 b (r6 fr t)) (M.foot (M7 p T c fr o)) (M.pure (undef,([],[]))):=by grind[a9S,Y2]
 have e0:∀o:Oper,a1b p T c ops (o::os) fr F q=M.bind (a9S p T c ops fr o) λx=>a1b p T c ops os (G2 fr o x.1) (m9 F [x.2]) q:=λ_=>rfl;rw[e0,e];cases d<;>rfl
theorem d3V {c x}(h:okO T x=true):M7 p T c fr (.move x)=M.pure (vO fr x):=by show M.lift (K4 T fr x)=_;rw[a3m h];rfl
theorem c6f {c x}(h:okO T x=true):M7 p T c fr (.assign x)=M.pure (vO fr x):=by show M.lift (K4 T fr x)=_;rw[a3m h];rfl
theorem c5W {c o}(h:b2I o=true):M7 p T c fr o=E4 p T fr o:=by cases o<;>first|rfl|cases h
theorem c4r {c b a ts}:M7 p T c fr (.call ⟨.builtin b,a,ts⟩)=S5 p T fr b a ts:=rfl
theorem d3m {c}{f:Nat}{a ts}(h:X0 T a.toList=true):M7 p T c fr (.call ⟨.value (.func f),a,ts⟩)=c f (vL fr a.toList):=by show a2Y T fr (.func f) a.toList c=_;unfold a2Y;rw[P7 rfl,a2k h];show c f (m9 [] (m9 (vL fr a.toList) []))=_;rw[a2w,v8,xJ]
theorem c8i {c}{f:Nat}{a ts}(h:X0 T a.toList=true):M7 p T c fr (.call ⟨.value (.tmp f),a,ts⟩)=c1A (r6 fr f) (vL fr a.toList) c:=by show a2Y T fr (.tmp f) a.toList c=_;unfold a2Y;rw[P7 rfl,a2k h];rfl
theorem c0T {c ops}{q q':List Value->List W9->M β}:∀(os) (fr) (F),(∀fr G,j9 G=j9 F+j9 os->q fr G=q' fr G)->a1b p T c ops os fr F q=a1b p T c ops os fr F q':=by intro os;induction os with|nil=>intro fr F h;exact h fr F (by rfl)|cons o os ih=>intro fr F h;have e0:∀q:List Value->List W9->M β,a1b p T c ops (o::os) fr F q=M.bind (a9S p T c ops fr o) λx=>a1b p T c ops os (G2 fr o x.1) (m9 F [x.2]) q:=λ_=>rfl;rw[e0,e0];grind[y9,v8]
theorem b8y {n U D L}(hL:b3l ops.toList ops.toList [] [] 0=some L)(hn:j9 fr=n)(hU:a0R (a2q ops.toList ops.toList)=U)(hD:E1 ops.toList=D):E0 p T cb false N call (.region id ops true) pl β fr k=cb.bj β (a1b p T (Y3 call) ops.toList ops.toList (C5 U (G3 fr U) (O7 n)) [] λfr' F=>M.guard (b3I L F) (M.pure (.normal,G3 fr' D))) λ_ vs=>k .normal (C5 D vs fr):=by rw[<-hn,<-hU,<-hD];show cb.bj β (b3S p T call ops.toList _ _ _ _) _=_;rw[c8d];congr 1;refine c0T _ _ _ λfr G hG=>?_;rw[d3o hL (by rw[hG];simp[y9])];rfl
def b5b (p:Program)(T:Tab)(cb:Cb)(N:Nat)(call:A8){β:Type}(b:Code)(pb:Pl)(k:Xc->List Value->M β):Xc->List Value->M β:=λex fr'=>J1 ex (E0 p T cb false N call b pb β fr' k) (λid=>k (.exit id) fr') (k .ret fr') (λv=>k (.pan v) fr')
theorem b9A:E0 p T cb false N call (.seq a b) .d β fr k=E0 p T cb false N call a .d β fr (b5b p T cb N call b .d k):=rfl
theorem b9B:E0 p T cb false N call (.seq a b) (.s none pa pb) β fr k=E0 p T cb false N call a pa β fr (b5b p T cb N call b pb k):=rfl
theorem c0t:E0 p T cb false N call (.seq a b) (.l W pa) β fr k=E0 p T cb false N call a pa β fr (b5b p T cb N call b .d k):=rfl
theorem k_n:b5b p T cb N call b pb k .normal fr=E0 p T cb false N call b pb β fr k:=rfl
theorem k_e {i}:b5b p T cb N call b pb k (.exit i) fr=k (.exit i) fr:=rfl
theorem k_r:b5b p T cb N call b pb k .ret fr=k .ret fr:=rfl
theorem c1r {r}(hs:a7Y (R8 a) W=true)(hE:a0R (a0t a)=E)(hr:hasRet a=r):E0 p T cb false N call (.seq a b) (.s (some W) pa pb) β fr k=cb.bj β (E0 p T cb false N call a pa (Xc×List Value) fr λex fr'=>M.pure (ex,G3 fr' W)) λex vs=>J1 ex (E0 p T cb false N call b pb β (C5 W vs fr) k) (λid=>a1X E id λx=>k x (C5 W vs fr)) (bcase r (k .ret (C5 W vs fr)) M.fail) noP:=by rw[<-hE,<-hr];show M.guard (a7Y (R8 a) W) _=_;rw[hs];rfl
theorem b5o (hs:a7Y (R8 a) W=true)(hE:a0R (a0t a)=E)(hr:hasRet a=true):E0 p T cb false N call (.seq a b) (.s (some W) pa pb) β fr k=cb.bj β (E0 p T cb false N call a pa (Xc×List Value) fr λex fr'=>M.pure (ex,G3 fr' W)) λex vs=>J1 ex (E0 p T cb false N call b pb β (C5 W vs fr) k) (λid=>a1X E id λx=>k x (C5 W vs fr)) (k .ret (C5 W vs fr)) noP:=c1r hs hE hr
theorem b5f (hs:a7Y (R8 a) W=true)(hE:a0R (a0t a)=E)(hr:hasRet a=false):E0 p T cb false N call (.seq a b) (.s (some W) pa pb) β fr k=cb.bj β (E0 p T cb false N call a pa (Xc×List Value) fr λex fr'=>M.pure (ex,G3 fr' W)) λex vs=>J1 ex (E0 p T cb false N call b pb β (C5 W vs fr) k) (λid=>a1X E id λx=>k x (C5 W vs fr)) M.fail noP:=c1r hs hE hr
def b2w {β:Type}(id:Nat)(k:Xc->List Value->M β):Xc->List Value->M β:=λex fr'=>k (a4e id ex) fr'
theorem b2D:E0 p T cb false N call (.block id b) .d β fr k=E0 p T cb false N call b .d β fr (b2w id k):=rfl
theorem b2x {j}:E0 p T cb false N call (.block id b) (.s j pa pb) β fr k=E0 p T cb false N call b pa β fr (b2w id k):=rfl
theorem b2Y:E0 p T cb false N call (.block id b) (.l W pa) β fr k=E0 p T cb false N call b pa β fr (b2w id k):=rfl
theorem c8V:b2w id k .normal fr=k .normal fr:=rfl
theorem c9l:b2w id k .ret fr=k .ret fr:=rfl
theorem c9e {i:Nat}(h:Nat.beq i id=true):b2w id k (.exit i) fr=k .normal fr:=xd
theorem c9h {i:Nat}(h:Nat.beq i id=false):b2w id k (.exit i) fr=k (.exit i) fr:=xd
theorem c2l {r}(hs:a7Y (R8 b) W=true)(hE:a0R (a0t b)=E)(hr:hasRet b=r):E0 p T cb false N call (.loop b) (.l W pa) β fr k=cb.bj β (cb.lp (λxs=>E0 p T cb false N call b pa (Xc×List Value) (C5 W xs fr) λex fr'=>M.pure (ex,G3 fr' W)) N (G3 fr W)) λex vs=>J1 ex M.fail (λid=>a1X E id λx=>k x (C5 W vs fr)) (bcase r (k .ret (C5 W vs fr)) M.fail) noP:=by rw[<-hE,<-hr];show M.guard (a7Y (R8 b) W) _=_;rw[hs];rfl
theorem b4H (hs:a7Y (R8 b) W=true)(hE:a0R (a0t b)=E)(hr:hasRet b=true):E0 p T cb false N call (.loop b) (.l W pa) β fr k=cb.bj β (cb.lp (λxs=>E0 p T cb false N call b pa (Xc×List Value) (C5 W xs fr) λex fr'=>M.pure (ex,G3 fr' W)) N (G3 fr W)) λex vs=>J1 ex M.fail (λid=>a1X E id λx=>k x (C5 W vs fr)) (k .ret (C5 W vs fr)) noP:=c2l hs hE hr
theorem b4J (hs:a7Y (R8 b) W=true)(hE:a0R (a0t b)=E)(hr:hasRet b=false):E0 p T cb false N call (.loop b) (.l W pa) β fr k=cb.bj β (cb.lp (λxs=>E0 p T cb false N call b pa (Xc×List Value) (C5 W xs fr) λex fr'=>M.pure (ex,G3 fr' W)) N (G3 fr W)) λex vs=>J1 ex M.fail (λid=>a1X E id λx=>k x (C5 W vs fr)) M.fail noP:=c2l hs hE hr
theorem b8E:E0 p T cb false N call (.exit id) pl β fr k=k (.exit id) fr:=rfl
theorem c3I:E0 p T cb false N call .ret pl β fr k=k .ret fr:=rfl
theorem b9w {i}{k:Xc->M β}:a1X [] i k=M.fail:=rfl
theorem b4A {i e}{k:Xc->M β}:a1X (e::E) i k=bcase (Nat.beq i e) (k (.exit e)) (a1X E i k):=rfl
def a4t:Code->Pl->List (Code×List Nat×Pl)|.seq a b,pl=>a4t a pl.a++a4t b pl.b|.cond _ a b,pl=>a4t a pl.a++a4t b pl.b|.block _ b,pl=>a4t b pl.a|.loop b,pl=>(b,pl.w,pl.a)::a4t b pl.a|_,_=>[]
def lq (p:Program)(T:Tab)(cb:Cb)(N:Nat)(call:A8)(f:Func)(pl:Pl)(i:Nat)(S:List Nat)(vs xs:List Value):M (Xc×List Value):=match O6 (a4t (a8j f) pl) i with|some x=>E0 p T cb false N call x.1 x.2.2 (Xc×List Value) (C5 x.2.1 xs (C5 S vs (O7 f.ntmps))) λex fr'=>M.pure (ex,G3 fr' x.2.1)|none=>M.fail
theorem d5s {f:Func}{i n:Nat}{S:List Nat}{vs xs:List Value}(h:O6 (a4t (a8j f) pl) i=some (b,W,pa))(hn:f.ntmps=n:=by with_unfolding_all (conv=>lhs;reduce)):lq p T cb N call f pl i S vs xs=E0 p T cb false N call b pa (Xc×List Value) (C5 W xs (C5 S vs (O7 n))) λex fr'=>M.pure (ex,G3 fr' W):=by grind[lq]
theorem c4C {j}:Pl.a (.s j pa pb)=pa:=rfl
theorem c3l:Pl.a (.l W pa)=pa:=rfl
theorem c9B {j}:Pl.b (.s j pa pb)=pb:=rfl
theorem c9Y:Pl.w (.l W pa)=W:=rfl
variable {fn:Func}{rs:List ResultVar}
def b8g (cb:Cb)(T:Tab)(rs:List ResultVar)(ex:Xc)(fr:List Value):M CR:=J1 ex (a1L T cb fr rs λvs=>M.pure (.ret (a5K vs))) (λ_=>M.fail) (a1L T cb fr rs λvs=>M.pure (.ret (a5K vs))) λv=>M.pure (.pan v)
theorem d3I {c:Code}{n:Nat}{args:List Value}(hc:fn.body=some c:=by rfl)(hr:fn.results.toList=rs:=by with_unfolding_all (conv=>lhs;reduce))(hn:fn.ntmps-j9 args=n:=by with_unfolding_all (conv=>lhs;reduce)):a1m p T cb false N call fn (a8j fn) pl args=E0 p T cb false N call c pl CR (m9 args (O7 n)) (b8g cb T rs):=by
 rw[<-hr,<-hn];have:a8j fn=c:=by grind[a8j]
 rw[this];rfl
theorem f_n:b8g cb T rs .normal fr=a1L T cb fr rs λvs=>M.pure (.ret (a5K vs)):=rfl
theorem f_r:b8g cb T rs .ret fr=a1L T cb fr rs λvs=>M.pure (.ret (a5K vs)):=rfl
theorem f_e {i}:b8g cb T rs (.exit i) fr=M.fail:=rfl
theorem b4s {k:List Value->M β}:a1L T cb fr [] k=k []:=rfl
theorem b4x {t:Nat}{k:List Value->M β}:a1L T cb fr (.tmp t::rs) k=a1L T cb fr rs λvs=>k (r6 fr t::vs):=rfl
theorem c7y {x t:Nat}{k}(h:a6G T t=some none):a1L T cb fr (.cell x t::rs) k=R5 (r6 fr x) λad=>cb.bv β (M.bind (loadN ad 1) λq=>M.pure (r6 q 0)) λv=>a1L T cb fr rs λvs=>k (v::vs):=by show R5 (r6 fr x) (λad=>cb.bv β (a2F T t ad) _)=_;congr 1;funext ad;congr 1;grind[a6G,a2F,R3]
theorem c5M {x t n:Nat}{k}(h:a6G T t=some (some n)):a1L T cb fr (.cell x t::rs) k=R5 (r6 fr x) λad=>cb.bv β (M.bind (loadN ad n) λq=>M.pure (.agg ⟨q⟩)) λv=>a1L T cb fr rs λvs=>k (v::vs):=by show R5 (r6 fr x) (λad=>cb.bv β (a2F T t ad) _)=_;congr 1;funext ad;congr 1;unfold a6G at h;cases e:T.types.get t with|none=>rw[e]at h;cases h|some i=>rw[e]at h;simp only at h;split at h;rename_i q;split at h;cases h;rename_i q2;cases h;unfold a2F;rw[R3 e,q,q2];rfl;cases h
structure Sm {α:Type} (a b:α):Prop where
 e:a=b
inductive Nf (cb:Cb):(β:Type)→M β→M β→Prop
 | bv {β:Type} {m:M Value} {k k':Value→M β}:(∀ v,Nf cb β (k v) (k' v))→Nf cb β (cb.bv β m k) (cb.bv β m k')
 | bj {β:Type} {m m':M R2} {k k':Xc→List Value→M β}:Nf cb R2 m m'→(∀ x l,Nf cb β (k x l) (k' x l))→Nf cb β (cb.bj β m k) (cb.bj β m' k')
 | lp {f f':List Value→M R2} {n:Nat} {x x':List Value}:Sm x x'→(∀ l,Nf cb R2 (f l) (f' l))→Nf cb R2 (cb.lp f n x) (cb.lp f' n x')
 | xc {β:Type} {x:Xc} {a a' c c':M β} {b b':Nat→M β} {d:Value→M β}:Nf cb β a a'→(∀ i,Nf cb β (b i) (b' i))→Nf cb β c c'→Nf cb β (J1 x a b c d) (J1 x a' b' c' d)
 | bs {β:Type} {b b':Bool} {x x' y y':M β}:Sm b b'→Nf cb β x x'→Nf cb β y y'→Nf cb β (bcase b x y) (bcase b' x' y')
 | gd {β:Type} {b:Bool} {m m':M β}:Nf cb β m m'→Nf cb β (M.guard b m) (M.guard b m')
 | pu {β:Type} {a a':β}:Sm a a'→Nf cb β (M.pure a) (M.pure a')
 | rf {β:Type} {a:M β}:Nf cb β a a
 | of {β:Type} {a b y:M β}:a=b→Nf cb β b y→Nf cb β a y
 | fu {β γ:Type} {a:M β} {m:M γ} {f f':γ→M β}:a=M.bind m f→(∀ y,Nf cb β (f y) (f' y))→Nf cb β a (M.bind m f')
 | fc {β:Type} {a:M β} {m:M CR} {f f' q:Value→M β}:a=cb.bc β m f q→(∀ y,Nf cb β (f y) (f' y))→Nf cb β a (cb.bc β m f' q)
 | fv {β:Type} {a:M β} {m:M Value} {f f':Value→M β}:a=cb.bv β m f→(∀ y,Nf cb β (f y) (f' y))→Nf cb β a (cb.bv β m f')
 | fm {β:Type} {a x y x' y':M β} {v:Value}:a=a2E v x y→Nf cb β x x'→Nf cb β y y'→Nf cb β a (a2E v x' y')
 | fp {β:Type} {a:M β} {v:Value} {f f':Addr→M β}:a=R5 v f→(∀ y,Nf cb β (f y) (f' y))→Nf cb β a (R5 v f')
 | fo {β γ:Type} {a:M β} {o:Option γ} {f f':γ→M β}:a=M.obind o f→(∀ y,Nf cb β (f y) (f' y))→Nf cb β a (M.obind o f')
theorem Nf.eq {a b}(h:Nf cb β a b):a=b:=by induction h with|bv _ ih=>rw[funext ih]|bj _ _ h ih=>rw[h,funext λx=>funext (ih x)]|lp h _ ih=>rw[funext ih,h.e]|xc _ _ _ h h1 h2=>rw[h,funext h1,h2]|bs hb _ _ h h'=>rw[hb.e,h,h']|gd _ h=>rw[h]|pu h=>rw[h.e]|rf=>rfl|of e _ h=>rw[e,h]|fu e _ h=>rw[e,funext h]|fc e _ h=>rw[e,funext h]|fv e _ h=>rw[e,funext h]|fm e _ _ h h'=>rw[e,h,h']|fp e _ h=>rw[e,funext h]|fo e _ h=>rw[e,funext h]
section
variable {y:M β}{m:M Value}{fr':List Value}{F:Value->List Value}{k':Value->M β}{vs:List Value}{v:Value}
theorem Nf.lf0 {f f' q:List Value->M R2}{n x x'}(h:∀l,f' l=q l)(hx:Sm x x')(hk:∀l,Nf cb R2 (f l) (q l)):Nf cb R2 (cb.lp f n x) (cb.lp f' n x'):=by rw[hx.e,funext h];exact .lp ⟨rfl⟩ hk
theorem Nf.lf1 {A:Type}{a}{f:List Value->M R2}{f' q:A->List Value->M R2}{n x x'}(h:∀a l,f' a l=q a l)(hx:Sm x x')(hk:∀l,Nf cb R2 (f l) (q a l)):Nf cb R2 (cb.lp f n x) (cb.lp (f' a) n x'):=.lf0 (h a) hx hk
theorem Nf.lf2 {A B:Type}{a b}{f:List Value->M R2}{f' q:A->B->List Value->M R2}{n x x'}(h:∀a b l,f' a b l=q a b l)(hx:Sm x x')(hk:∀l,Nf cb R2 (f l) (q a b l)):Nf cb R2 (cb.lp f n x) (cb.lp (f' a b) n x'):=.lf0 (h a b) hx hk
theorem Nf.lf3 {A B C:Type}{a b c}{f:List Value->M R2}{f' q:A->B->C->List Value->M R2}{n x x'}(h:∀a b c l,f' a b c l=q a b c l)(hx:Sm x x')(hk:∀l,Nf cb R2 (f l) (q a b c l)):Nf cb R2 (cb.lp f n x) (cb.lp (f' a b c) n x'):=.lf0 (h a b c) hx hk
theorem b2H {o}(h:b2I o=true)(hm:Sm (E4 p T fr o) m)(hf:∀v,Sm (a3E d fr v) (F v))(hk:∀v,Nf cb β (P0 p T cb false call os (F v) k) (k' v)):Nf cb β (P0 p T cb false call (⟨d,o,ty,pos,af,g⟩::os) fr k) (cb.bv β m k'):=.fv ((d0h h).trans (by rw[hm.e])) λv=>xy
theorem b1s {b a ts}(hm:Sm (S5 p T fr b a ts) m)(hf:∀v,Sm (a3E d fr v) (F v))(hk:∀v,Nf cb β (P0 p T cb false call os (F v) k) (k' v)):Nf cb β (P0 p T cb false call (⟨d,.call ⟨.builtin b,a,ts⟩,ty,pos,af,g⟩::os) fr k) (cb.bv β m k'):=.fv (c6O.trans (by rw[hm.e])) λv=>xy
theorem b8q {f:Nat}{a ts}(h:X0 T a.toList=true)(hv:Sm (vL fr a.toList) vs)(hf:∀v,Sm (a3E d fr v) (F v))(hk:∀v,Nf cb β (P0 p T cb false call os (F v) k) (k' v)):Nf cb β (P0 p T cb false call (⟨d,.call ⟨.value (.func f),a,ts⟩,ty,pos,af,g⟩::os) fr k) (cb.bc β (call f vs) k' noP):=.fc ((d6H h).trans (by rw[hv.e])) λv=>xy
theorem b4B {t a ts}(h:X0 T a.toList=true)(hw:Sm (r6 fr t) v)(hv:Sm (vL fr a.toList) vs)(hf:∀v,Sm (a3E d fr v) (F v))(hk:∀v,Nf cb β (P0 p T cb false call os (F v) k) (k' v)):Nf cb β (P0 p T cb false call (⟨d,.call ⟨.value (.tmp t),a,ts⟩,ty,pos,af,g⟩::os) fr k) (M.obind (a9a v vs) λga=>cb.bc β (call ga.1 ga.2) k' noP):=.fo ((d3b (f:=.tmp t) rfl h).trans (by rw[<-hw.e,<-hv.e];rfl)) λga=>.fc rfl λv=>xy
theorem c0k {x}(h:okO T x=true)(hv:Sm (a3E d fr (vO fr x)) fr')(hk:Nf cb β (P0 p T cb false call os fr' k) y):Nf cb β (P0 p T cb false call (⟨d,.move x,ty,pos,af,g⟩::os) fr k) y:=.of ((d4u h).trans (by rw[hv.e])) hk
theorem b2X {x}(h:okO T x=true)(hv:Sm (a3E d fr (vO fr x)) fr')(hk:Nf cb β (P0 p T cb false call os fr' k) y):Nf cb β (P0 p T cb false call (⟨d,.assign x,ty,pos,af,g⟩::os) fr k) y:=.of ((d0d h).trans (by rw[hv.e])) hk
theorem b5c {x}(h:okO T x=true)(hv:Sm (vO fr x) v):Nf cb β (P0 p T cb false call (⟨d,.panic x,ty,pos,af,g⟩::os) fr k) (M.guard (a3i v) M.fail):=.of ((d2b h).trans (by rw[hv.e])) .rf
theorem b9H {x x' y'}(h:okO T x=true)(hv:Sm (vO fr x) v)(h1:Nf cb β (E0 p T cb false N call a pl.a β fr k) x')(h2:Nf cb β (E0 p T cb false N call b pl.b β fr k) y'):Nf cb β (E0 p T cb false N call (.cond x a b) pl β fr k) (a2E v x' y'):=.fm (by show M.obind (K4 T fr x) _=_;rw[a3m h,hv.e];rfl) h1 h2
theorem b4t {x x' y'}(h:okO T x=true)(hv:Sm (vO fr x) v)(h1:Nf cb β (E0 p T cb false N call a .d β fr k) x')(h2:Nf cb β (E0 p T cb false N call b .d β fr k) y'):Nf cb β (E0 p T cb false N call (.cond x a b) .d β fr k) (a2E v x' y'):=b9H (pl:=.d) h hv h1 h2
theorem b4T {x j x' y'}(h:okO T x=true)(hv:Sm (vO fr x) v)(h1:Nf cb β (E0 p T cb false N call a pa β fr k) x')(h2:Nf cb β (E0 p T cb false N call b pb β fr k) y'):Nf cb β (E0 p T cb false N call (.cond x a b) (.s j pa pb) β fr k) (a2E v x' y'):=b9H (pl:=.s j pa pb) h hv h1 h2
theorem b5g {x x' y'}(h:okO T x=true)(hv:Sm (vO fr x) v)(h1:Nf cb β (E0 p T cb false N call a pa β fr k) x')(h2:Nf cb β (E0 p T cb false N call b .d β fr k) y'):Nf cb β (E0 p T cb false N call (.cond x a b) (.l W pa) β fr k) (a2E v x' y'):=b9H (pl:=.l W pa) h hv h1 h2
theorem b5k {x t:Nat}{k}{k':Addr->Value->M β}(h:a6G T t=some none)(hv:Sm (r6 fr x) v)(hk:∀a w,Nf cb β (a1L T cb fr rs λvs=>k (w::vs)) (k' a w)):Nf cb β (a1L T cb fr (.cell x t::rs) k) (R5 v λa=>cb.bv β (M.bind (loadN a 1) λq=>M.pure (r6 q 0)) λw=>k' a w):=.fp ((c7y h).trans (by rw[hv.e])) λa=>.bv (hk a)
theorem b4L {x t n:Nat}{k}{k':Addr->Value->M β}(h:a6G T t=some (some n))(hv:Sm (r6 fr x) v)(hk:∀a w,Nf cb β (a1L T cb fr rs λvs=>k (w::vs)) (k' a w)):Nf cb β (a1L T cb fr (.cell x t::rs) k) (R5 v λa=>cb.bv β (M.bind (loadN a n) λq=>M.pure (.agg ⟨q⟩)) λw=>k' a w):=.fp ((c5M h).trans (by rw[hv.e])) λa=>.bv (hk a)
variable {c:Nat->List Value->M Value}{ops:List Oper}{G:List W9}{q:List Value->List W9->M β}{o:Op}{H:Value×W9->List Value}{A:Value×W9->List W9}{f':Value×W9->M β}
theorem c3o (hm:Sm (M7 p T c fr o) m)(hf:∀x,Sm (a3E d fr x.1) (H x))(hA:∀x,Sm (m9 G [x.2]) (A x))(hk:∀x,Nf cb β (a1b p T c ops os (H x) (A x) q) (f' x)):Nf cb β (a1b p T c ops (⟨d,o,ty,pos,af,none⟩::os) fr G q) (M.bind (M.foot m) f'):=.fu (d3R.trans (by rw[hm.e])) λx=>by rw[(hf _).e,(hA _).e];exact hk x
theorem c2t {j t:Nat}{b}(h:a2n ops j=some t)(hv:Sm (r6 fr t) v)(hm:Sm (M7 p T c fr o) m)(hf:∀x,Sm (a3E d fr x.1) (H x))(hA:∀x,Sm (m9 G [x.2]) (A x))(hk:∀x,Nf cb β (a1b p T c ops os (H x) (A x) q) (f' x)):Nf cb β (a1b p T c ops (⟨d,o,ty,pos,af,some (j,b)⟩::os) fr G q) (M.bind (bcase (Y6 b v) (M.foot m) (M.pure (undef,([],[])))) f'):=.fu ((d3p h).trans (by rw[hm.e,hv.e])) λx=>by rw[(hf _).e,(hA _).e];exact hk x
end
end
end Go.V
end
section
noncomputable section
namespace Go.V
def go {α:Type}(m:M α)(s:S):Option (α×S):=m s
def H7 {α β:Type}(x:Option (α×S))(f:α->M β):Option (β×S):=match x with|none=>none|some y=>go (f y.1) y.2
theorem B4 {α β}(m)(f:α->M β)(s):go (M.bind m f) s=H7 (go m s) f:=xK rfl rfl
theorem B2 {α β}(a s)(f:α->M β):H7 (some (a,s)) f=go (f a) s:=xK rfl rfl
theorem b0m {α β}(f:α->M β):H7 none f=none:=xK rfl rfl
theorem m0 {α β x y}(f:α->M β)(h:x=y):H7 x f=H7 y f:=by rw[h]
theorem a8L {α β γ}(x:Option (α×S))(f)(g:β->M γ):H7 (H7 x f) g=H7 x λa=>M.bind (f a) g:=by cases x<;>rfl
theorem l9 {α b b'}(x y:α)(h:b=b'):bcase b x y=bcase b' x y:=by rw[h]
theorem N2 {α}(a:α)(s):go (M.pure a) s=some (a,s):=xK rfl rfl
theorem a7E {α}(s):go (M.fail:M α) s=none:=xK rfl rfl
theorem b4v {α}(a:α)(s):go (M.lift (some a)) s=some (a,s):=xK rfl rfl
theorem A4 {β}(v)(kn kp:Value->M β):W4 (.ret v) kn kp=kn v:=xK rfl rfl
theorem a0q {β}(b)(x y:M β)(s):go (bcase b x y) s=bcase b (go x s) (go y s):=zm
theorem a3C {β}(b)(a a':β)(c h r r' w w'):bcase b (some (a,(⟨c,h,r,w⟩:S))) (some (a',⟨c,h,r',w'⟩))=some (bcase b a a',⟨c,h,bcase b r r',bcase b w w'⟩):=zm
theorem O3 {α}(b)(x:α):bcase b x x=x:=zm
theorem a5s (k n):(Value.int k n).cells.toList=[.int k n]:=xK rfl rfl
theorem a4r (b):(Value.bool b).cells.toList=[.bool b]:=xK rfl rfl
theorem a1I (s):(Value.string s).cells.toList=[.string s]:=xK rfl rfl
theorem a2A (a n e):(Value.slice a n e).cells.toList=[.slice a n e]:=xK rfl rfl
theorem a1Z (a):(Value.pointer a).cells.toList=[.pointer a]:=xK rfl rfl
theorem a3f (f a b):(Value.func f a b).cells.toList=[.func f a b]:=xK rfl rfl
theorem a0w (l):(Value.agg ⟨l⟩).cells.toList=l:=xK rfl rfl
theorem a7G (k n):D5 (.int k n)=true:=xK rfl rfl
theorem a6s (b):D5 (.bool b)=true:=xK rfl rfl
theorem a3n (s):D5 (.string s)=true:=xK rfl rfl
theorem a5l (a n e):D5 (.slice a n e)=true:=xK rfl rfl
theorem a3v (a):D5 (.pointer a)=true:=xK rfl rfl
theorem a6o (f a b):D5 (.func f a b)=true:=xK rfl rfl
theorem a8r (k n):a5x (.int k (.ofNat n))=some n:=xK rfl rfl
theorem b3B (n):Nat.beq (n+1) 0=false:=xK rfl rfl
theorem b3k (n):Nat.beq 0 (n+1)=false:=xK rfl rfl
theorem b4b (n m):Nat.beq (n+1) (m+1)=Nat.beq n m:=xK rfl rfl
theorem b8Q (n m):Nat.ble (n+1) (m+1)=Nat.ble n m:=xK rfl rfl
theorem b8S (n):Nat.ble (n+1) 0=false:=xK rfl rfl
theorem L8 (a b:Nat)(h:a≠b):Nat.beq a b=false:=Q5 h
theorem a1E (a:Nat):Nat.ble a a=true:=ux (xR _)
def ldS {γ:Type}(lt:Bool)(ob:Option VObj)(o g n:Nat)(k:List Value->Option γ):Option γ:=match lt with
 |true=>match ob with
  |some (.cells cs _ _)=>match j8 g (z7 cs o) n with|some vs=>k vs|none=>none
  |_=>none
 |false=>none
def oS {α γ:Type}(x:Option α)(k:α->Option γ):Option γ:=match x with|some a=>k a|none=>none
theorem U8 {α γ}(a)(k:α->Option γ):oS (some a) k=k a:=xK rfl rfl
theorem q9 {α γ x y}(k:α->Option γ)(h:x=y):oS x k=oS y k:=by rw[h]
theorem O4 {γ}(cs cur ro o g n)(k:List Value->Option γ):ldS true (some (.cells cs cur ro)) o g n k=oS (j8 g (z7 cs o) n) k:=by grind[ldS,oS]
theorem n8 {γ lt lt' ob ob'}(o g n)(k:List Value->Option γ)(h1:lt=lt')(h2:ob=ob'):ldS lt ob o g n k=ldS lt' ob' o g n k:=by rw[h1,h2]
section
variable (c:Nat)(h:Trie VObj)(r w:List Nat)
theorem V8 (b o g n):go (loadN ⟨b,o,some g⟩ n) ⟨c,h,r,w⟩=ldS (Nat.blt b c) (h.get b) o g n λvs=>some (vs,⟨c,h,b::r,w⟩):=by unfold go loadN ldS;simp only[r9,V.M.bind,rd];cases Nat.blt b c with|false=>rfl|true=>cases h.get b with|none=>rfl|some ob=>cases ob with|cells cs cur ro=>simp only[a3p,M.lift];cases j8 g (z7 cs o) n<;>rfl|_=>rfl
theorem b5m {γ δ}(lt ob o g n k)(f:Option γ->Option δ)(hf:f none=none):f (ldS lt ob o g n k)=ldS lt ob o g n λvs=>f (k vs):=by unfold ldS;grind
theorem a1f (b o g):go (a6S (.pointer (some ⟨b,o,some g⟩))) ⟨c,h,r,w⟩=ldS (Nat.blt b c) (h.get b) o g 1 λvs=>some (r6 vs 0,⟨c,h,b::r,w⟩):=by unfold a6S;rw[a2j,B4,V8];exact b5m _ _ _ _ _ _ (λx=>H7 x λvs=>M.pure (r6 vs 0)) rfl
theorem a2W (n b o g):go (a7Q n (.pointer (some ⟨b,o,some g⟩))) ⟨c,h,r,w⟩=ldS (Nat.blt b c) (h.get b) o g n λvs=>some (.agg ⟨vs⟩,⟨c,h,b::r,w⟩):=by unfold a7Q;rw[a2j,B4,V8];exact b5m _ _ _ _ _ _ (λx=>H7 x λvs=>M.pure (Value.agg ⟨vs⟩)) rfl
def stS {γ:Type}(lt:Bool)(ob:Option VObj)(o g:Nat)(vs:List Value)(k:List (Value×Nat)->Nat->Bool->Option γ):Option γ:=match lt with
 |true=>match ob with
  |some (.cells cs cur ro)=>match Nat.beq g cur&& !ro&&A9 D5 vs&&Nat.ble (o+j9 vs) (j9 cs)with
   |true=>match Z7 g vs cs o with|some cs'=>k cs' cur ro|none=>none
   |false=>none
  |_=>none
 |false=>none
theorem a2V {γ}(cs)(cur:Nat)(ro)(o g:Nat)(vs)(k:List (Value×Nat)->Nat->Bool->Option γ)(e:(Nat.beq g cur&& !ro&&A9 D5 vs&&Nat.ble (o+j9 vs) (j9 cs))=true):stS true (some (.cells cs cur ro)) o g vs k=oS (Z7 g vs cs o) λcs'=>k cs' cur ro:=by grind[stS,oS]
theorem n9 {γ lt lt' ob ob'}(o g vs)(k:List (Value×Nat)->Nat->Bool->Option γ)(h1:lt=lt')(h2:ob=ob'):stS lt ob o g vs k=stS lt' ob' o g vs k:=by rw[h1,h2]
theorem c5H (b o g vs):go (storeN ⟨b,o,some g⟩ vs) ⟨c,h,r,w⟩=stS (Nat.blt b c) (h.get b) o g vs λcs' cur ro=>some ((),⟨c,O2 h b (.cells cs' cur ro),b::r,b::w⟩):=by
 unfold storeN stS;simp only[r9];rw[B4];show H7 (rd b ⟨c,h,r,w⟩) _=_;rw[b1u];cases hb:Nat.blt b c with
  |false=>rfl|true=>
   cases ho:h.get b with
    |none=>rfl|some ob=>
     cases ob with
      |cells cs cur ro=>simp only[B2,a3p];cases Nat.beq g cur&& !ro&&A9 D5 vs&&Nat.ble (o+j9 vs) (j9 cs)with|false=>rfl|true=>simp only[F6];cases Z7 g vs cs o with|none=>rfl|some cs'=>simp only[r9,M4];show wr b _ _=_;rw[b1r,hb,ho]
      |_=>rfl
theorem a3U (n b o g:Nat)(v)(e2:(!(Nat.beq n 0)&&Nat.beq (j9 v.cells.toList) n)=true):go (b4f n (.pointer (some ⟨b,o,some g⟩)) v) ⟨c,h,r,w⟩=stS (Nat.blt b c) (h.get b) o g v.cells.toList λcs' cur ro=>some (undef,⟨c,O2 h b (.cells cs' cur ro),b::r,b::w⟩):=by
 unfold b4f;rw[a2j,B4,e2,F6,c5H];generalize v.cells.toList=l;unfold stS;cases Nat.blt b c with
  |false=>rfl|true=>
   cases h.get b with
    |none=>rfl|some ob=>
     cases ob with
      |cells cs cur ro=>simp only;cases Nat.beq g cur&& !ro&&A9 D5 l&&Nat.ble (o+j9 l) (j9 cs)with|false=>rfl|true=>simp only;cases Z7 g l cs o<;>rfl
      |_=>rfl
theorem Y4 (vs)(e:A9 D5 vs=true):go (M5 vs) ⟨c,h,r,w⟩=some (⟨c,0,some 0⟩,⟨c+1,O2 h c (.cells (G4 (λv=>(v,0)) vs) 0 false),r,c::w⟩):=by unfold M5;rw[e,F6,M4,B4];show H7 (new _ _) _=_;rw[c1U];rfl
theorem a8g (zs)(e:A9 D5 zs=true):go (c9H zs) ⟨c,h,r,w⟩=some (.pointer (some ⟨c,0,some 0⟩),⟨c+1,O2 h c (.cells (G4 (λv=>(v,0)) zs) 0 false),r,c::w⟩):=by unfold c9H;rw[B4,Y4 c h r w zs e];rfl
theorem d7i (v l)(hv:v.cells.toList=l)(e:(A9 D5 l&& !(a0l l))=true):go (a9M v) ⟨c,h,r,w⟩=some (.pointer (some ⟨c,0,some 0⟩),⟨c+1,O2 h c (.cells (G4 (λv=>(v,0)) l) 0 false),r,c::w⟩):=by rw[xM]at e;unfold a9M;rw[hv,e.2,F6,B4,Y4 c h r w l e.1];rfl
theorem a1t (l)(e:(A9 D5 l&& !(a0l l))=true):go (a9M (.agg ⟨l⟩)) ⟨c,h,r,w⟩=some (.pointer (some ⟨c,0,some 0⟩),⟨c+1,O2 h c (.cells (G4 (λv=>(v,0)) l) 0 false),r,c::w⟩):=d7i c h r w _ l rfl e
theorem a4n (n len os vs zs):go (a7O n len os vs zs) ⟨c,h,r,w⟩=oS (a3a os vs zs) λcs=>bcase (A9 D5 cs) (some (.slice (some ⟨c,0,some 0⟩) len n,⟨c+1,O2 h c (.cells (G4 (λv=>(v,0)) cs) 0 false),r,c::w⟩)) none:=by unfold a7O;cases a3a os vs zs with|none=>rfl|some cs=>rw[r9,B4,U8];cases e:A9 D5 cs with|true=>rw[Y4 c h r w cs e];rfl|false=>show Go.V.H7 (M5 cs ⟨c,h,r,w⟩) _=none;unfold M5;rw[e];rfl
end
theorem a2m (os vs zs):c7p os vs zs=M.obind (a3a os vs zs) λcs=>M.pure (.agg ⟨cs⟩):=xK rfl rfl
theorem a6O (vs zs):a3a [] vs zs=some zs:=by cases vs<;>rfl
theorem a7C (q os v vs zs)(e:(Nat.beq (j9 v.cells.toList) q.2&&Nat.ble (q.1+q.2) (j9 zs))=true):a3a (q::os) (v::vs) zs=a3a os vs (a1a v.cells.toList zs q.1):=by show(match Nat.beq (j9 v.cells.toList) q.2&&Nat.ble (q.1+q.2) (j9 zs)with|true=>a3a os vs (a1a v.cells.toList zs q.1)|false=>none)=_;rw[e]
theorem a9A (vs c cs):a1a vs (c::cs) 0=a3X vs (c::cs):=xK rfl rfl
theorem b2C (vs c cs n):a1a vs (c::cs) (n+1)=c::a1a vs cs n:=xK rfl rfl
theorem a5Q (cs):a3X [] cs=cs:=xK rfl rfl
theorem a4U (v vs c cs):a3X (v::vs) (c::cs)=v::a3X vs cs:=xK rfl rfl
theorem a3z (off b o g):xFA off (.pointer (some ⟨b,o,g⟩))=M.pure (.pointer (some ⟨b,o+off,g⟩)):=xK rfl rfl
theorem b2u (a):d7I (.pointer (some a))=M.pure (.pointer (some a)):=xK rfl rfl
theorem I5 (a n e):b7e (.slice a n e)=M.pure (.int .i64 (.ofNat n)):=xK rfl rfl
theorem c0b (l off n):xFN off n (.agg ⟨l⟩)=M.pure (.agg ⟨Q2 (z7 l off) n⟩):=xK rfl rfl
theorem a9w (fn va vb):d0D fn va vb=M.pure (.func fn ⟨va⟩ ⟨vb⟩):=xK rfl rfl
theorem S8 (k k' n):b8C k (.int k' n)=M.pure (.int k (G8 k n)):=xK rfl rfl
theorem a0d (n i len k b o g)(e:i<len)(e2:n≠0):a6i n (.slice (some ⟨b,o,g⟩) len n) (.int k (.ofNat i))=M.pure (.pointer (some ⟨b,o+i*n,g⟩)):=by unfold a6i elemAtN;simp only[a8r,r9,I4,F6,A5 e,Q5 e2];rfl
theorem c5b (x y)(e:j9 x+j9 y<a2J):b1K .add x y=some (.string ⟨⟨m9 x y⟩⟩):=by show(match Nat.blt (j9 x+j9 y) a2J with|true=>fList (m9 x y) λl=>some (Value.string ⟨⟨l⟩⟩)|false=>none)=_;rw[A5 e];simp only[M4]
section
variable (p:Program)(T:Tab)
theorem a5m (t x y s s'):R9 p T .eql t x y (.string s) (.string s')=M.pure (.bool (beqBytes s.data.toList s'.data.toList)):=xK rfl rfl
theorem D1 (t x y s s'):R9 p T .neq t x y (.string s) (.string s')=M.pure (.bool (!(beqBytes s.data.toList s'.data.toList))):=xK rfl rfl
theorem X9 (t x y s s')(e:j9 s.data.toList+j9 s'.data.toList<4294967296):R9 p T .add t x y (.string s) (.string s')=M.pure (.string ⟨⟨m9 s.data.toList s'.data.toList⟩⟩):=by show M.lift (b1K .add s.data.toList s'.data.toList)=_;rw[c5b _ _ e];rfl
end
end Go.V
namespace Go.V
theorem a2i {α}(l:List α)(a b):z7 l (a+b)=z7 (z7 l a) b:=by rw[Q8,Q8,Q8,tH]
theorem M6 {σ}(body:σ->M (Xc×σ))(n x s):go (I9 body (n+1) x) s=H7 (go (body x) s) λr=>J1 r.1 (I9 body n r.2) (λid=>M.pure (.exit id,r.2)) (M.pure (.ret,r.2)) (λv=>M.pure (.pan v,r.2)):=xK rfl rfl
theorem d8.cases {α b}{x y:Option (α×S)}{Q}(h1:b=true->d8 x Q)(h2:b=false->d8 y Q):d8 (bcase b x y) Q:=by cases b with|true=>exact h1 rfl|false=>exact h2 rfl
theorem d8.bindS {α β:Type}{x:Option (α×S)}{f:α->M β}{P:α->S->Prop}{Q:β->S->Prop}(h:d8 x P)(k:∀a s',P a s'->d8 (go (f a) s') Q):d8 (H7 x f) Q:=by obtain⟨a,s',rfl,p⟩:=h;exact k a s' p
theorem d8.done {α}{a:α}{s Q}(h:Q a s):d8 (Option.some (a,s)) Q:=⟨a,s,rfl,h⟩
theorem c0O {α β}(b x y)(f:α->M β):H7 (bcase b x y) f=bcase b (H7 x f) (H7 y f):=zm
theorem V2:(!true)=false:=rfl
theorem T4:(!false)=true:=rfl
theorem a8K (b:Bool):(b&&b)=b:=vz b
theorem a8o (b:Bool):(true&&b)=b:=vj b
theorem a1Q (b:Bool):(b&&true)=b:=uu b
theorem a7R (n:Nat):0+n=n:=wt n
end Go.V
end
section
namespace Go.V
section
variable {P:Program}
theorem a1c {α β:Type}(x:Sem α)(f:α->Sem β):R6 P (x>>=f)=match R6 P x with|some a=>R6 P (f a)|none=>none:=by show R6 P (x.bind f)=_;induction x with|pure a=>rfl|program k ih=>exact ih P|mark m k ih=>exact ih|_=>rfl
theorem a9c {α}(a):R6 P (pure a:Sem α)=some a:=rfl
theorem b0l:R6 P program=some P:=rfl
theorem a7k {t d}(h:P.underlying t=some d):R6 P (underlying t)=some d:=by unfold underlying;rw[a1c,b0l];simp only[h];rfl
theorem c1x {t k}(h:P.underlying t=some (.int k))(cs off v)(hv:cs[off]?=some v):R6 P (part t cs off)=some v:=by grind[part,isAgg,a1c,a7k,a9c]
theorem c8v (d){t k' k}(h:P.underlying t=some (.int k'))(a b):R6 P (Op.equalIn (d+1) t (.int k a) (.int k b))=some (a==b):=by unfold Op.equalIn;rw[a1c,a7k h];simp;rfl
def a5g (P:Program):List Field->Nat->List Int->List Int->List Value->List Value->Prop|[],_,[],[],_,_=>True|f::fs,o,a::aS9,b::bs,xs,ys=>f.name≠ "_"/\f.offset=o/\(∃k',P.underlying f.type=some (.int k'))/\(∃k,xs[o]?=some (.int k a)/\ys[o]?=some (.int k b))/\a5g P fs (o+1) aS9 bs xs ys|_,_,_,_,_,_=>False
def a5O:List Int->List Int->Bool|a::aS9,b::bs=>decide (a=b)&&a5O aS9 bs|_,_=>true
theorem c0H (d){t fs}(ht:P.underlying t=some (.struct fs))(hp:P.stoodInHeld t=false)(xs ys aS9 bs)(h:a5g P fs.toList 0 aS9 bs xs ys):R6 P (Op.equalIn (d+2) t (.agg ⟨xs⟩) (.agg ⟨ys⟩))=some (a5O aS9 bs):=by
 unfold Op.equalIn;rw[a1c,a7k ht];simp only[];rw[a1c,b0l];simp only[hp,wL,vN];rw[a1c,<-Array.forIn_toList];generalize fs.toList=l at h⊢;clear ht;revert h;generalize 0=o;induction l generalizing o aS9 bs with
  |nil=>grind[a9c,a5O,a5g]|cons f l ih=>
   intro h;cases aS9 with
    |nil=>grind[a5g]|cons a aS9=>
     cases bs with
      |nil=>grind[a5g]|cons b bs=>
       obtain⟨h1,rfl,⟨k',h3⟩,⟨k,h4,h5⟩,h6⟩:=h;have i1:=ih aS9 bs _ h6;rw[List.forIn_cons,a1c,wT h1,a1c,c1x h3 ⟨xs⟩ f.offset _ (by simpa using h4)];simp only[a1c,c1x h3 ⟨ys⟩ f.offset _ (by simpa using h5),c8v d h3];by_cases hab:a=b;have e:(!a==b)=false:=by simp[hab]
       rw[wX (by rw[e];decide)];simp only[a9c];rw[i1];show some (a5O aS9 bs)=some (decide (a=b)&&a5O aS9 bs);rw[xL hab,vj];have e:(!a==b)=true:=by simp[hab]
       rw[wT e];simp only[a9c];show some false=some (decide (a=b)&&a5O aS9 bs);rw[xO hab,vg]
theorem b4P (op t x y xs ys)(hm:P.eqGuardType P.depth t=false):R6 P (eqGuard op t x y (.agg xs) (.agg ys))=some ():=by cases op<;>simp only[eqGuard,vt,ut,wL,tf,vN,a9c,a1c,b0l,hm]<;>rfl
theorem c1i {T op}(hop:op=.eql\/op=.neq){t x y fs}(ht:P.underlying t=some (.struct fs))(hp:P.stoodInHeld t=false)(hm:P.eqGuardType P.depth t=false){xs ys}{aS9 bs}(h:a5g P fs.toList 0 aS9 bs xs ys)(hx:C1 8 (.agg ⟨xs⟩)=true)(hy:C1 8 (.agg ⟨ys⟩)=true)(hT:∀d,T.types.get t=some d->d.und=.struct fs):R9 P T op t x y (.agg ⟨xs⟩) (.agg ⟨ys⟩)=M.pure (.bool (b2B op (a5O aS9 bs))):=by
 have hn:a9n T op t x y (.agg ⟨xs⟩) (.agg ⟨ys⟩)=none:=by unfold a9n;cases c9C op&&(isConstO x||isConstO y)with|false=>rfl|true=>cases hd:T.types.get t with|none=>rfl|some d=>simp only[hT d hd];rfl
 have e:=c0H (P:=P) 9998 ht hp xs ys aS9 bs h;show a7n P T op t x y (.agg ⟨xs⟩) (.agg ⟨ys⟩)=_;unfold a7n;rw[hn];simp only[hx,hy,vz,F6];have k:R6 P (do eqGuard op t x y (.agg ⟨xs⟩) (.agg ⟨ys⟩);binOp op t (.agg ⟨xs⟩) (.agg ⟨ys⟩))=some (.bool (b2B op (a5O aS9 bs))):=by rw[a1c,b4P _ _ _ _ _ _ hm];rcases hop with rfl|rfl;simp only[binOp,Op.equal,Op.maxDepth];rw[a1c];rw[show(10000:Nat)=9998+2 from rfl,e];rfl;simp only[binOp,Op.equal,Op.maxDepth];rw[a1c];rw[show(10000:Nat)=9998+2 from rfl,e];rfl
 rw[k];rfl
end
end Go.V
end
section
noncomputable section
namespace Go.V
open Go.RowKit (Below)
section
variable {P:Program}{T:Tab}{vs:a0E}
theorem b8I {f:Nat}{g:List Value->Option Value}(hg:∀aS9 v,g aS9=some v->A9 (C1 8) aS9=true/\C1 8 v=true/\∀w,(callFunc f aS9.toArray).run P w=.ok (.value v) w):B6 P T vs f (λaS9=>M.lift (g aS9)):=by refine⟨λaS9=>Fr.lift _,?_⟩;intro B0 w0 hL hB aS9 s v s' w K as' h S hG F has;obtain⟨e1,rfl⟩:=a1j h;obtain⟨g1,g2,g3⟩:=hg aS9 v e1;rw[a7i has g1];exact Or.inl ⟨v,w,K,g3 w,Step.same S rfl,T5 8 v g2⟩
end
def b0J (bs:List Value):Option Value:=match bs with
 |[.int .u64 (.ofNat x),.int .u64 (.ofNat y),.int .u64 (.ofNat c)]=>match Nat.ble c 1 with|true=>some (.tuple ⟨[.int .u64 (.ofNat (Nat.mod (Nat.add (Nat.add x y) c) 18446744073709551616)),.int .u64 (.ofNat (Nat.div (Nat.add (Nat.add x y) c) 18446744073709551616))]⟩)|false=>none
 |_=>none
end Go.V
end
section
namespace Go.V
open Go.RowKit (Below)
section
variable {P:Program}{T:Tab}{vs:a0E}
noncomputable def a9e (cs:List Value)(n e:Nat)(aS9:List Value):M Value:=match aS9 with|[]=>M.bind (M5 cs) λa=>M.pure (.slice (some a) n e)|_::_=>M.fail
theorem b9l (hT:TabOk P T)(hM:P.follows .mixedOrders=true)(hng:T.ng<=vs.length)(hp:∀l∈vs,∀v∈l,plain v=true){ext}(hE:a0z P T vs ext){N}{sh}(hs:a5S P T ext N sh){k f}{fn}{c}{s2}{b2 g2 n e cur}{cs}(hPf:P.funcs[f]?=some fn)(hnum:(fn.name== "runtime.NumGoroutine")=false)(hb:fn.body=some c)(h:j0 sh k f [] (a1e vs)=some (.ret (.slice (some ⟨b2,0,some g2⟩) n e),s2))(hcs:s2.h.get b2=some (.cells cs cur false))(hpl:A9 (λx=>plain x.1&&Nat.ble x.2 g2) cs=true):B6 P T vs f (a9e (G4 (·.1) cs) n e):=by
 refine⟨λaS9=>?_,?_⟩;cases aS9 with|nil=>show Fr (M.bind (M5 (G4 (·.1) cs)) λa=>M.pure (Value.slice (some a) n e));grind[Fr.bind,Fr.newCells,Fr.pure]|cons a aS9=>exact Fr.fail
 intro B0 w0 hL hB aS9 s v s1 w K as' hg S hG F has;cases aS9 with
  |cons a aS9=>cases hg|nil=>
   have hg':M.bind (M5 (G4 (·.1) cs)) (λa=>M.pure (Value.slice (some a) n e)) s=some (v,s1):=hg;obtain⟨a,s1',q1,q2⟩:=o7 hg';obtain⟨rfl,rfl⟩:=j7 q2;have e0:as'=[]:=wP.1 (by rw[has.len];rfl);subst e0;have hLw:=hL.below S.below hB;have hE':=hE w.heap.size ⟨w,λ_=>True⟩ hLw hLw.size;refine Or.inr ⟨J5 hPf hnum hb,?_⟩;rcases a8B hT hM hE' hs k f [] (a1e vs) _ s2 w (a4i vs) [] h (a8y (λ_ _=>trivial) (λ_ _=>trivial) hLw hp) (b0g hng) (λi hi _=>by rw[S4];have:vs.length<=i:=yY;rw[ww this]) (VRL.nil _)with⟨v1,v',w',K',_,q1,_⟩|⟨_,q⟩;rw[J5 hPf hnum hb]at q1;cases q1;refine q.mono λe1 w' hq=>?_;obtain⟨v',K2,e2,st,r⟩:=hq;refine⟨v',?_⟩;obtain⟨h1,h2,h3,h4⟩:=a8k q1;generalize hz:Value.slice (some ⟨b2,0,some g2⟩) n e=z at r;cases r with
    |plain hpp=>grind[V.plain]|slice hk l1 l2 l3 l4 l5=>
     cases hz;rename_i l a';have hown:l.own=true:=((st.sim.gens b2 cs cur false hcs).1 g2 l hk).2 rfl;have hblk:=st.sim.own b2 g2 l hk hown;have hlo:l.lo=0:=tG.1 l1;have G:Grew w w':=⟨st.sim.below.os,st.sim.below.tape,st.sim.below.output,st.sim.below.size,st.sim.below.block⟩;have hK:∀g,K s.c g=none:=S.none (F s.c (xR _) zy);have hsz:B0<=w.heap.size:=wg S.size0.1 S.below.size;refine⟨K.put s.c 0 l,e2,⟨KM.le_put K _ (hK 0),λi g hi=>KM.put_other K _ (λq=>zy),?_⟩,?_⟩;refine b5h (o:=.cells ((G4 (·.1) cs).map λv=>(v,0)) 0 false) (a4h S G) hK h4 (st.sim.dom b2 g2 l hk) (wg hsz hblk) hown (λb g l' q=>by have:=S.dom b g l' q;omega) ?_ (λes q=>zk) (λx pos q=>zk);intro cs' cur' ro' q;cases q;refine⟨rfl,rfl,λx hx=>?_,hlo,?_,?_⟩;grind;exact st.sim.room b2 g2 l cs cur false hk hown hcs;intro off v0 st0 q;rw[S9,vG,wc]at q;cases hvo:cs[off]? with|none=>rw[hvo]at q;cases q|some y=>rw[hvo]at q;cases q;have hy:=(C9 _ _).1 hpl y (we hvo);rw[xM]at hy;obtain⟨v1,c1,c2⟩:=st.sim.cells b2 cs cur false g2 l hcs hk off y.1 y.2 hvo (wk hy.2) zy;rw[c2.eq_of_plain hy.1]at c1;exact⟨y.1,by rw[hlo]at c1;exact c1,.plain hy.1⟩
     rw[h2];exact VR.slice (KM.put_same _ _ _ _) l1 l2 l3 l4 l5|_=>cases hz
theorem c1g {c m}:∀(n) (v),C1 n v=true->VRen c m v v:=by
 intro n;induction n with
  |zero=>intro v h;cases h|succ n ih=>
   intro v h;have key:∀l:List Value,A9 (C1 n) l=true->∀(i:Nat) (v w:Value),l[i]?=some v->l[i]?=some w->VRen c m v w:=λl hl i v w h1 h2=>by rw[h1]at h2;grind[C9]
   cases v with|agg cs=>exact .agg rfl (key _ h)|tuple cs=>exact .tuple rfl (key _ h)|iface t v=>exact .iface (ih v h)|_=>exact .plain h
theorem a5t (hT:TabOk P T)(hM:P.follows .mixedOrders=true){ext}(hE:a0z P T vs ext){N}{sh}(hs:a5S P T ext N sh){f}{fn}{cd}(hPf:P.funcs[f]?=some fn)(hnum:(fn.name== "runtime.NumGoroutine")=false)(hb:fn.body=some cd){g}(hFr:∀aS9,Fr (g aS9))(h:∀aS9 s v s1,g aS9 s=some (v,s1)->C1 8 v=true/\s1.c=s.c/\s1.h=s.h/\∀c,s.c<=c->∃n,d8 (go (j0 sh n f aS9) ⟨c,s.h,s.r,s.w⟩) λx s2=>x=.ret v/\∀i,i<c->s2.h.get i=s.h.get i):B6 P T vs f g:=by refine b2b hT hM hE hs hPf hnum hb hFr λaS9 s v s1 hg c' h1 h2 h3=>?_;obtain⟨q1,q2,q3,q4⟩:=h aS9 s v s1 hg;obtain⟨n,x,s2,e,rfl,hold⟩:=q4 c' h1;refine⟨n,v,s2,λ_=>none,e,⟨λi hi=>Or.inr ⟨by rw[q3],hold i hi.1⟩,λb b2 g2 hm=>(by cases hm),λb hb _=>?_,λb b' x x' hm=>(by cases hm)⟩,c1g 8 v q1,λi h1 h2=>hold i h2⟩;rw[q3];refine h3 b (sr λhlt=>hb ⟨hlt,λhx=>zy⟩)
theorem Z3 (hT:TabOk P T)(hM:P.follows .mixedOrders=true){ext}(hE:a0z P T vs ext){N}{sh}(hs:a5S P T ext N sh){f}{fn}{cd}(hPf:P.funcs[f]?=some fn)(hnum:(fn.name== "runtime.NumGoroutine")=false)(hb:fn.body=some cd){g:List Value->Option Value}(h:∀aS9 v,g aS9=some v->C1 8 v=true/\∀c h r w,∃n,d8 (go (j0 sh n f aS9) ⟨c,h,r,w⟩) λx s2=>x=.ret v/\∀i,i<c->s2.h.get i=h.get i):B6 P T vs f (λaS9=>M.lift (g aS9)):=by refine a5t hT hM hE hs hPf hnum hb (λaS9=>Fr.lift _) λaS9 s v s1 hg=>?_;obtain⟨e,rfl⟩:=a1j hg;obtain⟨q1,q2⟩:=h aS9 v e;simp_all
theorem a1V {f}{g:List Value->Option Value}(h:∀aS9 v,g aS9=some v->A9 (C1 8) aS9=true/\C1 8 v=true/\a4F P vs f aS9 v):B6 P T vs f (λaS9=>M.lift (g aS9)):=by refine⟨λ_=>Fr.lift _,?_⟩;intro B0 w0 hL hB aS9 s v s' w K as' hg S hG F has;obtain⟨e1,e2⟩:=a1j hg;obtain⟨t1,t2,t3⟩:=h aS9 v e1;rw[a7i has t1];obtain⟨c1,c2⟩:=t3 w (hL.below S.below hB);refine Or.inr ⟨c1,c2.mono λe w' ⟨q1,q2⟩=>⟨v,K,q1,⟨KM.le_refl K,λ_ _ _=>rfl,?_⟩,T5 8 v t2⟩⟩;subst e2;exact a4h S ⟨q2.os,q2.tape,q2.output,q2.size,q2.block⟩
noncomputable def I3 (sh:a0g)(f:Nat)(g:List Value->M Value):a0g:=Trie.put (some (arX g)) (f+1) sh f
theorem c7z (sh f g i):(I3 sh f g).get i=if i=f then some (arX g)else sh.get i:=Trie.get_put _ _ _ _ (xG _) _
theorem c8I {ext N sh}(hs:a5S P T ext N sh)(f g):a5S P T (C8 ext f g) N (I3 sh f g):=by
 intro i q hi;rw[c7z]at hi;by_cases hif:i=f;subst hif;rw[wT rfl]at hi;cases hi;exact d0Y (by unfold C8;rw[I4]);rw[wX hif]at hi;have h0:=hs i q hi;have e:C8 ext f g i=ext i:=by grind[C8,Q5]
 grind[atF]
structure Shelf' (P:Program) (T:Tab) (vs:a0E) (N:Nat) (ext:Nat→Option (List Value→M Value)) (sh:a0g):Prop where
 e:a0z P T vs ext
 s:a5S P T ext N sh
theorem Shelf'.add {N ext sh}(L:Shelf' P T vs N ext sh){f g}(hg:B6 P T vs f g):Shelf' P T vs N (C8 ext f g) (I3 sh f g):=⟨a7z L.e hg,c8I L.s f g⟩
theorem a3l (sh n f aS9){q}(h:sh.get f=some q):j0 sh (n+1) f aS9=q (j0 sh n) aS9:=by grind[M.obind,j0]
theorem a2R (sh n f aS9){g}(h:sh.get f=some (arX g)):j0 sh (n+1) f aS9=M.bind (g aS9) λv=>M.pure (.ret v):=a3l sh n f aS9 h
theorem K6 (sh n f aS9){g:List Value->Option Value}{v}(h:sh.get f=some (arX λaS9=>M.lift (g aS9)))(e:g aS9=some v):j0 sh (n+1) f aS9=M.pure (.ret v):=by rw[a2R sh n f aS9 h,e];rfl
end
end Go.V
end
