import Derived.Test.YtmomonnlmbljoaaGreatDoorBai
set_option maxRecDepth 1000000
set_option maxHeartbeats 4000000
set_option linter.unusedVariables false
set_option linter.unusedSimpArgs false
section
noncomputable section
namespace Go.V
theorem d1X:a0m 0=[]:=wJ rfl rfl
theorem d3g (n):a0m (n+1)=undef::a0m n:=wJ rfl rfl
theorem s_0 (v l x):a4O (v::l) 0 x=x::l:=wJ rfl rfl
theorem s_s (v l i x):a4O (v::l) (i+1) x=v::a4O l i x:=wJ rfl rfl
theorem e8p (a0 a1 a2 a3 a4 a5 a6 a7 a8 a9 a10 a11 a12 a13 a14 a15 l i):C9 (a0::a1::a2::a3::a4::a5::a6::a7::a8::a9::a10::a11::a12::a13::a14::a15::l) (i+16)=C9 l i:=wJ rfl rfl
theorem e9n (a0 a1 a2 a3 a4 a5 a6 a7 a8 a9 a10 a11 a12 a13 a14 a15 l i x):a4O (a0::a1::a2::a3::a4::a5::a6::a7::a8::a9::a10::a11::a12::a13::a14::a15::l) (i+16) x=a0::a1::a2::a3::a4::a5::a6::a7::a8::a9::a10::a11::a12::a13::a14::a15::a4O l i x:=wJ rfl rfl
theorem f0n (f:Operand->Value)(x):Option.map f (some x)=some (f x):=wJ rfl rfl
theorem e8z (f:Operand->Value):Option.map f none=none:=wJ rfl rfl
theorem c5H (fr):Q7 fr []=[]:=wJ rfl rfl
theorem c3y (fr i W):Q7 fr (i::W)=C9 fr i::Q7 fr W:=wJ rfl rfl
theorem c3t (vs fr i):a5K vs [] i fr=fr:=wJ rfl rfl
theorem c1g (vs fr t W i):a5K vs (t::W) i fr=a5K vs W (i+1) (a4O fr t (C9 vs i)):=wJ rfl rfl
theorem c9j (vs fr W):L9 W vs fr=a5K vs W 0 fr:=wJ rfl rfl
theorem d8N (fr)(t:Nat):vO fr (.tmp t)=C9 fr t:=wJ rfl rfl
theorem e0S (fr k n m)(h:n=m):vO fr (.const (.int k n))=.int k m:=by rw[<-h];rfl
theorem d3N (fr v)(h:b5G v=false):vO fr (.const v)=v:=wJ rfl rfl
theorem d0p (fr g):vO fr (.global g)=.pointer (some ⟨g,0,some 0⟩):=wJ rfl rfl
theorem d6Q (fr)(f:Nat):vO fr (.func f)=.func (.func f) #[] #[]:=wJ rfl rfl
theorem e2v (fr):vL fr []=[]:=wJ rfl rfl
theorem d6O (fr o os):vL fr (o::os)=vO fr o::vL fr os:=wJ rfl rfl
def a5O (d:Option Nat)(fr:List Value)(v:Value):List Value:=match d with|some t=>a4O fr t v|none=>fr
theorem d0h (t fr v):a5O (some t) fr v=a4O fr t v:=wJ rfl rfl
theorem c8y (fr v):a5O none fr v=fr:=wJ rfl rfl
theorem d8x (v):a7I [v]=v:=wJ rfl rfl
theorem d8I:a7I []=.tuple ⟨[]⟩:=wJ rfl rfl
theorem d9s (v w vs):a7I (v::w::vs)=.tuple ⟨v::w::vs⟩:=wJ rfl rfl
def b4P:Op->Bool|.move _=>false|.assign _=>false|.call _=>false|.panic _=>false|_=>true
section
variable {p:Program}{T:Tab}{cb:Cb}{N:Nat}{call:J7}{β:Type}{fr:List Value}{k:Xc->List Value->M β}{d:Option Nat}{ty:TypeId}{pos:String}{af:Array Edge}{g:Option (Nat×Bool)}{os:List Oper}
theorem c5M:a0p p T cb false call [] fr k=k .normal fr:=rfl
theorem e0Y {x}(h:okO T x=true):a0p p T cb false call (⟨d,.move x,ty,pos,af,g⟩::os) fr k=a0p p T cb false call os (a5O d fr (vO fr x)) k:=by show M.obind (X7 T fr x) _=_;rw[a5u h];cases d<;>rfl
theorem d2k {x}(h:okO T x=true):a0p p T cb false call (⟨d,.assign x,ty,pos,af,g⟩::os) fr k=a0p p T cb false call os (a5O d fr (vO fr x)) k:=by show M.obind (X7 T fr x) _=_;rw[a5u h];cases d<;>rfl
theorem d1Y {o}(h:b4P o=true):a0p p T cb false call (⟨d,o,ty,pos,af,g⟩::os) fr k=cb.bv β (O7 p T fr o) λv=>a0p p T cb false call os (a5O d fr v) k:=by cases d<;>cases o<;>first|rfl|cases h
theorem e0G {f:Nat}{a ts}(h:okL T a.toList=true):a0p p T cb false call (⟨d,.call ⟨.value (.func f),a,ts⟩,ty,pos,af,g⟩::os) fr k=cb.bc β (call f (vL fr a.toList)) (λv=>a0p p T cb false call os (a5O d fr v) k) noP:=by
 show M.obind (a4S T fr (.func f) a.toList) _=_;have:a4S T fr (.func f) a.toList=some (f,vL fr a.toList):=by unfold a4S;rw[b5u h];show some (f,D7 [] (D7 (vL fr a.toList) []))=_;rw[a4C,D9,wH]
 rw[this];cases d<;>rfl
theorem d5C {f a ts}(hf:okO T f=true)(h:okL T a.toList=true):a0p p T cb false call (⟨d,.call ⟨.value f,a,ts⟩,ty,pos,af,g⟩::os) fr k=M.obind (b1f (vO fr f) (vL fr a.toList)) λga=>cb.bc β (call ga.1 ga.2) (λv=>a0p p T cb false call os (a5O d fr v) k) noP:=by
 show M.obind (a4S T fr f a.toList) _=_;have:a4S T fr f a.toList=b1f (vO fr f) (vL fr a.toList):=by grind[a4S,b5u,a5u]
 rw[this];cases d<;>rfl
theorem c9r {b a ts}:a0p p T cb false call (⟨d,.call ⟨.builtin b,a,ts⟩,ty,pos,af,g⟩::os) fr k=cb.bv β (a0N p T fr b a ts) λv=>a0p p T cb false call os (a5O d fr v) k:=by cases d<;>rfl
theorem d7C {x}(h:okO T x=true):a0p p T cb false call (⟨d,.panic x,ty,pos,af,g⟩::os) fr k=M.guard (a5e (vO fr x)) M.fail:=by show M.obind (X7 T fr x) _=_;rw[a5u h];rfl
def a5T (g:Option (Nat×Bool)):List Oper->List Oper|[]=>[]|o::os=>match a4h g o.guard with|true=>o::a5T g os|false=>[]
def a8m (g:Option (Nat×Bool)):List Oper->List Oper|[]=>[]|o::os=>match a4h g o.guard with|true=>a8m g os|false=>o::os
theorem d0N {a b}(h:a4h a b=true):a=b:=by
 cases a with
  |none=>cases b with|none=>rfl|some b=>cases h
  |some a=>cases b with|none=>cases h|some b=>simp only[a4h,wK,beq_iff_eq]at h;rw[show a=b from Prod.ext (wR h.1) h.2]
theorem b4D:∀(os) (o),a1R (o::os)=(o.guard,o::a5T o.guard os)::a1R (a8m o.guard os):=by intro os;induction os with|nil=>intro o;rfl|cons o2 os ih=>intro o;have hs:a1R (o::o2::os)=(match a1R (o2::os)with|[]=>[(o.guard,[o])]|g::gs=>match a4h o.guard g.1 with|true=>(g.1,o::g.2)::gs|false=>(o.guard,[o])::g::gs):=rfl;rw[hs,ih o2];grind[a5T,a8m,d0N]
def b1L (p:Program)(T:Tab)(cb:Cb)(call:J7){β:Type}(g:Option (Nat×Bool))(os:List Oper)(fr:List Value)(k:Xc->List Value->M β):M β:=a0p p T cb false call (a5T g os) fr k
def a9E (p:Program)(T:Tab)(cb:Cb)(call:J7){β:Type}(ops:List Oper)(g:Option (Nat×Bool))(os:List Oper)(fr:List Value)(k:Xc->List Value->M β):M β:=a8k p T cb false call ops (a1R (a8m g os)) fr k
theorem e3X {o}:a0p p T cb false call (o::os) fr k=a0p p T cb false call [o] fr λex fr'=>U8 ex (a0p p T cb false call os fr' k) (λ_=>M.fail) M.fail λ_=>M.fail:=by rfl
theorem c6k:b1L p T cb call g [] fr k=k .normal fr:=rfl
theorem c1X {o g'}(h:a4h g g'=true):b1L p T cb call g (⟨d,o,ty,pos,af,g'⟩::os) fr k=a0p p T cb false call [⟨d,o,ty,pos,af,g'⟩] fr λex fr'=>U8 ex (b1L p T cb call g os fr' k) (λ_=>M.fail) M.fail λ_=>M.fail:=by
 have e:a5T g (⟨d,o,ty,pos,af,g'⟩::os)=⟨d,o,ty,pos,af,g'⟩::a5T g os:=by rw[a5T];grind
 unfold b1L;rw[e];exact e3X
theorem c1d {o g'}(h:a4h g g'=false):b1L p T cb call g (⟨d,o,ty,pos,af,g'⟩::os) fr k=k .normal fr:=by
 have e:a5T g (⟨d,o,ty,pos,af,g'⟩::os)=[]:=by rw[a5T];grind
 unfold b1L;rw[e];rfl
theorem c6l {ops}:a9E p T cb call ops g [] fr k=k .normal fr:=rfl
theorem c1x {ops o g'}(h:a4h g g'=true):a9E p T cb call ops g (⟨d,o,ty,pos,af,g'⟩::os) fr k=a9E p T cb call ops g os fr k:=by
 have e:a8m g (⟨d,o,ty,pos,af,g'⟩::os)=a8m g os:=by rw[a8m];grind
 grind[a9E]
theorem c0K {ops o}(h:a4h g none=false):a9E p T cb call ops g (⟨d,o,ty,pos,af,none⟩::os) fr k=b1L p T cb call none (⟨d,o,ty,pos,af,none⟩::os) fr λex fr'=>U8 ex (a9E p T cb call ops none os fr' k) (λ_=>M.fail) M.fail λv=>k (.pan v) fr':=by unfold a9E;rw[show a8m g (⟨d,o,ty,pos,af,none⟩::os)=⟨d,o,ty,pos,af,none⟩::os by rw[a8m];grind,b4D];rfl
theorem c1h {ops o}{j z t:Nat}{b D}(h:a4h g (some (j,b))=false)(hj:a4l ops j=some t)(hD:O5 (⟨d,o,ty,pos,af,some (j,b)⟩::a5T (some (j,b)) os)=D)(hm:a2M t D=false)(hz:x8 D=z):a9E p T cb call ops g (⟨d,o,ty,pos,af,some (j,b)⟩::os) fr k=cb.bj β (bcase (a1O b (C9 fr t)) (b1L p T cb call (some (j,b)) (⟨d,o,ty,pos,af,some (j,b)⟩::os) fr λex fr'=>M.pure (ex,Q7 fr' D)) (M.pure (.normal,a0m z))) λex vs=>U8 ex (a9E p T cb call ops (some (j,b)) os (L9 D vs fr) k) (λ_=>M.fail) M.fail noP:=by
 have hs:a5T (some (j,b)) (⟨d,o,ty,pos,af,some (j,b)⟩::os)=⟨d,o,ty,pos,af,some (j,b)⟩::a5T (some (j,b)) os:=by
  have:a4h (some (j,b)) (some (j,b))=true:=by simp[a4h]
  rw[a5T];simp_all
 unfold a9E b1L;rw[show a8m g (⟨d,o,ty,pos,af,some (j,b)⟩::os)=⟨d,o,ty,pos,af,some (j,b)⟩::os by rw[a8m];grind,b4D,hs];show M.obind (a4l ops j) _=_;rw[hj];show M.guard (!(a2M t (O5 (⟨d,o,ty,pos,af,some (j,b)⟩::a5T (some (j,b)) os)))) _=_;rw[hD,hm,<-hz];rfl
def b1I (ops:List Oper):Bool:=J2 (λo=>o.guard.isNone) ops
theorem c1U:∀(ops),b1I ops=true->a1R ops=[]/\ops=[]\/a1R ops=[(none,ops)]:=by
 intro ops;induction ops with
  |nil=>intro _;exact Or.inl ⟨rfl,rfl⟩|cons o os ih=>
   intro h;unfold b1I at h;rw[U1,wK]at h;have hg:o.guard=none:=by simpa using h.1
   have hs:a1R (o::os)=(match a1R os with|[]=>[(o.guard,[o])]|g::gs=>match a4h o.guard g.1 with|true=>(g.1,o::g.2)::gs|false=>(o.guard,[o])::g::gs):=rfl;right;rcases ih h.2 with⟨q,rfl⟩|q;rw[hs,hg];rfl;rw[hs,q,hg];rfl
theorem d7l {ops:Array Oper}(h:b1I ops.toList=true):b7F p T cb false call ops.toList false fr k=a0p p T cb false call ops.toList fr k:=by show a8k p T cb false call ops.toList (a1R ops.toList) fr k=_;rcases c1U _ h with⟨q,e⟩|q;rw[q,e];rfl;rw[q];show a0p p T cb false call ops.toList fr (λex fr'=>U8 ex (k .normal fr') (λ_=>M.fail) M.fail λv=>k (.pan v) fr')=_;generalize ops.toList=l;induction l generalizing fr with|nil=>rfl|cons o os ih=>obtain⟨d,o,ty,pos,af,g⟩:=o;show a3U p T cb call fr o (λv=>a0p p T cb false call os (Q6 fr _ v) _) _=a3U p T cb call fr o (λv=>a0p p T cb false call os (Q6 fr _ v) _) _;congr 1;funext v;exact ih
variable {id:Nat}{ops:Array Oper}{pl pa pb:Pl}{a b:Code}{W E:List Nat}
theorem c0Q:O1 p T cb false N call .skip pl β fr k=k .normal fr:=rfl
theorem b7L (h:b1I ops.toList=true):O1 p T cb false N call (.region id ops false) pl β fr k=a0p p T cb false call ops.toList fr k:=d7l h
theorem b5l:O1 p T cb false N call (.region id ops false) pl β fr k=a8k p T cb false call ops.toList (a1R ops.toList) fr k:=rfl
theorem c5p {ops}:a8k p T cb false call ops (a1R []) fr k=k .normal fr:=rfl
theorem c2A {ops o}:a8k p T cb false call ops (a1R (⟨d,o,ty,pos,af,none⟩::os)) fr k=a9E p T cb call ops (some (0,true)) (⟨d,o,ty,pos,af,none⟩::os) fr k:=rfl
theorem c2R {ops o j b}:a8k p T cb false call ops (a1R (⟨d,o,ty,pos,af,some (j,b)⟩::os)) fr k=a9E p T cb call ops none (⟨d,o,ty,pos,af,some (j,b)⟩::os) fr k:=rfl
def c5h (L:List (Nat×Nat))(F:List a1Q):Bool:=a1A L F
theorem J4 {α L F}{m:M α}(h:a1A L F=true):M.guard (c5h L F) m=m:=by unfold c5h;rw[h];rfl
theorem c2L {c ops F}{q:List Value->List a1Q->M β}:a3e p T c ops [] fr F q=q fr F:=rfl
theorem d5X {c ops F}{q:List Value->List a1Q->M β}{o}:a3e p T c ops (⟨d,o,ty,pos,af,none⟩::os) fr F q=M.bind (M.foot (Z0 p T c fr o)) λx=>a3e p T c ops os (a5O d fr x.1) (D7 F [x.2]) q:=by cases d<;>rfl
theorem d6b {c ops F}{q:List Value->List a1Q->M β}{o}{j t:Nat}{b}(h:a4l ops j=some t):a3e p T c ops (⟨d,o,ty,pos,af,some (j,b)⟩::os) fr F q=M.bind (bcase (a1O b (C9 fr t)) (M.foot (Z0 p T c fr o)) (M.pure (undef,([],[])))) λx=>a3e p T c ops os (a5O d fr x.1) (D7 F [x.2]) q:=by
 have e:b2x p T c ops fr ⟨d,o,ty,pos,af,some (j,b)⟩=bcase (a1O b (C9 fr t)) (M.foot (Z0 p T c fr o)) (M.pure (undef,([],[]))):=by grind[b2x,a1U]
 have e0:∀o:Oper,a3e p T c ops (o::os) fr F q=M.bind (b2x p T c ops fr o) λx=>a3e p T c ops os (Q6 fr o x.1) (D7 F [x.2]) q:=λ_=>rfl;rw[e0,e];cases d<;>rfl
theorem d5N {c x}(h:okO T x=true):Z0 p T c fr (.move x)=M.pure (vO fr x):=by show M.lift (X7 T fr x)=_;rw[a5u h];rfl
theorem c8E {c x}(h:okO T x=true):Z0 p T c fr (.assign x)=M.pure (vO fr x):=by show M.lift (X7 T fr x)=_;rw[a5u h];rfl
theorem d0v {c o}(h:b4P o=true):Z0 p T c fr o=O7 p T fr o:=by cases o<;>first|rfl|cases h
theorem c6i {c b a ts}:Z0 p T c fr (.call ⟨.builtin b,a,ts⟩)=a0N p T fr b a ts:=rfl
theorem d6o {c}{f:Nat}{a ts}(h:okL T a.toList=true):Z0 p T c fr (.call ⟨.value (.func f),a,ts⟩)=c f (vL fr a.toList):=by show a5g T fr (.func f) a.toList c=_;unfold a5g;rw[a0w rfl,a4j h];show c f (D7 [] (D7 (vL fr a.toList) []))=_;rw[a4C,D9,wH]
theorem d1K {c}{f:Nat}{a ts}(h:okL T a.toList=true):Z0 p T c fr (.call ⟨.value (.tmp f),a,ts⟩)=c4r (C9 fr f) (vL fr a.toList) c:=by show a5g T fr (.tmp f) a.toList c=_;unfold a5g;rw[a0w rfl,a4j h];rfl
theorem c3k {c ops}{q q':List Value->List a1Q->M β}:∀(os) (fr) (F),(∀fr G,x8 G=x8 F+x8 os->q fr G=q' fr G)->a3e p T c ops os fr F q=a3e p T c ops os fr F q':=by intro os;induction os with|nil=>intro fr F h;exact h fr F (by rfl)|cons o os ih=>intro fr F h;have e0:∀q:List Value->List a1Q->M β,a3e p T c ops (o::os) fr F q=M.bind (b2x p T c ops fr o) λx=>a3e p T c ops os (Q6 fr o x.1) (D7 F [x.2]) q:=λ_=>rfl;rw[e0,e0];grind[F9,D9]
theorem c2k {n U D L}(hL:b6o ops.toList ops.toList [] [] 0=some L)(hn:x8 fr=n)(hU:a2O (a4w ops.toList ops.toList)=U)(hD:O5 ops.toList=D):O1 p T cb false N call (.region id ops true) pl β fr k=cb.bj β (a3e p T (a1P call) ops.toList ops.toList (L9 U (Q7 fr U) (a0m n)) [] λfr' F=>M.guard (c5h L F) (M.pure (.normal,Q7 fr' D))) λ_ vs=>k .normal (L9 D vs fr):=by rw[<-hn,<-hU,<-hD];show cb.bj β (b5H p T call ops.toList _ _ _ _) _=_;rw[d0Z];congr 1;refine c3k _ _ _ λfr G hG=>?_;rw[d6V hL (by rw[hG];simp[F9])];rfl
def b6Y (p:Program)(T:Tab)(cb:Cb)(N:Nat)(call:J7){β:Type}(b:Code)(pb:Pl)(k:Xc->List Value->M β):Xc->List Value->M β:=λex fr'=>U8 ex (O1 p T cb false N call b pb β fr' k) (λid=>k (.exit id) fr') (k .ret fr') (λv=>k (.pan v) fr')
theorem c0X:O1 p T cb false N call (.seq a b) .d β fr k=O1 p T cb false N call a .d β fr (b6Y p T cb N call b .d k):=rfl
theorem c2B:O1 p T cb false N call (.seq a b) (.s none pa pb) β fr k=O1 p T cb false N call a pa β fr (b6Y p T cb N call b pb k):=rfl
theorem c0r:O1 p T cb false N call (.seq a b) (.l W pa) β fr k=O1 p T cb false N call a pa β fr (b6Y p T cb N call b .d k):=rfl
theorem k_n:b6Y p T cb N call b pb k .normal fr=O1 p T cb false N call b pb β fr k:=rfl
theorem k_e {i}:b6Y p T cb N call b pb k (.exit i) fr=k (.exit i) fr:=rfl
theorem k_r:b6Y p T cb N call b pb k .ret fr=k .ret fr:=rfl
theorem c4L {r}(hs:b0F (a0L a) W=true)(hE:a2O (a2u a)=E)(hr:hasRet a=r):O1 p T cb false N call (.seq a b) (.s (some W) pa pb) β fr k=cb.bj β (O1 p T cb false N call a pa (Xc×List Value) fr λex fr'=>M.pure (ex,Q7 fr' W)) λex vs=>U8 ex (O1 p T cb false N call b pb β (L9 W vs fr) k) (λid=>a4c E id λx=>k x (L9 W vs fr)) (bcase r (k .ret (L9 W vs fr)) M.fail) noP:=by rw[<-hE,<-hr];show M.guard (b0F (a0L a) W) _=_;rw[hs];rfl
theorem b7l (hs:b0F (a0L a) W=true)(hE:a2O (a2u a)=E)(hr:hasRet a=true):O1 p T cb false N call (.seq a b) (.s (some W) pa pb) β fr k=cb.bj β (O1 p T cb false N call a pa (Xc×List Value) fr λex fr'=>M.pure (ex,Q7 fr' W)) λex vs=>U8 ex (O1 p T cb false N call b pb β (L9 W vs fr) k) (λid=>a4c E id λx=>k x (L9 W vs fr)) (k .ret (L9 W vs fr)) noP:=c4L hs hE hr
theorem b7I (hs:b0F (a0L a) W=true)(hE:a2O (a2u a)=E)(hr:hasRet a=false):O1 p T cb false N call (.seq a b) (.s (some W) pa pb) β fr k=cb.bj β (O1 p T cb false N call a pa (Xc×List Value) fr λex fr'=>M.pure (ex,Q7 fr' W)) λex vs=>U8 ex (O1 p T cb false N call b pb β (L9 W vs fr) k) (λid=>a4c E id λx=>k x (L9 W vs fr)) M.fail noP:=c4L hs hE hr
def b4T {β:Type}(id:Nat)(k:Xc->List Value->M β):Xc->List Value->M β:=λex fr'=>k (a6j id ex) fr'
theorem b5c:O1 p T cb false N call (.block id b) .d β fr k=O1 p T cb false N call b .d β fr (b4T id k):=rfl
theorem b5h {j}:O1 p T cb false N call (.block id b) (.s j pa pb) β fr k=O1 p T cb false N call b pa β fr (b4T id k):=rfl
theorem b5k:O1 p T cb false N call (.block id b) (.l W pa) β fr k=O1 p T cb false N call b pa β fr (b4T id k):=rfl
theorem d2e:b4T id k .normal fr=k .normal fr:=rfl
theorem d1y:b4T id k .ret fr=k .ret fr:=rfl
theorem d1U {i:Nat}(h:Nat.beq i id=true):b4T id k (.exit i) fr=k .normal fr:=wm
theorem d2o {i:Nat}(h:Nat.beq i id=false):b4T id k (.exit i) fr=k (.exit i) fr:=wm
theorem c5d {r}(hs:b0F (a0L b) W=true)(hE:a2O (a2u b)=E)(hr:hasRet b=r):O1 p T cb false N call (.loop b) (.l W pa) β fr k=cb.bj β (cb.lp (λxs=>O1 p T cb false N call b pa (Xc×List Value) (L9 W xs fr) λex fr'=>M.pure (ex,Q7 fr' W)) N (Q7 fr W)) λex vs=>U8 ex M.fail (λid=>a4c E id λx=>k x (L9 W vs fr)) (bcase r (k .ret (L9 W vs fr)) M.fail) noP:=by rw[<-hE,<-hr];show M.guard (b0F (a0L b) W) _=_;rw[hs];rfl
theorem b7H (hs:b0F (a0L b) W=true)(hE:a2O (a2u b)=E)(hr:hasRet b=true):O1 p T cb false N call (.loop b) (.l W pa) β fr k=cb.bj β (cb.lp (λxs=>O1 p T cb false N call b pa (Xc×List Value) (L9 W xs fr) λex fr'=>M.pure (ex,Q7 fr' W)) N (Q7 fr W)) λex vs=>U8 ex M.fail (λid=>a4c E id λx=>k x (L9 W vs fr)) (k .ret (L9 W vs fr)) noP:=c5d hs hE hr
theorem b7s (hs:b0F (a0L b) W=true)(hE:a2O (a2u b)=E)(hr:hasRet b=false):O1 p T cb false N call (.loop b) (.l W pa) β fr k=cb.bj β (cb.lp (λxs=>O1 p T cb false N call b pa (Xc×List Value) (L9 W xs fr) λex fr'=>M.pure (ex,Q7 fr' W)) N (Q7 fr W)) λex vs=>U8 ex M.fail (λid=>a4c E id λx=>k x (L9 W vs fr)) M.fail noP:=c5d hs hE hr
theorem c2h:O1 p T cb false N call (.exit id) pl β fr k=k (.exit id) fr:=rfl
theorem c7Q:O1 p T cb false N call .ret pl β fr k=k .ret fr:=rfl
theorem c0L {i}{k:Xc->M β}:a4c [] i k=M.fail:=rfl
theorem b7f {i e}{k:Xc->M β}:a4c (e::E) i k=bcase (Nat.beq i e) (k (.exit e)) (a4c E i k):=rfl
def a6z:Code->Pl->List (Code×List Nat×Pl)|.seq a b,pl=>a6z a pl.a++a6z b pl.b|.cond _ a b,pl=>a6z a pl.a++a6z b pl.b|.block _ b,pl=>a6z b pl.a|.loop b,pl=>(b,pl.w,pl.a)::a6z b pl.a|_,_=>[]
def lq (p:Program)(T:Tab)(cb:Cb)(N:Nat)(call:J7)(f:Func)(pl:Pl)(i:Nat)(S:List Nat)(vs xs:List Value):M (Xc×List Value):=match a0l (a6z (b0k f) pl) i with|some x=>O1 p T cb false N call x.1 x.2.2 (Xc×List Value) (L9 x.2.1 xs (L9 S vs (a0m f.ntmps))) λex fr'=>M.pure (ex,Q7 fr' x.2.1)|none=>M.fail
theorem e0o {f:Func}{i n:Nat}{S:List Nat}{vs xs:List Value}(h:a0l (a6z (b0k f) pl) i=some (b,W,pa))(hn:f.ntmps=n:=by with_unfolding_all (conv=>lhs;reduce)):lq p T cb N call f pl i S vs xs=O1 p T cb false N call b pa (Xc×List Value) (L9 W xs (L9 S vs (a0m n))) λex fr'=>M.pure (ex,Q7 fr' W):=by grind[lq]
theorem c7g {j}:Pl.a (.s j pa pb)=pa:=rfl
theorem c7O:Pl.a (.l W pa)=pa:=rfl
theorem d1d {j}:Pl.b (.s j pa pb)=pb:=rfl
theorem d3v:Pl.w (.l W pa)=W:=rfl
variable {fn:Func}{rs:List ResultVar}
def c1j (cb:Cb)(T:Tab)(rs:List ResultVar)(ex:Xc)(fr:List Value):M CR:=U8 ex (a3M T cb fr rs λvs=>M.pure (.ret (a7I vs))) (λ_=>M.fail) (a3M T cb fr rs λvs=>M.pure (.ret (a7I vs))) λv=>M.pure (.pan v)
theorem d5J {c:Code}{n:Nat}{args:List Value}(hc:fn.body=some c:=by rfl)(hr:fn.results.toList=rs:=by with_unfolding_all (conv=>lhs;reduce))(hn:fn.ntmps-x8 args=n:=by with_unfolding_all (conv=>lhs;reduce)):a3j p T cb false N call fn (b0k fn) pl args=O1 p T cb false N call c pl CR (D7 args (a0m n)) (c1j cb T rs):=by
 rw[<-hr,<-hn];have:b0k fn=c:=by grind[b0k]
 rw[this];rfl
theorem f_n:c1j cb T rs .normal fr=a3M T cb fr rs λvs=>M.pure (.ret (a7I vs)):=rfl
theorem f_r:c1j cb T rs .ret fr=a3M T cb fr rs λvs=>M.pure (.ret (a7I vs)):=rfl
theorem f_e {i}:c1j cb T rs (.exit i) fr=M.fail:=rfl
theorem b7w {k:List Value->M β}:a3M T cb fr [] k=k []:=rfl
theorem b7i {t:Nat}{k:List Value->M β}:a3M T cb fr (.tmp t::rs) k=a3M T cb fr rs λvs=>k (C9 fr t::vs):=rfl
theorem c9p {x t:Nat}{k}(h:a8W T t=some none):a3M T cb fr (.cell x t::rs) k=a0G (C9 fr x) λad=>cb.bv β (M.bind (loadN ad 1) λq=>M.pure (C9 q 0)) λv=>a3M T cb fr rs λvs=>k (v::vs):=by show a0G (C9 fr x) (λad=>cb.bv β (a4K T t ad) _)=_;congr 1;funext ad;congr 1;grind[a8W,a4K,a0I]
theorem c8C {x t n:Nat}{k}(h:a8W T t=some (some n)):a3M T cb fr (.cell x t::rs) k=a0G (C9 fr x) λad=>cb.bv β (M.bind (loadN ad n) λq=>M.pure (.agg ⟨q⟩)) λv=>a3M T cb fr rs λvs=>k (v::vs):=by show a0G (C9 fr x) (λad=>cb.bv β (a4K T t ad) _)=_;congr 1;funext ad;congr 1;unfold a8W at h;cases e:T.types.get t with|none=>rw[e]at h;cases h|some i=>rw[e]at h;simp only at h;split at h;rename_i q;split at h;cases h;rename_i q2;cases h;unfold a4K;rw[a0I e,q,q2];rfl;cases h
structure Sm {α:Type} (a b:α):Prop where
 e:a=b
inductive Nf (cb:Cb):(β:Type)→M β→M β→Prop
 | bv {β:Type} {m:M Value} {k k':Value→M β}:(∀ v,Nf cb β (k v) (k' v))→Nf cb β (cb.bv β m k) (cb.bv β m k')
 | bj {β:Type} {m m':M R2} {k k':Xc→List Value→M β}:Nf cb R2 m m'→(∀ x l,Nf cb β (k x l) (k' x l))→Nf cb β (cb.bj β m k) (cb.bj β m' k')
 | lp {f f':List Value→M R2} {n:Nat} {x x':List Value}:Sm x x'→(∀ l,Nf cb R2 (f l) (f' l))→Nf cb R2 (cb.lp f n x) (cb.lp f' n x')
 | xc {β:Type} {x:Xc} {a a' c c':M β} {b b':Nat→M β} {d:Value→M β}:Nf cb β a a'→(∀ i,Nf cb β (b i) (b' i))→Nf cb β c c'→Nf cb β (U8 x a b c d) (U8 x a' b' c' d)
 | bs {β:Type} {b b':Bool} {x x' y y':M β}:Sm b b'→Nf cb β x x'→Nf cb β y y'→Nf cb β (bcase b x y) (bcase b' x' y')
 | gd {β:Type} {b:Bool} {m m':M β}:Nf cb β m m'→Nf cb β (M.guard b m) (M.guard b m')
 | pu {β:Type} {a a':β}:Sm a a'→Nf cb β (M.pure a) (M.pure a')
 | rf {β:Type} {a:M β}:Nf cb β a a
 | of {β:Type} {a b y:M β}:a=b→Nf cb β b y→Nf cb β a y
 | fu {β γ:Type} {a:M β} {m:M γ} {f f':γ→M β}:a=M.bind m f→(∀ y,Nf cb β (f y) (f' y))→Nf cb β a (M.bind m f')
 | fc {β:Type} {a:M β} {m:M CR} {f f' q:Value→M β}:a=cb.bc β m f q→(∀ y,Nf cb β (f y) (f' y))→Nf cb β a (cb.bc β m f' q)
 | fv {β:Type} {a:M β} {m:M Value} {f f':Value→M β}:a=cb.bv β m f→(∀ y,Nf cb β (f y) (f' y))→Nf cb β a (cb.bv β m f')
 | fm {β:Type} {a x y x' y':M β} {v:Value}:a=a5R v x y→Nf cb β x x'→Nf cb β y y'→Nf cb β a (a5R v x' y')
 | fp {β:Type} {a:M β} {v:Value} {f f':Addr→M β}:a=a0G v f→(∀ y,Nf cb β (f y) (f' y))→Nf cb β a (a0G v f')
 | fo {β γ:Type} {a:M β} {o:Option γ} {f f':γ→M β}:a=M.obind o f→(∀ y,Nf cb β (f y) (f' y))→Nf cb β a (M.obind o f')
theorem Nf.eq {a b}(h:Nf cb β a b):a=b:=by induction h with|bv _ ih=>rw[funext ih]|bj _ _ h ih=>rw[h,funext λx=>funext (ih x)]|lp h _ ih=>rw[funext ih,h.e]|xc _ _ _ h h1 h2=>rw[h,funext h1,h2]|bs hb _ _ h h'=>rw[hb.e,h,h']|gd _ h=>rw[h]|pu h=>rw[h.e]|rf=>rfl|of e _ h=>rw[e,h]|fu e _ h=>rw[e,funext h]|fc e _ h=>rw[e,funext h]|fv e _ h=>rw[e,funext h]|fm e _ _ h h'=>rw[e,h,h']|fp e _ h=>rw[e,funext h]|fo e _ h=>rw[e,funext h]
section
variable {y:M β}{m:M Value}{fr':List Value}{F:Value->List Value}{k':Value->M β}{vs:List Value}{v:Value}
theorem Nf.lf0 {f f' q:List Value->M R2}{n x x'}(h:∀l,f' l=q l)(hx:Sm x x')(hk:∀l,Nf cb R2 (f l) (q l)):Nf cb R2 (cb.lp f n x) (cb.lp f' n x'):=by rw[hx.e,funext h];exact .lp ⟨rfl⟩ hk
theorem Nf.lf1 {A:Type}{a}{f:List Value->M R2}{f' q:A->List Value->M R2}{n x x'}(h:∀a l,f' a l=q a l)(hx:Sm x x')(hk:∀l,Nf cb R2 (f l) (q a l)):Nf cb R2 (cb.lp f n x) (cb.lp (f' a) n x'):=.lf0 (h a) hx hk
theorem Nf.lf2 {A B:Type}{a b}{f:List Value->M R2}{f' q:A->B->List Value->M R2}{n x x'}(h:∀a b l,f' a b l=q a b l)(hx:Sm x x')(hk:∀l,Nf cb R2 (f l) (q a b l)):Nf cb R2 (cb.lp f n x) (cb.lp (f' a b) n x'):=.lf0 (h a b) hx hk
theorem Nf.lf3 {A B C:Type}{a b c}{f:List Value->M R2}{f' q:A->B->C->List Value->M R2}{n x x'}(h:∀a b c l,f' a b c l=q a b c l)(hx:Sm x x')(hk:∀l,Nf cb R2 (f l) (q a b c l)):Nf cb R2 (cb.lp f n x) (cb.lp (f' a b c) n x'):=.lf0 (h a b c) hx hk
theorem b5z {o}(h:b4P o=true)(hm:Sm (O7 p T fr o) m)(hf:∀v,Sm (a5O d fr v) (F v))(hk:∀v,Nf cb β (a0p p T cb false call os (F v) k) (k' v)):Nf cb β (a0p p T cb false call (⟨d,o,ty,pos,af,g⟩::os) fr k) (cb.bv β m k'):=.fv ((d1Y h).trans (by rw[hm.e])) λv=>xM
theorem b3G {b a ts}(hm:Sm (a0N p T fr b a ts) m)(hf:∀v,Sm (a5O d fr v) (F v))(hk:∀v,Nf cb β (a0p p T cb false call os (F v) k) (k' v)):Nf cb β (a0p p T cb false call (⟨d,.call ⟨.builtin b,a,ts⟩,ty,pos,af,g⟩::os) fr k) (cb.bv β m k'):=.fv (c9r.trans (by rw[hm.e])) λv=>xM
theorem c1L {f:Nat}{a ts}(h:okL T a.toList=true)(hv:Sm (vL fr a.toList) vs)(hf:∀v,Sm (a5O d fr v) (F v))(hk:∀v,Nf cb β (a0p p T cb false call os (F v) k) (k' v)):Nf cb β (a0p p T cb false call (⟨d,.call ⟨.value (.func f),a,ts⟩,ty,pos,af,g⟩::os) fr k) (cb.bc β (call f vs) k' noP):=.fc ((e0G h).trans (by rw[hv.e])) λv=>xM
theorem b7U {t a ts}(h:okL T a.toList=true)(hw:Sm (C9 fr t) v)(hv:Sm (vL fr a.toList) vs)(hf:∀v,Sm (a5O d fr v) (F v))(hk:∀v,Nf cb β (a0p p T cb false call os (F v) k) (k' v)):Nf cb β (a0p p T cb false call (⟨d,.call ⟨.value (.tmp t),a,ts⟩,ty,pos,af,g⟩::os) fr k) (M.obind (b1f v vs) λga=>cb.bc β (call ga.1 ga.2) k' noP):=.fo ((d5C (f:=.tmp t) rfl h).trans (by rw[<-hw.e,<-hv.e];rfl)) λga=>.fc rfl λv=>xM
theorem c0O {x}(h:okO T x=true)(hv:Sm (a5O d fr (vO fr x)) fr')(hk:Nf cb β (a0p p T cb false call os fr' k) y):Nf cb β (a0p p T cb false call (⟨d,.move x,ty,pos,af,g⟩::os) fr k) y:=.of ((e0Y h).trans (by rw[hv.e])) hk
theorem b4Y {x}(h:okO T x=true)(hv:Sm (a5O d fr (vO fr x)) fr')(hk:Nf cb β (a0p p T cb false call os fr' k) y):Nf cb β (a0p p T cb false call (⟨d,.assign x,ty,pos,af,g⟩::os) fr k) y:=.of ((d2k h).trans (by rw[hv.e])) hk
theorem b7T {x}(h:okO T x=true)(hv:Sm (vO fr x) v):Nf cb β (a0p p T cb false call (⟨d,.panic x,ty,pos,af,g⟩::os) fr k) (M.guard (a5e v) M.fail):=.of ((d7C h).trans (by rw[hv.e])) .rf
theorem c1z {x x' y'}(h:okO T x=true)(hv:Sm (vO fr x) v)(h1:Nf cb β (O1 p T cb false N call a pl.a β fr k) x')(h2:Nf cb β (O1 p T cb false N call b pl.b β fr k) y'):Nf cb β (O1 p T cb false N call (.cond x a b) pl β fr k) (a5R v x' y'):=.fm (by show M.obind (X7 T fr x) _=_;rw[a5u h,hv.e];rfl) h1 h2
theorem b7v {x x' y'}(h:okO T x=true)(hv:Sm (vO fr x) v)(h1:Nf cb β (O1 p T cb false N call a .d β fr k) x')(h2:Nf cb β (O1 p T cb false N call b .d β fr k) y'):Nf cb β (O1 p T cb false N call (.cond x a b) .d β fr k) (a5R v x' y'):=c1z (pl:=.d) h hv h1 h2
theorem b7e {x j x' y'}(h:okO T x=true)(hv:Sm (vO fr x) v)(h1:Nf cb β (O1 p T cb false N call a pa β fr k) x')(h2:Nf cb β (O1 p T cb false N call b pb β fr k) y'):Nf cb β (O1 p T cb false N call (.cond x a b) (.s j pa pb) β fr k) (a5R v x' y'):=c1z (pl:=.s j pa pb) h hv h1 h2
theorem b7q {x x' y'}(h:okO T x=true)(hv:Sm (vO fr x) v)(h1:Nf cb β (O1 p T cb false N call a pa β fr k) x')(h2:Nf cb β (O1 p T cb false N call b .d β fr k) y'):Nf cb β (O1 p T cb false N call (.cond x a b) (.l W pa) β fr k) (a5R v x' y'):=c1z (pl:=.l W pa) h hv h1 h2
theorem b7n {x t:Nat}{k}{k':Addr->Value->M β}(h:a8W T t=some none)(hv:Sm (C9 fr x) v)(hk:∀a w,Nf cb β (a3M T cb fr rs λvs=>k (w::vs)) (k' a w)):Nf cb β (a3M T cb fr (.cell x t::rs) k) (a0G v λa=>cb.bv β (M.bind (loadN a 1) λq=>M.pure (C9 q 0)) λw=>k' a w):=.fp ((c9p h).trans (by rw[hv.e])) λa=>.bv (hk a)
theorem b7R {x t n:Nat}{k}{k':Addr->Value->M β}(h:a8W T t=some (some n))(hv:Sm (C9 fr x) v)(hk:∀a w,Nf cb β (a3M T cb fr rs λvs=>k (w::vs)) (k' a w)):Nf cb β (a3M T cb fr (.cell x t::rs) k) (a0G v λa=>cb.bv β (M.bind (loadN a n) λq=>M.pure (.agg ⟨q⟩)) λw=>k' a w):=.fp ((c8C h).trans (by rw[hv.e])) λa=>.bv (hk a)
variable {c:Nat->List Value->M Value}{ops:List Oper}{G:List a1Q}{q:List Value->List a1Q->M β}{o:Op}{H:Value×a1Q->List Value}{A:Value×a1Q->List a1Q}{f':Value×a1Q->M β}
theorem c7B (hm:Sm (Z0 p T c fr o) m)(hf:∀x,Sm (a5O d fr x.1) (H x))(hA:∀x,Sm (D7 G [x.2]) (A x))(hk:∀x,Nf cb β (a3e p T c ops os (H x) (A x) q) (f' x)):Nf cb β (a3e p T c ops (⟨d,o,ty,pos,af,none⟩::os) fr G q) (M.bind (M.foot m) f'):=.fu (d5X.trans (by rw[hm.e])) λx=>by rw[(hf _).e,(hA _).e];exact hk x
theorem c7u {j t:Nat}{b}(h:a4l ops j=some t)(hv:Sm (C9 fr t) v)(hm:Sm (Z0 p T c fr o) m)(hf:∀x,Sm (a5O d fr x.1) (H x))(hA:∀x,Sm (D7 G [x.2]) (A x))(hk:∀x,Nf cb β (a3e p T c ops os (H x) (A x) q) (f' x)):Nf cb β (a3e p T c ops (⟨d,o,ty,pos,af,some (j,b)⟩::os) fr G q) (M.bind (bcase (a1O b v) (M.foot m) (M.pure (undef,([],[])))) f'):=.fu ((d6b h).trans (by rw[hm.e,hv.e])) λx=>by rw[(hf _).e,(hA _).e];exact hk x
end
end
end Go.V
end
section
noncomputable section
namespace Go.V
def go {α:Type}(m:M α)(s:S):Option (α×S):=m s
def R8 {α β:Type}(x:Option (α×S))(f:α->M β):Option (β×S):=match x with|none=>none|some y=>go (f y.1) y.2
theorem J8 {α β}(m)(f:α->M β)(s):go (M.bind m f) s=R8 (go m s) f:=wJ rfl rfl
theorem J3 {α β}(a s)(f:α->M β):R8 (some (a,s)) f=go (f a) s:=wJ rfl rfl
theorem b2e {α β}(f:α->M β):R8 none f=none:=wJ rfl rfl
theorem y7 {α β x y}(f:α->M β)(h:x=y):R8 x f=R8 y f:=by rw[h]
theorem x9 {α b b'}(x y:α)(h:b=b'):bcase b x y=bcase b' x y:=by rw[h]
theorem Z9 {α}(a:α)(s):go (M.pure a) s=some (a,s):=wJ rfl rfl
theorem a9U {α}(s):go (M.fail:M α) s=none:=wJ rfl rfl
theorem b7k {α}(a:α)(s):go (M.lift (some a)) s=some (a,s):=wJ rfl rfl
theorem I4 {β}(v)(kn kp:Value->M β):a1s (.ret v) kn kp=kn v:=wJ rfl rfl
theorem a2p {β}(b)(x y:M β)(s):go (bcase b x y) s=bcase b (go x s) (go y s):=zi
theorem a5E {β}(b)(a a':β)(c h r r' w w'):bcase b (some (a,(⟨c,h,r,w⟩:S))) (some (a',⟨c,h,r',w'⟩))=some (bcase b a a',⟨c,h,bcase b r r',bcase b w w'⟩):=zi
theorem a0g {α}(b)(x:α):bcase b x x=x:=zi
theorem a7r (k n):(Value.int k n).cells.toList=[.int k n]:=wJ rfl rfl
theorem a6E (b):(Value.bool b).cells.toList=[.bool b]:=wJ rfl rfl
theorem a3N (s):(Value.string s).cells.toList=[.string s]:=wJ rfl rfl
theorem a4B (a n e):(Value.slice a n e).cells.toList=[.slice a n e]:=wJ rfl rfl
theorem a3Y (a):(Value.pointer a).cells.toList=[.pointer a]:=wJ rfl rfl
theorem a5l (f a b):(Value.func f a b).cells.toList=[.func f a b]:=wJ rfl rfl
theorem a2v (l):(Value.agg ⟨l⟩).cells.toList=l:=wJ rfl rfl
theorem a9V (k n):O4 (.int k n)=true:=wJ rfl rfl
theorem a8G (b):O4 (.bool b)=true:=wJ rfl rfl
theorem a5d (s):O4 (.string s)=true:=wJ rfl rfl
theorem a7t (a n e):O4 (.slice a n e)=true:=wJ rfl rfl
theorem a5F (a):O4 (.pointer a)=true:=wJ rfl rfl
theorem a8t (f a b):O4 (.func f a b)=true:=wJ rfl rfl
theorem b0I (k n):a7R (.int k (.ofNat n))=some n:=wJ rfl rfl
theorem b6B (n):Nat.beq (n+1) 0=false:=wJ rfl rfl
theorem b6F (n):Nat.beq 0 (n+1)=false:=wJ rfl rfl
theorem b6E (n m):Nat.beq (n+1) (m+1)=Nat.beq n m:=wJ rfl rfl
theorem c1S (n m):Nat.ble (n+1) (m+1)=Nat.ble n m:=wJ rfl rfl
theorem c0u (n):Nat.ble (n+1) 0=false:=wJ rfl rfl
theorem Y4 (a b:Nat)(h:a≠b):Nat.beq a b=false:=X9 h
theorem a3K (a:Nat):Nat.ble a a=true:=uG (wQ _)
def ldS {γ:Type}(lt:Bool)(ob:Option VObj)(o g n:Nat)(k:List Value->Option γ):Option γ:=match lt with
 |true=>match ob with
  |some (.cells cs _ _)=>match y8 g (H9 cs o) n with|some vs=>k vs|none=>none
  |_=>none
 |false=>none
def oS {α γ:Type}(x:Option α)(k:α->Option γ):Option γ:=match x with|some a=>k a|none=>none
theorem a1B {α γ}(a)(k:α->Option γ):oS (some a) k=k a:=wJ rfl rfl
theorem D5 {α γ x y}(k:α->Option γ)(h:x=y):oS x k=oS y k:=by rw[h]
theorem a0h {γ}(cs cur ro o g n)(k:List Value->Option γ):ldS true (some (.cells cs cur ro)) o g n k=oS (y8 g (H9 cs o) n) k:=by grind[ldS,oS]
theorem A8 {γ lt lt' ob ob'}(o g n)(k:List Value->Option γ)(h1:lt=lt')(h2:ob=ob'):ldS lt ob o g n k=ldS lt' ob' o g n k:=by rw[h1,h2]
section
variable (c:Nat)(h:Trie VObj)(r w:List Nat)
theorem a1u (b o g n):go (loadN ⟨b,o,some g⟩ n) ⟨c,h,r,w⟩=ldS (Nat.blt b c) (h.get b) o g n λvs=>some (vs,⟨c,h,b::r,w⟩):=by unfold go loadN ldS;simp only[E8,V.M.bind,rd];cases Nat.blt b c with|false=>rfl|true=>cases h.get b with|none=>rfl|some ob=>cases ob with|cells cs cur ro=>simp only[a5A,M.lift];cases y8 g (H9 cs o) n<;>rfl|_=>rfl
theorem b7p {γ δ}(lt ob o g n k)(f:Option γ->Option δ)(hf:f none=none):f (ldS lt ob o g n k)=ldS lt ob o g n λvs=>f (k vs):=by unfold ldS;grind
theorem a3f (b o g):go (a9j (.pointer (some ⟨b,o,some g⟩))) ⟨c,h,r,w⟩=ldS (Nat.blt b c) (h.get b) o g 1 λvs=>some (C9 vs 0,⟨c,h,b::r,w⟩):=by unfold a9j;rw[a4k,J8,a1u];exact b7p _ _ _ _ _ _ (λx=>R8 x λvs=>M.pure (C9 vs 0)) rfl
theorem a7D (n b o g):go (b3f n (.pointer (some ⟨b,o,some g⟩))) ⟨c,h,r,w⟩=ldS (Nat.blt b c) (h.get b) o g n λvs=>some (.agg ⟨vs⟩,⟨c,h,b::r,w⟩):=by unfold b3f;rw[a4k,J8,a1u];exact b7p _ _ _ _ _ _ (λx=>R8 x λvs=>M.pure (Value.agg ⟨vs⟩)) rfl
def stS {γ:Type}(lt:Bool)(ob:Option VObj)(o g:Nat)(vs:List Value)(k:List (Value×Nat)->Nat->Bool->Option γ):Option γ:=match lt with
 |true=>match ob with
  |some (.cells cs cur ro)=>match Nat.beq g cur&& !ro&&J2 O4 vs&&Nat.ble (o+x8 vs) (x8 cs)with
   |true=>match a2b g vs cs o with|some cs'=>k cs' cur ro|none=>none
   |false=>none
  |_=>none
 |false=>none
theorem a4W {γ}(cs)(cur:Nat)(ro)(o g:Nat)(vs)(k:List (Value×Nat)->Nat->Bool->Option γ)(e:(Nat.beq g cur&& !ro&&J2 O4 vs&&Nat.ble (o+x8 vs) (x8 cs))=true):stS true (some (.cells cs cur ro)) o g vs k=oS (a2b g vs cs o) λcs'=>k cs' cur ro:=by grind[stS,oS]
theorem A7 {γ lt lt' ob ob'}(o g vs)(k:List (Value×Nat)->Nat->Bool->Option γ)(h1:lt=lt')(h2:ob=ob'):stS lt ob o g vs k=stS lt' ob' o g vs k:=by rw[h1,h2]
theorem c8N (b o g vs):go (storeN ⟨b,o,some g⟩ vs) ⟨c,h,r,w⟩=stS (Nat.blt b c) (h.get b) o g vs λcs' cur ro=>some ((),⟨c,upd h b (.cells cs' cur ro),b::r,b::w⟩):=by
 unfold storeN stS;simp only[E8];rw[J8];show R8 (rd b ⟨c,h,r,w⟩) _=_;rw[b3I];cases hb:Nat.blt b c with
  |false=>rfl|true=>
   cases ho:h.get b with
    |none=>rfl|some ob=>
     cases ob with
      |cells cs cur ro=>simp only[J3,a5A];cases Nat.beq g cur&& !ro&&J2 O4 vs&&Nat.ble (o+x8 vs) (x8 cs)with|false=>rfl|true=>simp only[P8];cases a2b g vs cs o with|none=>rfl|some cs'=>simp only[E8,Z6];show wr b _ _=_;rw[b2N,hb,ho]
      |_=>rfl
theorem a6l (n b o g:Nat)(v)(e2:(!(Nat.beq n 0)&&Nat.beq (x8 v.cells.toList) n)=true):go (b6A n (.pointer (some ⟨b,o,some g⟩)) v) ⟨c,h,r,w⟩=stS (Nat.blt b c) (h.get b) o g v.cells.toList λcs' cur ro=>some (undef,⟨c,upd h b (.cells cs' cur ro),b::r,b::w⟩):=by
 unfold b6A;rw[a4k,J8,e2,P8,c8N];generalize v.cells.toList=l;unfold stS;cases Nat.blt b c with
  |false=>rfl|true=>
   cases h.get b with
    |none=>rfl|some ob=>
     cases ob with
      |cells cs cur ro=>simp only;cases Nat.beq g cur&& !ro&&J2 O4 l&&Nat.ble (o+x8 l) (x8 cs)with|false=>rfl|true=>simp only;cases a2b g l cs o<;>rfl
      |_=>rfl
theorem a1T (vs)(e:J2 O4 vs=true):go (Y7 vs) ⟨c,h,r,w⟩=some (⟨c,0,some 0⟩,⟨c+1,upd h c (.cells (U0 (λv=>(v,0)) vs) 0 false),r,c::w⟩):=by unfold Y7;rw[e,P8,Z6,J8];show R8 (new _ _) _=_;rw[c4N];rfl
theorem b0D (zs)(e:J2 O4 zs=true):go (d3D zs) ⟨c,h,r,w⟩=some (.pointer (some ⟨c,0,some 0⟩),⟨c+1,upd h c (.cells (U0 (λv=>(v,0)) zs) 0 false),r,c::w⟩):=by unfold d3D;rw[J8,a1T c h r w zs e];rfl
theorem e0r (v l)(hv:v.cells.toList=l)(e:(J2 O4 l&& !(a2C l))=true):go (b3t v) ⟨c,h,r,w⟩=some (.pointer (some ⟨c,0,some 0⟩),⟨c+1,upd h c (.cells (U0 (λv=>(v,0)) l) 0 false),r,c::w⟩):=by rw[wK]at e;unfold b3t;rw[hv,e.2,P8,J8,a1T c h r w l e.1];rfl
theorem a4p (l)(e:(J2 O4 l&& !(a2C l))=true):go (b3t (.agg ⟨l⟩)) ⟨c,h,r,w⟩=some (.pointer (some ⟨c,0,some 0⟩),⟨c+1,upd h c (.cells (U0 (λv=>(v,0)) l) 0 false),r,c::w⟩):=e0r c h r w _ l rfl e
theorem a9Q (n len os vs zs):go (b5B n len os vs zs) ⟨c,h,r,w⟩=oS (a6X os vs zs) λcs=>bcase (J2 O4 cs) (some (.slice (some ⟨c,0,some 0⟩) len n,⟨c+1,upd h c (.cells (U0 (λv=>(v,0)) cs) 0 false),r,c::w⟩)) none:=by unfold b5B;cases a6X os vs zs with|none=>rfl|some cs=>rw[E8,J8,a1B];cases e:J2 O4 cs with|true=>rw[a1T c h r w cs e];rfl|false=>show Go.V.R8 (Y7 cs ⟨c,h,r,w⟩) _=none;unfold Y7;rw[e];rfl
end
theorem a4i (os vs zs):c8Y os vs zs=M.obind (a6X os vs zs) λcs=>M.pure (.agg ⟨cs⟩):=wJ rfl rfl
theorem a9n (vs zs):a6X [] vs zs=some zs:=by cases vs<;>rfl
theorem a9L (q os v vs zs)(e:(Nat.beq (x8 v.cells.toList) q.2&&Nat.ble (q.1+q.2) (x8 zs))=true):a6X (q::os) (v::vs) zs=a6X os vs (a2Y v.cells.toList zs q.1):=by show(match Nat.beq (x8 v.cells.toList) q.2&&Nat.ble (q.1+q.2) (x8 zs)with|true=>a6X os vs (a2Y v.cells.toList zs q.1)|false=>none)=_;rw[e]
theorem b2A (vs c cs):a2Y vs (c::cs) 0=a6r vs (c::cs):=wJ rfl rfl
theorem b4O (vs c cs n):a2Y vs (c::cs) (n+1)=c::a2Y vs cs n:=wJ rfl rfl
theorem a7W (cs):a6r [] cs=cs:=wJ rfl rfl
theorem a6Z (v vs c cs):a6r (v::vs) (c::cs)=v::a6r vs cs:=wJ rfl rfl
theorem a5M (off b o g):xFA off (.pointer (some ⟨b,o,g⟩))=M.pure (.pointer (some ⟨b,o+off,g⟩)):=wJ rfl rfl
theorem b4X (a):e0u (.pointer (some a))=M.pure (.pointer (some a)):=wJ rfl rfl
theorem S9 (a n e):b6c (.slice a n e)=M.pure (.int .i64 (.ofNat n)):=wJ rfl rfl
theorem c1w (l off n):xFN off n (.agg ⟨l⟩)=M.pure (.agg ⟨a0x (H9 l off) n⟩):=wJ rfl rfl
theorem b1W (fn va vb):d5j fn va vb=M.pure (.func fn ⟨va⟩ ⟨vb⟩):=wJ rfl rfl
theorem a0S (k k' n):c2x k (.int k' n)=M.pure (.int k (Q0 k n)):=wJ rfl rfl
theorem a1C (n i len k b o g)(e:i<len)(e2:n≠0):a7i n (.slice (some ⟨b,o,g⟩) len n) (.int k (.ofNat i))=M.pure (.pointer (some ⟨b,o+i*n,g⟩)):=by unfold a7i elemAtN;simp only[b0I,E8,R5,P8,I7 e,X9 e2];rfl
theorem c8X (x y)(e:x8 x+x8 y<a3W):b3U .add x y=some (.string ⟨⟨D7 x y⟩⟩):=by show(match Nat.blt (x8 x+x8 y) a3W with|true=>fList (D7 x y) λl=>some (Value.string ⟨⟨l⟩⟩)|false=>none)=_;rw[I7 e];simp only[Z6]
section
variable (p:Program)(T:Tab)
theorem a7A (t x y s s'):a0M p T .eql t x y (.string s) (.string s')=M.pure (.bool (beqBytes s.data.toList s'.data.toList)):=wJ rfl rfl
theorem M6 (t x y s s'):a0M p T .neq t x y (.string s) (.string s')=M.pure (.bool (!(beqBytes s.data.toList s'.data.toList))):=wJ rfl rfl
theorem a2e (t x y s s')(e:x8 s.data.toList+x8 s'.data.toList<4294967296):a0M p T .add t x y (.string s) (.string s')=M.pure (.string ⟨⟨D7 s.data.toList s'.data.toList⟩⟩):=by show M.lift (b3U .add s.data.toList s'.data.toList)=_;rw[c8X _ _ e];rfl
end
end Go.V
namespace Go.V
theorem a5a {α}(l:List α)(a b):H9 l (a+b)=H9 (H9 l a) b:=by rw[a0D,a0D,a0D,oq]
theorem Y8 {σ}(body:σ->M (Xc×σ))(n x s):go (U4 body (n+1) x) s=R8 (go (body x) s) λr=>U8 r.1 (U4 body n r.2) (λid=>M.pure (.exit id,r.2)) (M.pure (.ret,r.2)) (λv=>M.pure (.pan v,r.2)):=wJ rfl rfl
theorem l9.cases {α b}{x y:Option (α×S)}{Q}(h1:b=true->l9 x Q)(h2:b=false->l9 y Q):l9 (bcase b x y) Q:=by cases b with|true=>exact h1 rfl|false=>exact h2 rfl
theorem l9.bindS {α β:Type}{x:Option (α×S)}{f:α->M β}{P:α->S->Prop}{Q:β->S->Prop}(h:l9 x P)(k:∀a s',P a s'->l9 (go (f a) s') Q):l9 (R8 x f) Q:=by obtain⟨a,s',rfl,p⟩:=h;exact k a s' p
theorem l9.done {α}{a:α}{s Q}(h:Q a s):l9 (Option.some (a,s)) Q:=⟨a,s,rfl,h⟩
theorem c3G {α β}(b x y)(f:α->M β):R8 (bcase b x y) f=bcase b (R8 x f) (R8 y f):=zi
theorem a0U:(!true)=false:=rfl
theorem a0E:(!false)=true:=rfl
theorem b1P (b:Bool):(b&&b)=b:=uf b
theorem a8q (b:Bool):(true&&b)=b:=uL b
theorem a3J (b:Bool):(b&&true)=b:=sj b
theorem a8S (n:Nat):0+n=n:=vV n
end Go.V
end
section
namespace Go.V
section
variable {P:Program}
theorem a3c {α β:Type}(x:Sem α)(f:α->Sem β):a0J P (x>>=f)=match a0J P x with|some a=>a0J P (f a)|none=>none:=by show a0J P (x.bind f)=_;induction x with|pure a=>rfl|program k ih=>exact ih P|mark m k ih=>exact ih|_=>rfl
theorem b1n {α}(a):a0J P (pure a:Sem α)=some a:=rfl
theorem b2c:a0J P program=some P:=rfl
theorem a9x {t d}(h:P.underlying t=some d):a0J P (underlying t)=some d:=by unfold underlying;rw[a3c,b2c];simp only[h];rfl
theorem c4a {t k}(h:P.underlying t=some (.int k))(cs off v)(hv:cs[off]?=some v):a0J P (part t cs off)=some v:=by grind[part,isAgg,a3c,a9x,b1n]
theorem d2N (d){t k' k}(h:P.underlying t=some (.int k'))(a b):a0J P (Op.equalIn (d+1) t (.int k a) (.int k b))=some (a==b):=by unfold Op.equalIn;rw[a3c,a9x h];simp;rfl
def a7q (P:Program):List Field->Nat->List Int->List Int->List Value->List Value->Prop|[],_,[],[],_,_=>True|f::fs,o,a::aS9,b::bs,xs,ys=>f.name≠ "_"/\f.offset=o/\(∃k',P.underlying f.type=some (.int k'))/\(∃k,xs[o]?=some (.int k a)/\ys[o]?=some (.int k b))/\a7q P fs (o+1) aS9 bs xs ys|_,_,_,_,_,_=>False
def a8e:List Int->List Int->Bool|a::aS9,b::bs=>decide (a=b)&&a8e aS9 bs|_,_=>true
theorem c3D (d){t fs}(ht:P.underlying t=some (.struct fs))(hp:P.stoodInHeld t=false)(xs ys aS9 bs)(h:a7q P fs.toList 0 aS9 bs xs ys):a0J P (Op.equalIn (d+2) t (.agg ⟨xs⟩) (.agg ⟨ys⟩))=some (a8e aS9 bs):=by
 unfold Op.equalIn;rw[a3c,a9x ht];simp only[];rw[a3c,b2c];simp only[hp,uo,tO];rw[a3c,<-Array.forIn_toList];generalize fs.toList=l at h⊢;clear ht;revert h;generalize 0=o;induction l generalizing o aS9 bs with
  |nil=>grind[b1n,a8e,a7q]|cons f l ih=>
   intro h;cases aS9 with
    |nil=>grind[a7q]|cons a aS9=>
     cases bs with
      |nil=>grind[a7q]|cons b bs=>
       obtain⟨h1,rfl,⟨k',h3⟩,⟨k,h4,h5⟩,h6⟩:=h;have i1:=ih aS9 bs _ h6;rw[List.forIn_cons,a3c,vH h1,a3c,c4a h3 ⟨xs⟩ f.offset _ (by simpa using h4)];simp only[a3c,c4a h3 ⟨ys⟩ f.offset _ (by simpa using h5),d2N d h3];by_cases hab:a=b;have e:(!a==b)=false:=by simp[hab]
       rw[vN (by rw[e];decide)];simp only[b1n];rw[i1];show some (a8e aS9 bs)=some (decide (a=b)&&a8e aS9 bs);rw[wL hab,uL];have e:(!a==b)=true:=by simp[hab]
       rw[vH e];simp only[b1n];show some false=some (decide (a=b)&&a8e aS9 bs);rw[wP hab,uU]
theorem b7Z (op t x y xs ys)(hm:P.eqGuardType P.depth t=false):a0J P (eqGuard op t x y (.agg xs) (.agg ys))=some ():=by cases op<;>simp only[eqGuard,ug,si,uo,pz,tO,b1n,a3c,b2c,hm]<;>rfl
theorem c3o {T op}(hop:op=.eql\/op=.neq){t x y fs}(ht:P.underlying t=some (.struct fs))(hp:P.stoodInHeld t=false)(hm:P.eqGuardType P.depth t=false){xs ys}{aS9 bs}(h:a7q P fs.toList 0 aS9 bs xs ys)(hx:K9 8 (.agg ⟨xs⟩)=true)(hy:K9 8 (.agg ⟨ys⟩)=true)(hT:∀d,T.types.get t=some d->d.und=.struct fs):a0M P T op t x y (.agg ⟨xs⟩) (.agg ⟨ys⟩)=M.pure (.bool (b5f op (a8e aS9 bs))):=by
 have hn:b1q T op t x y (.agg ⟨xs⟩) (.agg ⟨ys⟩)=none:=by unfold b1q;cases d1s op&&(isConstO x||isConstO y)with|false=>rfl|true=>cases hd:T.types.get t with|none=>rfl|some d=>simp only[hT d hd];rfl
 have e:=c3D (P:=P) 9998 ht hp xs ys aS9 bs h;show a9z P T op t x y (.agg ⟨xs⟩) (.agg ⟨ys⟩)=_;unfold a9z;rw[hn];simp only[hx,hy,uf,P8];have k:a0J P (do eqGuard op t x y (.agg ⟨xs⟩) (.agg ⟨ys⟩);binOp op t (.agg ⟨xs⟩) (.agg ⟨ys⟩))=some (.bool (b5f op (a8e aS9 bs))):=by rw[a3c,b7Z _ _ _ _ _ _ hm];rcases hop with rfl|rfl;simp only[binOp,Op.equal,Op.maxDepth];rw[a3c];rw[show(10000:Nat)=9998+2 from rfl,e];rfl;simp only[binOp,Op.equal,Op.maxDepth];rw[a3c];rw[show(10000:Nat)=9998+2 from rfl,e];rfl
 rw[k];rfl
end
end Go.V
end
section
noncomputable section
namespace Go.V
open Go.RowKit (Below)
section
variable {P:Program}{T:Tab}{vs:a2G}
theorem c1M {f:Nat}{g:List Value->Option Value}(hg:∀aS9 v,g aS9=some v->J2 (K9 8) aS9=true/\K9 8 v=true/\∀w,(callFunc f aS9.toArray).run P w=.ok (.value v) w):J9 P T vs f (λaS9=>M.lift (g aS9)):=by refine⟨λaS9=>Fr.lift _,?_⟩;intro B0 w0 hL hB aS9 s v s' w K as' h S hG F has;obtain⟨e1,rfl⟩:=a3i h;obtain⟨g1,g2,g3⟩:=hg aS9 v e1;rw[a9D has g1];exact Or.inl ⟨v,w,K,g3 w,Step.same S rfl,a0Y 8 v g2⟩
end
def b3d (bs:List Value):Option Value:=match bs with
 |[.int .u64 (.ofNat x),.int .u64 (.ofNat y),.int .u64 (.ofNat c)]=>match Nat.ble c 1 with|true=>some (.tuple ⟨[.int .u64 (.ofNat (Nat.mod (Nat.add (Nat.add x y) c) 18446744073709551616)),.int .u64 (.ofNat (Nat.div (Nat.add (Nat.add x y) c) 18446744073709551616))]⟩)|false=>none
 |_=>none
end Go.V
end
section
namespace Go.V
open Go.RowKit (Below)
section
variable {P:Program}{T:Tab}{vs:a2G}
noncomputable def b1s (cs:List Value)(n e:Nat)(aS9:List Value):M Value:=match aS9 with|[]=>M.bind (Y7 cs) λa=>M.pure (.slice (some a) n e)|_::_=>M.fail
theorem c0R (hT:TabOk P T)(hM:P.follows .mixedOrders=true)(hng:T.ng<=vs.length)(hp:∀l∈vs,∀v∈l,plain v=true){ext}(hE:a2B P T vs ext){N}{sh}(hs:a7T P T ext N sh){k f}{fn}{c}{s2}{b2 g2 n e cur}{cs}(hPf:P.funcs[f]?=some fn)(hnum:(fn.name== "runtime.NumGoroutine")=false)(hb:fn.body=some c)(h:o8 sh k f [] (a3d vs)=some (.ret (.slice (some ⟨b2,0,some g2⟩) n e),s2))(hcs:s2.h.get b2=some (.cells cs cur false))(hpl:J2 (λx=>plain x.1&&Nat.ble x.2 g2) cs=true):J9 P T vs f (b1s (U0 (·.1) cs) n e):=by
 refine⟨λaS9=>?_,?_⟩;cases aS9 with|nil=>show Fr (M.bind (Y7 (U0 (·.1) cs)) λa=>M.pure (Value.slice (some a) n e));grind[Fr.bind,Fr.newCells,Fr.pure]|cons a aS9=>exact Fr.fail
 intro B0 w0 hL hB aS9 s v s1 w K as' hg S hG F has;cases aS9 with
  |cons a aS9=>cases hg|nil=>
   have hg':M.bind (Y7 (U0 (·.1) cs)) (λa=>M.pure (Value.slice (some a) n e)) s=some (v,s1):=hg;obtain⟨a,s1',q1,q2⟩:=C8 hg';obtain⟨rfl,rfl⟩:=q9 q2;have e0:as'=[]:=uz.1 (by rw[has.len];rfl);subst e0;have hLw:=hL.below S.below hB;have hE':=hE w.heap.size ⟨w,λ_=>True⟩ hLw hLw.size;refine Or.inr ⟨V4 hPf hnum hb,?_⟩;rcases b0S hT hM hE' hs k f [] (a3d vs) _ s2 w (a6i vs) [] h (b0R (λ_ _=>trivial) (λ_ _=>trivial) hLw hp) (b1G hng) (λi hi _=>by rw[a1x];have:vs.length<=i:=yE;rw[vo this]) (VRL.nil _)with⟨v1,v',w',K',_,q1,_⟩|⟨_,q⟩;rw[V4 hPf hnum hb]at q1;cases q1;refine q.mono λe1 w' hq=>?_;obtain⟨v',K2,e2,st,r⟩:=hq;refine⟨v',?_⟩;obtain⟨h1,h2,h3,h4⟩:=b0h q1;generalize hz:Value.slice (some ⟨b2,0,some g2⟩) n e=z at r;cases r with
    |plain hpp=>grind[V.plain]|slice hk l1 l2 l3 l4 l5=>
     cases hz;rename_i l a';have hown:l.own=true:=((st.sim.gens b2 cs cur false hcs).1 g2 l hk).2 rfl;have hblk:=st.sim.own b2 g2 l hk hown;have hlo:l.lo=0:=ol.1 l1;have G:Grew w w':=⟨st.sim.below.os,st.sim.below.tape,st.sim.below.output,st.sim.below.size,st.sim.below.block⟩;have hK:∀g,K s.c g=none:=S.none (F s.c (wQ _) zy);have hsz:B0<=w.heap.size:=vQ S.size0.1 S.below.size;refine⟨K.put s.c 0 l,e2,⟨KM.le_put K _ (hK 0),λi g hi=>KM.put_other K _ (λq=>zy),?_⟩,?_⟩;refine b7a (o:=.cells ((U0 (·.1) cs).map λv=>(v,0)) 0 false) (a6q S G) hK h4 (st.sim.dom b2 g2 l hk) (vQ hsz hblk) hown (λb g l' q=>by have:=S.dom b g l' q;omega) ?_ (λes q=>ze) (λx pos q=>ze);intro cs' cur' ro' q;cases q;refine⟨rfl,rfl,λx hx=>?_,hlo,?_,?_⟩;grind;exact st.sim.room b2 g2 l cs cur false hk hown hcs;intro off v0 st0 q;rw[a0R,tC,vM]at q;cases hvo:cs[off]? with|none=>rw[hvo]at q;cases q|some y=>rw[hvo]at q;cases q;have hy:=(M4 _ _).1 hpl y (vP hvo);rw[wK]at hy;obtain⟨v1,c1,c2⟩:=st.sim.cells b2 cs cur false g2 l hcs hk off y.1 y.2 hvo (vT hy.2) zy;rw[c2.eq_of_plain hy.1]at c1;exact⟨y.1,by rw[hlo]at c1;exact c1,.plain hy.1⟩
     rw[h2];exact VR.slice (KM.put_same _ _ _ _) l1 l2 l3 l4 l5|_=>cases hz
theorem c3h {c m}:∀(n) (v),K9 n v=true->VRen c m v v:=by
 intro n;induction n with
  |zero=>intro v h;cases h|succ n ih=>
   intro v h;have key:∀l:List Value,J2 (K9 n) l=true->∀(i:Nat) (v w:Value),l[i]?=some v->l[i]?=some w->VRen c m v w:=λl hl i v w h1 h2=>by rw[h1]at h2;grind[M4]
   cases v with|agg cs=>exact .agg rfl (key _ h)|tuple cs=>exact .tuple rfl (key _ h)|iface t v=>exact .iface (ih v h)|_=>exact .plain h
theorem a7u (hT:TabOk P T)(hM:P.follows .mixedOrders=true){ext}(hE:a2B P T vs ext){N}{sh}(hs:a7T P T ext N sh){f}{fn}{cd}(hPf:P.funcs[f]?=some fn)(hnum:(fn.name== "runtime.NumGoroutine")=false)(hb:fn.body=some cd){g}(hFr:∀aS9,Fr (g aS9))(h:∀aS9 s v s1,g aS9 s=some (v,s1)->K9 8 v=true/\s1.c=s.c/\s1.h=s.h/\∀c,s.c<=c->∃n,l9 (go (o8 sh n f aS9) ⟨c,s.h,s.r,s.w⟩) λx s2=>x=.ret v/\∀i,i<c->s2.h.get i=s.h.get i):J9 P T vs f g:=by refine b4x hT hM hE hs hPf hnum hb hFr λaS9 s v s1 hg c' h1 h2 h3=>?_;obtain⟨q1,q2,q3,q4⟩:=h aS9 s v s1 hg;obtain⟨n,x,s2,e,rfl,hold⟩:=q4 c' h1;refine⟨n,v,s2,λ_=>none,e,⟨λi hi=>Or.inr ⟨by rw[q3],hold i hi.1⟩,λb b2 g2 hm=>(by cases hm),λb hb _=>?_,λb b' x x' hm=>(by cases hm)⟩,c3h 8 v q1,λi h1 h2=>hold i h2⟩;rw[q3];refine h3 b (oF λhlt=>hb ⟨hlt,λhx=>zy⟩)
theorem a1V (hT:TabOk P T)(hM:P.follows .mixedOrders=true){ext}(hE:a2B P T vs ext){N}{sh}(hs:a7T P T ext N sh){f}{fn}{cd}(hPf:P.funcs[f]?=some fn)(hnum:(fn.name== "runtime.NumGoroutine")=false)(hb:fn.body=some cd){g:List Value->Option Value}(h:∀aS9 v,g aS9=some v->K9 8 v=true/\∀c h r w,∃n,l9 (go (o8 sh n f aS9) ⟨c,h,r,w⟩) λx s2=>x=.ret v/\∀i,i<c->s2.h.get i=h.get i):J9 P T vs f (λaS9=>M.lift (g aS9)):=by refine a7u hT hM hE hs hPf hnum hb (λaS9=>Fr.lift _) λaS9 s v s1 hg=>?_;obtain⟨e,rfl⟩:=a3i hg;obtain⟨q1,q2⟩:=h aS9 v e;simp_all
theorem a4b {f}{g:List Value->Option Value}(h:∀aS9 v,g aS9=some v->J2 (K9 8) aS9=true/\K9 8 v=true/\a6W P vs f aS9 v):J9 P T vs f (λaS9=>M.lift (g aS9)):=by refine⟨λ_=>Fr.lift _,?_⟩;intro B0 w0 hL hB aS9 s v s' w K as' hg S hG F has;obtain⟨e1,e2⟩:=a3i hg;obtain⟨t1,t2,t3⟩:=h aS9 v e1;rw[a9D has t1];obtain⟨c1,c2⟩:=t3 w (hL.below S.below hB);refine Or.inr ⟨c1,c2.mono λe w' ⟨q1,q2⟩=>⟨v,K,q1,⟨KM.le_refl K,λ_ _ _=>rfl,?_⟩,a0Y 8 v t2⟩⟩;subst e2;exact a6q S ⟨q2.os,q2.tape,q2.output,q2.size,q2.block⟩
noncomputable def U5 (sh:a2t)(f:Nat)(g:List Value->M Value):a2t:=Trie.put (some (arX g)) (f+1) sh f
theorem c7W (sh f g i):(U5 sh f g).get i=if i=f then some (arX g)else sh.get i:=Trie.get_put _ _ _ _ (wE _) _
theorem d3M {ext N sh}(hs:a7T P T ext N sh)(f g):a7T P T (M5 ext f g) N (U5 sh f g):=by
 intro i q hi;rw[c7W]at hi;by_cases hif:i=f;subst hif;rw[vH rfl]at hi;cases hi;exact d3W (by unfold M5;rw[R5]);rw[vN hif]at hi;have h0:=hs i q hi;have e:M5 ext f g i=ext i:=by grind[M5,X9]
 grind[atF]
structure Shelf' (P:Program) (T:Tab) (vs:a2G) (N:Nat) (ext:Nat→Option (List Value→M Value)) (sh:a2t):Prop where
 e:a2B P T vs ext
 s:a7T P T ext N sh
theorem Shelf'.add {N ext sh}(L:Shelf' P T vs N ext sh){f g}(hg:J9 P T vs f g):Shelf' P T vs N (M5 ext f g) (U5 sh f g):=⟨a9T L.e hg,d3M L.s f g⟩
theorem a5o (sh n f aS9){q}(h:sh.get f=some q):o8 sh (n+1) f aS9=q (o8 sh n) aS9:=by grind[M.obind,o8]
theorem a4V (sh n f aS9){g}(h:sh.get f=some (arX g)):o8 sh (n+1) f aS9=M.bind (g aS9) λv=>M.pure (.ret v):=a5o sh n f aS9 h
theorem V8 (sh n f aS9){g:List Value->Option Value}{v}(h:sh.get f=some (arX λaS9=>M.lift (g aS9)))(e:g aS9=some v):o8 sh (n+1) f aS9=M.pure (.ret v):=by rw[a4V sh n f aS9 h,e];rfl
end
end Go.V
end
