import Derived.Test.YtmomonnlmbljoaaGreatDoorHaa
import Derived.Test.YtmomonnlmbljoaaGreatDoorHae
set_option maxRecDepth 1000000
set_option maxHeartbeats 4000000
set_option linter.unusedVariables false
set_option linter.unusedSimpArgs false
section
noncomputable section
namespace Go.V
theorem c2j {α}(l):∀k:List Value->α,b9r l k=k l:=by induction l with|nil=>intro k;rfl|cons x l ih=>intro k;show a5X x (λx=>b9r l λl=>k (x::l))=_;rw[a6b,ih]
theorem a4l:a1J=i7:=by
 unfold a1J i7;have h1:(λ(β:Type) (m:M Value) (k:Value->M β)=>M.bind m λv=>a5X v k)=λ_ m k=>M.bind m k:=by funext β m k;simp_all[a6b]
 have h2:(λ(β:Type) (m:M CR) (kn kp:Value->M β)=>M.bind m λr=>W4 r (λv=>a5X v kn) kp)=λ_ m kn kp=>M.bind m λr=>W4 r kn kp:=by funext β m kn kp;simp_all[a6b]
 have h3:c3q=I9:=by funext body n;grind[c3q,I9,c2j]
 have h4:(λ(β:Type) (m:M (Xc×List Value)) (k:Xc->List Value->M β)=>M.bind m λr=>b9r r.2 λxs=>k r.1 xs)=λ_ m k=>M.bind m λr=>k r.1 r.2:=by funext β m k;grind[c2j]
 rw[h1,h2,h3,h4]
def Le {α:Type}(m m':M α):Prop:=∀s r,m s=some r->m' s=some r
theorem Le.refl {α}(m:M α):Le m m:=λ_ _ h=>h
theorem Le.trans {α}{a b c:M α}(h:Le a b)(k:Le b c):Le a c:=λs r e=>k s r (h s r e)
theorem Le.fail {α}(m:M α):Le M.fail m:=λ_ _ h=>zl
theorem V1 {α β m}{f:α->M β}{s s1 a r}(h:m s=some (a,s1))(h':f a s1=some r):M.bind m f s=some r:=by grind[M.bind]
theorem Le.bind {α β m m'}{f f':α->M β}(h:Le m m')(k:∀a,Le (f a) (f' a)):Le (M.bind m f) (M.bind m' f'):=λs r e=>by obtain⟨a,s1,h1,h2⟩:=o7 (s2:=r.2) (b:=r.1) e;exact V1 (h s _ h1) (k a s1 _ h2)
theorem Le.obind {α β o}{f f':α->M β}(k:∀a,o=some a->Le (f a) (f' a)):Le (M.obind o f) (M.obind o f'):=by cases o with|none=>exact Le.fail _|some a=>exact k a rfl
theorem Le.obind_bind {α β γ o}{f:α->M γ}{f':α->M β}{g}(k:∀a,o=some a->Le (f a) (M.bind (f' a) g)):Le (M.obind o f) (M.bind (M.obind o f') g):=by cases o with|none=>exact Le.fail _|some a=>exact k a rfl
theorem Le.guard {α b}{m m':M α}(h:b=true->Le m m'):Le (M.guard b m) m':=by cases b with|true=>exact h rfl|false=>exact Le.fail _
theorem Z2 {α β γ}(m:M α)(f)(g:β->M γ):M.bind (M.bind m f) g=M.bind m λa=>M.bind (f a) g:=by funext s;grind[M.bind]
theorem e3y {α β}(a)(f:α->M β):M.bind (M.pure a) f=f a:=xK rfl rfl
theorem a7A {β γ}(x a b c d)(g:β->M γ):M.bind (J1 x a b c d) g=J1 x (M.bind a g) (λi=>M.bind (b i) g) (M.bind c g) (λv=>M.bind (d v) g):=by cases x<;>rfl
theorem a5b {β x}{a a':M β}{b b' c c' d d'}(h1:x=.normal->Le a a')(h2:∀i,x=.exit i->Le (b i) (b' i))(h3:x=.ret->Le c c')(h4:∀v,x=.pan v->Le (d v) (d' v)):Le (J1 x a b c d) (J1 x a' b' c' d'):=by cases x with|normal=>exact h1 rfl|exit i=>exact h2 i rfl|ret=>exact h3 rfl|pan v=>exact h4 v rfl
theorem c6c {β γ r}{kn kp:Value->M γ}{kn' kp':Value->M β}{g}(h1:∀v,Le (kn v) (M.bind (kn' v) g))(h2:∀v,Le (kp v) (M.bind (kp' v) g)):Le (W4 r kn kp) (M.bind (W4 r kn' kp') g):=by cases r with|ret v=>exact h1 v|pan v=>exact h2 v
theorem b5X (fr W):G3 fr W=W.map (r6 fr):=S9 _ _
theorem b6r (v vs W):∀(i) (fr),a3A (v::vs) W (Nat.succ i) fr=a3A vs W i fr:=by induction W with|nil=>intro i fr;rfl|cons t W ih=>intro i fr;exact ih (Nat.succ i) _
theorem b1Z (t W v vs fr):C5 (t::W) (v::vs) fr=C5 W vs (a2L fr t v):=b6r v vs W 0 _
theorem b4n (W):∀(fr' fr),fr'.length=fr.length->∀t,(C5 W (G3 fr' W) fr)[t]?=if t∈W then fr'[t]? else fr[t]?:=by induction W with|nil=>grind[C5,a3A]|cons u W ih=>intro fr' fr hl t;have e:G3 fr' (u::W)=r6 fr' u::G3 fr' W:=rfl;rw[e,b1Z,ih fr' (a2L fr u (r6 fr' u)) (by rw[a7D];grind) t];by_cases h1:t∈W;rw[wT h1,wT (wY _ h1)];rw[wX h1,a7D,uH];by_cases h2:u=t;subst h2;rw[wT rfl,wT wH,a1Y];grind;grind
theorem a1i {W fr' fr}(hl:fr'.length=fr.length)(h:∀t,t∉W->fr'[t]?=fr[t]?):C5 W (G3 fr' W) fr=fr':=by apply wE;simp_all[b4n]
theorem b4w (vs W):∀(i) (fr),(a3A vs W i fr).length=fr.length:=by induction W with|nil=>intro i fr;rfl|cons u W ih=>intro i fr;show(a3A vs W (Nat.succ i) (a2L fr u (r6 vs i))).length=_;rw[ih,a7D];simp
theorem b6v (W vs fr):(C5 W vs fr).length=fr.length:=b4w vs W 0 fr
theorem a5N {α b}{m m':M α}(h:Le m m'):Le (bcase b m M.fail) m':=by cases b with|true=>exact h|false=>exact Le.fail _
section
variable {p:Program}{T:Tab}{call:A8}{pn:Bool}
theorem d0b {β γ fr o}{kn kp:Value->M γ}{kn' kp':Value->M β}{g}(h1:∀v,Le (kn v) (M.bind (kn' v) g))(h2:∀v,Le (kp v) (M.bind (kp' v) g)):Le (a1T p T i7 call fr o kn kp) (M.bind (a1T p T i7 call fr o kn' kp') g):=by
 have hs:∀m:M Value,Le (i7.bv γ m kn) (M.bind (i7.bv β m kn') g):=λm=>by show Le (M.bind m kn) (M.bind (M.bind m kn') g);rw[Z2];exact Le.bind (Le.refl _) h1
 unfold a1T;split;grind[Le.obind_bind];grind[Le.obind_bind];split;refine Le.obind_bind λga _=>?_;show Le (M.bind (call ga.1 ga.2) λr=>W4 r kn kp) (M.bind (M.bind (call ga.1 ga.2) λr=>W4 r kn' kp') g);rw[Z2];grind[Le.bind,Le.refl,c6c];exact hs _;exact Le.fail _;refine Le.obind_bind λv _=>?_;cases hb:a3i v with|true=>exact h2 v|false=>exact Le.fail _
 grind
theorem a2U (ops:List Oper)(o:Oper)(os:List Oper)(fr:List Value):a3k p T call ops (o::os) fr=match Y2 ops fr o with|true=>a1T p T i7 call fr o.op (λv=>a3k p T call ops os (G2 fr o v)) (λv=>M.pure (.pan v,fr))|false=>a3k p T call ops os (G2 fr o undef):=rfl
theorem c6d (cb){β}(o os fr)(k:Xc->List Value->M β):P0 p T cb pn call (o::os) fr k=a1T p T cb call fr o.op (λv=>P0 p T cb pn call os (G2 fr o v) k) (λv=>bcase pn (k (.pan v) fr) M.fail):=rfl
theorem c2a {β}(ops g)(hw:∀(fr) (o),o.guard=g->(∀jb,g=some jb->∀t,a2n ops jb.1=some t->Y6 jb.2 (r6 fr t)=true)->Y2 ops fr o=true):∀(os),(∀o∈os,o.guard=g)->(∀jb,g=some jb->∃t,a2n ops jb.1=some t/\t∉E1 os)->∀(fr),(∀jb,g=some jb->∀t,a2n ops jb.1=some t->Y6 jb.2 (r6 fr t)=true)->∀(k k':Xc->List Value->M β),(∀x fr,Le (k x fr) (k' x fr))->Le (P0 p T i7 pn call os fr k) (M.bind (a3k p T call ops os fr) λr=>k' r.1 r.2):=by
 intro os;induction os with
  |nil=>intro _ _ fr _ k k' hk;exact hk _ _|cons o os ih=>
   intro ho hd fr hb k k' hk;rw[c6d,a2U,hw fr o (ho o wH) hb];refine d0b (λv=>?_) (λv=>a5N (hk _ _));refine ih (λx hx=>ho x (wY _ hx)) (λjb e=>?_) _ (λjb e t ht=>?_) k k' hk;grind[E1];obtain⟨t',h1,h2⟩:=hd jb e;rw[ht]at h1;cases h1;have h2':t∉(match o.dst with|some u=>u::E1 os|none=>E1 os):=h2;have e2:r6 (G2 fr o v) t=r6 fr t:=by apply a3x;rw[a0L];rw[wX];grind[a0G]
   rw[e2];simp_all
theorem c6K {ops fr o}(h:o.guard=none):Y2 ops fr o=true:=by grind[Y2]
theorem b6h {ops fr o jb}{t:Nat}(h:o.guard=some jb)(ht:a2n ops jb.1=some t):Y2 ops fr o=Y6 jb.2 (r6 fr t):=by grind[Y2]
theorem c0w (ops r):∀(l) (fr),a3k p T call ops (l++r) fr=M.bind (a3k p T call ops l fr) λx=>J1 x.1 (a3k p T call ops r x.2) (λid=>M.pure (.exit id,x.2)) (M.pure (.ret,x.2)) (λv=>M.pure (.pan v,x.2)):=by
 intro l;induction l with
  |nil=>intro fr;rfl|cons o l ih=>
   intro fr;rw[wO,a2U,a2U];cases Y2 ops fr o with
    |false=>exact ih _|true=>
     have step:∀(kn kp kn' kp':Value->M (Xc×List Value)) (g:(Xc×List Value)->M (Xc×List Value)),(∀v,kn v=M.bind (kn' v) g)->(∀v,kp v=M.bind (kp' v) g)->a1T p T i7 call fr o.op kn kp=M.bind (a1T p T i7 call fr o.op kn' kp') g:=by
      intro kn kp kn' kp' g h1 h2;have hs:∀m:M Value,i7.bv (Xc×List Value) m kn=M.bind (i7.bv (Xc×List Value) m kn') g:=λm=>by show M.bind m kn=M.bind (M.bind m kn') g;rw[Z2];congr 1;funext v;exact h1 v
      have ho:∀x:Option Value,M.obind x kn=M.bind (M.obind x kn') g:=λx=>by cases x with|none=>rfl|some v=>exact h1 v
      unfold a1T;split;exact ho _;exact ho _;split;rename_i f _;cases a2P T fr f _ with|none=>rfl|some ga=>show M.bind (call ga.1 ga.2) (λr=>W4 r kn kp)=M.bind (M.bind (call ga.1 ga.2) λr=>W4 r kn' kp') g;rw[Z2];congr 1;funext r;cases r with|ret v=>exact h1 v|pan v=>exact h2 v
      exact hs _;rfl;rename_i x _;cases K4 T fr x with|none=>rfl|some v=>show M.guard (a3i v) (kp v)=M.bind (M.guard (a3i v) (kp' v)) g;cases a3i v with|true=>exact h2 v|false=>rfl
      grind
     exact step _ _ _ _ _ (λv=>ih _) (λv=>rfl)
theorem c0L {β fr o kn kp s s' b}{Q:β->Prop}(h:a1T p T i7 call fr o kn kp s=some (b,s'))(h1:∀v s,kn v s=some (b,s')->Q b)(h2:∀v s,kp v s=some (b,s')->Q b):Q b:=by
 have hs:∀m:M Value,i7.bv β m kn s=some (b,s')->Q b:=λm q=>by obtain⟨v,s1,_,q2⟩:=o7 (f:=kn) q;grind
 have ho:∀x:Option Value,M.obind x kn s=some (b,s')->Q b:=λx q=>by obtain⟨v,_,q2⟩:=x8 q;grind
 cases o with
  |move x=>exact ho _ h|assign x=>exact ho _ h|call c=>
   obtain⟨cal,args,ts⟩:=c;cases cal with
    |value f=>obtain⟨ga,_,q⟩:=x8 h;obtain⟨r,s1,_,q2⟩:=o7 (f:=λr=>W4 r kn kp) q;cases r with|ret v=>exact h1 v s1 q2|pan v=>exact h2 v s1 q2
    |builtin b=>exact hs _ h|invoke r m=>cases h
  |panic x=>obtain⟨v,_,q⟩:=x8 h;grind[y8]|_=>exact hs _ h
theorem a4O {o os t}:t∈E1 (o::os)↔t∈a0G o\/t∈E1 os:=by grind[E1,a0G]
theorem b3K (ops):∀(os) (fr) (s s') (x),a3k p T call ops os fr s=some (x,s')->x.2.length=fr.length/\∀t,t∉E1 os->x.2[t]?=fr[t]?:=by
 intro os;induction os with
  |nil=>intro fr s s' x h;obtain⟨rfl,rfl⟩:=j7 h;simp_all|cons o os ih=>
   intro fr s s' x h;have next:∀v s1,a3k p T call ops os (G2 fr o v) s1=some (x,s')->x.2.length=fr.length/\∀t,t∉E1 (o::os)->x.2[t]?=fr[t]?:=by intro v s1 q;obtain⟨h1,h2⟩:=ih _ _ _ _ q;simp_all[a2b,a4O,a0L]
   rw[a2U]at h;cases hw:Y2 ops fr o with|false=>rw[hw]at h;grind|true=>rw[hw]at h;refine c0L (Q:=λb=>b.2.length=fr.length/\∀t,t∉E1 (o::os)->b.2[t]?=fr[t]?) h next (λv s1 q=>?_);obtain⟨rfl,rfl⟩:=j7 q;simp_all
theorem c6p (ops jb)(t:Nat)(ht:a2n ops jb.1=some t):∀(os),(∀o∈os,o.guard=some jb)->t∉E1 os->∀(fr),Y6 jb.2 (r6 fr t)=false->a3k p T call ops os fr=M.pure (.normal,C5 (E1 os) (O7 (j9 (E1 os))) fr):=by
 intro os;induction os with
  |nil=>intro _ _ fr _;rfl|cons o os ih=>
   intro ho hd fr hb;rw[a2U,b6h (ho o wH) ht,hb];rw[a4O,not_or]at hd;have e2:r6 (G2 fr o undef) t=r6 fr t:=by apply a3x;rw[a0L,wX (λq=>hd.1 q.1)]
   simp only;rw[ih (λx hx=>ho x (wY _ hx)) hd.2 _ (by rw[e2];exact hb)];congr 2;show C5 (E1 os) (O7 (j9 (E1 os))) (G2 fr o undef)=C5 (match o.dst with|some u=>u::E1 os|none=>E1 os) (O7 (j9 (match o.dst with|some u=>u::E1 os|none=>E1 os))) fr;unfold G2;cases o.dst with|none=>rfl|some u=>simp_all[b1Z,O7,j9]
theorem c9L {a b}(h:a2o a b=true):a=b:=by
 cases a with
  |none=>cases b with|none=>rfl|some b=>cases h
  |some a=>cases b with|none=>cases h|some b=>obtain⟨a1,a2⟩:=a;obtain⟨b1,b2⟩:=b;have h:(Nat.beq a1 b1&&(a2==b2))=true:=h;simp_all
theorem c0Y (os):(Y9 os).flatMap (·.2)=os/\∀g∈Y9 os,∀o∈g.2,o.guard=g.1:=by induction os with|nil=>exact⟨rfl,λg hg=>by cases hg⟩|cons o os ih=>have e:Y9 (o::os)=(match Y9 os with|[]=>[(o.guard,[o])]|g::gs=>match a2o o.guard g.1 with|true=>(g.1,o::g.2)::gs|false=>(o.guard,[o])::g::gs):=rfl;rw[e];cases hg:Y9 os with|nil=>rw[hg]at ih;simp_all|cons g gs=>rw[hg]at ih;simp only;cases hs:a2o o.guard g.1 with|true=>refine⟨by rw[<-ih.1];rfl,λg' h x hx=>?_⟩;simp only[wG]at h;rcases h with rfl|h;simp only[wG]at hx;rcases hx with rfl|hx;exact c9L hs;simp_all;grind|false=>refine⟨by rw[<-ih.1];rfl,λg' h x hx=>?_⟩;grind
theorem c8Y {β}(ops):∀(gs),(∀g∈gs,∀o∈g.2,o.guard=g.1)->∀(fr) (k k':Xc->List Value->M β),(∀x fr,Le (k x fr) (k' x fr))->Le (a5F p T i7 pn call ops gs fr k) (M.bind (a3k p T call ops (gs.flatMap (·.2)) fr) λr=>k' r.1 r.2):=by
 intro gs;induction gs with
  |nil=>intro _ fr k k' hk;exact hk _ _|cons g gs ih=>
   intro hg fr k k' hk;obtain⟨gd,l⟩:=g;have hl:=hg _ wH;have ih':=λfr=>ih (λg h=>hg g (wY _ h)) fr k k' hk;show Le (match gd with|none=>P0 p T i7 pn call l fr λex fr'=>J1 ex (a5F p T i7 pn call ops gs fr' k) (λ_=>M.fail) M.fail λv=>k (.pan v) fr'|some jb=>M.obind (a2n ops jb.1) λt=>M.guard (!(a0D t (E1 l)))<|i7.bj β (bcase (Y6 jb.2 (r6 fr t)) (P0 p T i7 pn call l fr λex fr'=>M.pure (ex,G3 fr' (E1 l))) (M.pure (.normal,O7 (j9 (E1 l))))) λex vs=>J1 ex (a5F p T i7 pn call ops gs (C5 (E1 l) vs fr) k) (λ_=>M.fail) M.fail λv=>bcase pn (k (.pan v) (C5 (E1 l) vs fr)) M.fail) (M.bind (a3k p T call ops (l++gs.flatMap (·.2)) fr) λr=>k' r.1 r.2);rw[c0w,Z2];cases gd with
    |none=>refine Le.trans (c2a ops none (λfr o h _=>c6K h) l hl (λjb e=>zn) fr (λjb e=>zn) _ (λx fr'=>J1 x (M.bind (a3k p T call ops (gs.flatMap (·.2)) fr') λr=>k' r.1 r.2) (λ_=>M.fail) M.fail λv=>k' (.pan v) fr') (λx fr'=>?_)) ?_;grind[a5b,Le.fail];refine Le.bind (Le.refl _) λr=>?_;rw[a7A];exact a5b (λ_=>Le.refl _) (λ_ _=>Le.fail _) (λ_=>Le.fail _) (λv _=>Le.refl _)|some jb=>
     dsimp only;cases ht:a2n ops jb.1 with
      |none=>exact Le.fail _|some t=>
       refine Le.guard λhm=>?_;have hm':t∉E1 l:=λq=>by rw[(a8b _ _).2 q]at hm;cases hm
       show Le (M.bind (bcase (Y6 jb.2 (r6 fr t)) (P0 p T i7 pn call l fr λex fr'=>M.pure (ex,G3 fr' (E1 l))) (M.pure (.normal,O7 (j9 (E1 l))))) λr=>J1 r.1 (a5F p T i7 pn call ops gs (C5 (E1 l) r.2 fr) k) (λ_=>M.fail) M.fail λv=>bcase pn (k (.pan v) (C5 (E1 l) r.2 fr)) M.fail) _;cases hb:Y6 jb.2 (r6 fr t)with|false=>rw[c6p ops jb t ht l hl hm' fr hb];exact ih' (C5 (E1 l) (O7 (j9 (E1 l))) fr)|true=>intro s r e;obtain⟨x,s1,e1,e2⟩:=o7 (s2:=r.2) (b:=r.1) e;have h1:=c2a (β:=Xc×List Value) ops (some jb) (λfr o h hq=>by rw[b6h h ht];simp_all) l hl (λjb' e=>zq) fr (λjb' e t' ht'=>zq) (λex fr'=>M.pure (ex,G3 fr' (E1 l))) (λex fr'=>M.pure (ex,G3 fr' (E1 l))) (λ_ _=>Le.refl _) s _ e1;obtain⟨y,s2,f1,f2⟩:=o7 h1;obtain⟨rfl,rfl⟩:=j7 f2;obtain⟨g1,g2⟩:=b3K ops l fr s _ y f1;refine V1 f1 ?_;simp only[]at e2;rw[a1i g1 g2]at e2;rw[a7A];refine a5b (λ_=>ih' _) (λ_ _=>Le.fail _) (λ_=>Le.fail _) (λv _=>a5N (hk _ _)) _ _ e2
end
end Go.V
end
section
noncomputable section
namespace Go.V
section
variable {p:Program}{T:Tab}{call:A8}{pn:Bool}
theorem c0h {ops os o}(h:o∈os){t}(ht:t∈a1r ops o):t∈a2q ops os:=by induction os with|nil=>cases h|cons x os ih=>show t∈m9 (a1r ops x) (a2q ops os);rw[v8,wU];grind
theorem c5r {l t}(h:t∈l):t∈a0R l:=by induction l with|nil=>cases h|cons i l ih=>show t∈b9o i (a0R l);unfold b9o;simp only[wG]at h;cases hm:a0D i (a0R l)with|true=>rcases h with rfl|h;grind[a8b];grind|false=>grind
theorem a7q {c}(ops):∀(os) (fr) (s s') (z),a0o p T c ops os fr s=some (z,s')->z.1.length=fr.length/\∀t,t∉E1 os->z.1[t]?=fr[t]?:=by
 intro os;induction os with
  |nil=>intro fr s s' z h;obtain⟨rfl,rfl⟩:=j7 h;simp_all|cons o os ih=>
   intro fr s s' z h;have key:∀(v:Value) (s1 s2:S) (y:List Value×List (List Nat×List Nat)),a0o p T c ops os (G2 fr o v) s1=some (y,s2)->y.1.length=fr.length/\∀t,t∉E1 (o::os)->y.1[t]?=fr[t]?:=by intro v s1 s2 y hy;obtain⟨h1,h2⟩:=ih _ _ _ _ hy;simp_all[a2b,a4O,a0L]
   rw[a5v]at h;split at h;obtain⟨x,s1,_,h2⟩:=o7 h;obtain⟨y,s2,h3,h4⟩:=o7 h2;obtain⟨rfl,rfl⟩:=j7 h4;grind;obtain⟨y,s2,h3,h4⟩:=o7 h;obtain⟨rfl,rfl⟩:=j7 h4;grind
theorem c4Y {c}(ops)(A:Nat->Prop):∀(os),(∀o∈os,∀t∈a1r ops o,A t)->∀(fr fr2),fr.length=fr2.length->(∀t,A t->r6 fr t=r6 fr2 t)->∀s y s',a0o p T c ops os fr s=some (y,s')->∃fr',a0o p T c ops os fr2 s=some ((fr',y.2),s')/\∀t,A t\/t∈E1 os->r6 y.1 t=r6 fr' t:=by
 intro os;induction os with
  |nil=>intro _ fr fr2 hl hA s y s' h;obtain⟨rfl,rfl⟩:=j7 h;exact⟨fr2,rfl,λt ht=>ht.elim (hA t) (λq=>zk)⟩|cons o os ih=>
   intro ho fr fr2 hl hA s y s' h;obtain⟨c1,c2⟩:=b2g (P:=p) (T:=T) (call:=c) (ops:=ops) (o:=o) (fr:=fr) (fr2:=fr2) (λt ht=>hA t (ho o wH t ht));have key:∀(v:Value) (s1 s2:S) (z:List Value×List (List Nat×List Nat)),a0o p T c ops os (G2 fr o v) s1=some (z,s2)->∃fr',a0o p T c ops os (G2 fr2 o v) s1=some ((fr',z.2),s2)/\∀t,A t\/t∈E1 (o::os)->r6 z.1 t=r6 fr' t:=by
    intro v s1 s2 z hz;have hput:∀t,A t\/t∈a0G o->r6 (G2 fr o v) t=r6 (G2 fr2 o v) t:=by intro t ht;rw[a1Y,a1Y,a0L,a0L,hl];by_cases hc:t∈a0G o/\t<fr2.length;rw[wT hc,wT hc];rw[wX hc,wX hc];grind[a1Y]
    obtain⟨fr',e1,e4⟩:=ih (λx hx=>ho x (wY _ hx)) (G2 fr o v) (G2 fr2 o v) (by rw[a2b,a2b,hl]) (λt ht=>hput t (Or.inl ht)) s1 z s2 hz;refine⟨fr',e1,λt ht=>?_⟩;by_cases hc:A t\/t∈E1 os;grind;rw[not_or]at hc;have ht:t∈a0G o:=by grind[a4O]
    rw[a3x ((a7q ops os _ _ _ _ hz).2 t hc.2),a3x ((a7q ops os _ _ _ _ e1).2 t hc.2)];simp_all
   rw[a5v]at h;rw[a5v,<-c2,<-c1];cases hw:Y2 ops fr o with|true=>rw[hw]at h;simp only[tf]at h⊢;obtain⟨x,s1,h1,h2⟩:=o7 h;obtain⟨z,s2,h3,h4⟩:=o7 h2;obtain⟨rfl,rfl⟩:=j7 h4;obtain⟨fr',e1,e2⟩:=key _ _ _ z h3;exact⟨fr',V1 h1 (V1 e1 rfl),e2⟩|false=>rw[hw]at h;simp only[wL,vN]at h⊢;obtain⟨z,s2,h3,h4⟩:=o7 h;obtain⟨rfl,rfl⟩:=j7 h4;obtain⟨fr',e1,e2⟩:=key _ _ _ z h3;exact⟨fr',V1 e1 rfl,e2⟩
theorem b4j (n):(O7 n).length=n:=by induction n with|zero=>rfl|succ n ih=>grind[O7]
theorem c3T {β}(ops draw fr)(k k':Xc->List Value->M β)(hk:∀x fr,Le (k x fr) (k' x fr)):Le (b4Z p T i7 pn call ops draw fr k) (M.bind (b1F p T call ops draw fr) λr=>k' r.1 r.2):=by
 cases draw with
  |false=>obtain⟨h1,h2⟩:=c0Y ops;have:=c8Y (p:=p) (T:=T) (call:=call) (pn:=pn) (β:=β) ops (Y9 ops) h2 fr k k' hk;rw[h1]at this;exact this|true=>
   intro s r h;have h:M.bind (b3S p T call ops (j9 fr) (a0R (a2q ops ops)) (G3 fr (a0R (a2q ops ops))) (E1 ops)) (λx=>k .normal (C5 (E1 ops) x.2 fr)) s=some r:=h;obtain⟨x,s1,h1,h2⟩:=o7 (s2:=r.2) (b:=r.1) h;unfold b3S at h1;obtain⟨y,s2,h3,h4⟩:=o7 h1;obtain⟨h5,h6⟩:=y8 h4;obtain⟨rfl,rfl⟩:=j7 h6;have hlen:(C5 (a0R (a2q ops ops)) (G3 fr (a0R (a2q ops ops))) (O7 (j9 fr))).length=fr.length:=by rw[b6v,b4j,y9]
   obtain⟨fr',e1,e2⟩:=c4Y (p:=p) (T:=T) ops (λt=>t∈a0R (a2q ops ops)) ops (λo ho t ht=>c5r (c0h ho ht)) _ fr hlen (λt ht=>by apply a3x;rw[b4n _ _ _ (by rw[b4j,y9]),wT ht]) s y s1 h3;show M.bind (M.bind (a0o p T (Y3 call) ops ops fr) λy=>M.guard (a0U ops (a2v ops y.2) [] [] 0)<|M.pure (Xc.normal,y.1)) (λr=>k' r.1 r.2) s=some r;refine V1 (a:=(Xc.normal,fr')) (s1:=s1) (V1 e1 ?_) ?_;simp_all[M.guard,M.pure];have e3:C5 (E1 ops) (G3 y.1 (E1 ops)) fr=fr':=by
    have e4:G3 y.1 (E1 ops)=G3 fr' (E1 ops):=by rw[b5X,b5X];simp_all
    obtain⟨f1,f2⟩:=a7q ops ops fr s s1 _ e1;rw[e4];exact a1i f1 f2
   have h2:k .normal (C5 (E1 ops) (G3 y.1 (E1 ops)) fr) s1=some r:=h2;rw[e3]at h2;exact hk _ _ _ _ h2
theorem b6u (ops draw fr s s' x)(h:b1F p T call ops draw fr s=some (x,s')):x.2.length=fr.length/\∀t,t∉E1 ops->x.2[t]?=fr[t]?:=by cases draw with|false=>exact b3K ops ops fr s s' x h|true=>have h:M.bind (a0o p T (Y3 call) ops ops fr) (λy=>M.guard (a0U ops (a2v ops y.2) [] [] 0)<|M.pure (Xc.normal,y.1)) s=some (x,s'):=h;obtain⟨y,s2,h3,h4⟩:=o7 h;obtain⟨_,h6⟩:=y8 h4;obtain⟨rfl,rfl⟩:=j7 h6;grind[a7q]
theorem b5V {β v}{x y:M β}{s r}(h:a2E v x y s=some r):(v=.bool true/\x s=some r)\/(v=.bool false/\y s=some r):=by
 cases v with
  |bool b=>cases b with|true=>exact Or.inl ⟨rfl,h⟩|false=>exact Or.inr ⟨rfl,h⟩
  |_=>cases h
theorem Q1 {σ}(body:σ->M (Xc×σ))(n x):I9 body (n+1) x=M.bind (body x) λr=>J1 r.1 (I9 body n r.2) (λid=>M.pure (.exit id,r.2)) (M.pure (.ret,r.2)) (λv=>M.pure (.pan v,r.2)):=rfl
theorem b2h (N):∀(c) (fr) (s s') (x),O9 p T N call c fr s=some (x,s')->x.2.length=fr.length/\∀t,t∉R8 c->x.2[t]?=fr[t]?:=by
 intro c;induction c with
  |skip=>intro fr s s' x h;obtain⟨rfl,rfl⟩:=j7 h;simp_all|region id ops draw=>intro fr s s' x h;exact b6u _ _ _ _ _ _ h|seq a b iha ihb=>intro fr s s' x h;have h:M.bind (O9 p T N call a fr) (λr=>J1 r.1 (O9 p T N call b r.2) (λid=>M.pure (.exit id,r.2)) (M.pure (.ret,r.2)) (λv=>M.pure (.pan v,r.2))) s=some (x,s'):=h;obtain⟨r,s1,h1,h2⟩:=o7 h;obtain⟨f1,f2⟩:=iha _ _ _ _ h1;have hw:∀t,t∉R8 (.seq a b)->t∉R8 a/\t∉R8 b:=λt ht=>xl;obtain⟨rx,rf⟩:=r;cases rx with|normal=>obtain⟨g1,g2⟩:=ihb _ _ _ _ h2;simp_all|_=>obtain⟨rfl,rfl⟩:=j7 h2;exact⟨f1,λt ht=>f2 t (hw t ht).1⟩
  |cond o a b iha ihb=>intro fr s s' x h;have hw:∀t,t∉R8 (.cond o a b)->t∉R8 a/\t∉R8 b:=λt ht=>xl;obtain⟨v,_,h1⟩:=x8 h;grind[b5V]|block id b ih=>intro fr s s' x h;obtain⟨r,s1,h1,h2⟩:=o7 h;obtain⟨rfl,rfl⟩:=j7 h2;exact ih _ _ _ r h1|loop b ih=>
   intro fr s s' x h;have h:I9 (O9 p T N call b) N fr s=some (x,s'):=h;have key:∀n fr s,I9 (O9 p T N call b) n fr s=some (x,s')->x.2.length=fr.length/\∀t,t∉R8 b->x.2[t]?=fr[t]?:=by intro n;induction n with|zero=>intro fr s h;cases h|succ n ihn=>intro fr s h;rw[Q1]at h;obtain⟨r,s1,h1,h2⟩:=o7 h;obtain⟨f1,f2⟩:=ih _ _ _ _ h1;obtain⟨rx,rf⟩:=r;cases rx with|normal=>obtain⟨g1,g2⟩:=ihn _ _ h2;simp_all|_=>obtain⟨rfl,rfl⟩:=j7 h2;exact⟨f1,f2⟩
   exact key N fr s h|exit id=>intro fr s s' x h;obtain⟨rfl,rfl⟩:=j7 h;simp_all|ret=>intro fr s s' x h;obtain⟨rfl,rfl⟩:=j7 h;simp_all|_=>intro fr s s' x h;cases h
theorem b5A {l m}(h:a7Y l m=true){t}(ht:t∉m):t∉l:=λq=>ht ((a8b _ _).1 ((C9 _ _).1 h t q))
theorem c4I {β E id}{k k':Xc->M β}(h:∀x,Le (k x) (k' x)):Le (a1X E id k) (k' (.exit id)):=by induction E with|nil=>exact Le.fail _|cons e E ih=>show Le (bcase (Nat.beq id e) (k (.exit e)) (a1X E id k)) _;cases hb:Nat.beq id e with|true=>rw[xS hb];exact h _|false=>exact ih
theorem c0i {β E n r ex}{k k':Xc->M β}(h:∀x,Le (k x) (k' x)):Le (b1T pn E n r ex k) (k' ex):=by unfold b1T;cases ex with|normal=>exact a5N (h _)|exit id=>exact c4I h|ret=>exact a5N (h _)|pan v=>exact a5N (h _)
theorem c8t (N):∀(c) (pl) (β) (fr) (k k':Xc->List Value->M β),(∀x fr,Le (k x fr) (k' x fr))->Le (E0 p T i7 pn N call c pl β fr k) (M.bind (O9 p T N call c fr) λr=>k' r.1 r.2):=by
 intro c;induction c with
  |skip=>intro pl β fr k k' hk;exact hk _ _|region id ops draw=>intro pl β fr k k' hk;exact c3T _ _ _ _ _ hk|seq a b iha ihb=>intro pl β fr k k' hk;have hb:∀fr,Le (E0 p T i7 pn N call b pl.b β fr k) (M.bind (O9 p T N call b fr) λr=>k' r.1 r.2):=λfr=>ihb pl.b β fr k k' hk;show Le _ (M.bind (M.bind (O9 p T N call a fr) λr=>J1 r.1 (O9 p T N call b r.2) (λid=>M.pure (.exit id,r.2)) (M.pure (.ret,r.2)) (λv=>M.pure (.pan v,r.2))) λr=>k' r.1 r.2);rw[Z2];unfold E0;cases hj:pl.j with|none=>refine Le.trans (iha pl.a β fr _ (λex fr'=>J1 ex (M.bind (O9 p T N call b fr') λr=>k' r.1 r.2) (λid=>k' (.exit id) fr') (k' .ret fr') (λv=>k' (.pan v) fr')) (λx fr'=>?_)) ?_;grind[a5b];refine Le.bind (Le.refl _) λr=>?_;rw[a7A];exact a5b (λ_=>Le.refl _) (λ_ _=>Le.refl _) (λ_=>Le.refl _) (λv _=>Le.refl _)|some W=>refine Le.guard λhW=>?_;intro s r h;have h:M.bind (E0 p T i7 pn N call a pl.a (Xc×List Value) fr λex fr'=>M.pure (ex,G3 fr' W)) (λx=>b1T pn (a0R (a0t a)) true (hasRet a) x.1 λy=>J1 y (E0 p T i7 pn N call b pl.b β (C5 W x.2 fr) k) (λid=>k (.exit id) (C5 W x.2 fr)) (k .ret (C5 W x.2 fr)) (λv=>k (.pan v) (C5 W x.2 fr))) s=some r:=h;obtain⟨x,s1,h1,h2⟩:=o7 (s2:=r.2) (b:=r.1) h;have h3:=iha pl.a (Xc×List Value) fr (λex fr'=>M.pure (ex,G3 fr' W)) (λex fr'=>M.pure (ex,G3 fr' W)) (λ_ _=>Le.refl _) s _ h1;obtain⟨y,s2,f1,f2⟩:=o7 h3;obtain⟨rfl,rfl⟩:=j7 f2;obtain⟨g1,g2⟩:=b2h N a fr s _ y f1;refine V1 f1 ?_;simp only[]at h2;rw[a1i g1 (λt ht=>g2 t (b5A hW ht))]at h2;rw[a7A];exact c0i (k':=λz=>J1 z (M.bind (O9 p T N call b y.2) λr=>k' r.1 r.2) (λid=>k' (.exit id) y.2) (k' .ret y.2) (λv=>k' (.pan v) y.2)) (λx=>a5b (λ_=>hb _) (λ_ _=>hk _ _) (λ_=>hk _ _) (λv _=>hk _ _)) _ _ h2
  |cond o a b iha ihb=>
   intro pl β fr k k' hk;show Le (M.obind (K4 T fr o) λv=>a2E v (E0 p T i7 pn N call a pl.a β fr k) (E0 p T i7 pn N call b pl.b β fr k)) (M.bind (M.obind (K4 T fr o) λv=>a2E v (O9 p T N call a fr) (O9 p T N call b fr)) λr=>k' r.1 r.2);refine Le.obind_bind λv _=>?_;cases v with
    |bool t=>cases t with|true=>exact iha pl.a β fr k k' hk|false=>exact ihb pl.b β fr k k' hk
    |_=>exact Le.fail _
  |block id b ih=>intro pl β fr k k' hk;show Le (E0 p T i7 pn N call b pl.a β fr λex fr'=>k (a4e id ex) fr') (M.bind (M.bind (O9 p T N call b fr) λr=>M.pure (a4e id r.1,r.2)) λr=>k' r.1 r.2);rw[Z2];exact ih pl.a β fr _ (λex fr'=>k' (a4e id ex) fr') (λx fr=>hk _ _)|loop b ih=>
   intro pl β fr k k' hk;refine Le.guard λhW=>?_;intro s r h;have h:M.bind (I9 (λxs=>E0 p T i7 pn N call b pl.a (Xc×List Value) (C5 pl.w xs fr) λex fr'=>M.pure (ex,G3 fr' pl.w)) N (G3 fr pl.w)) (λx=>b1T pn (a0R (a0t b)) false (hasRet b) x.1 λy=>k y (C5 pl.w x.2 fr)) s=some r:=h;obtain⟨x,s1,h1,h2⟩:=o7 (s2:=r.2) (b:=r.1) h;have key:∀n (fr0:List Value) (s s1:S) (x:Xc×List Value),fr0.length=fr.length->(∀t,t∉pl.w->fr0[t]?=fr[t]?)->I9 (λxs=>E0 p T i7 pn N call b pl.a (Xc×List Value) (C5 pl.w xs fr) λex fr'=>M.pure (ex,G3 fr' pl.w)) n (G3 fr0 pl.w) s=some (x,s1)->∃fr1,I9 (O9 p T N call b) n fr0 s=some ((x.1,fr1),s1)/\C5 pl.w x.2 fr=fr1:=by intro n;induction n with|zero=>intro fr0 s s1 x _ _ h;cases h|succ n ihn=>intro fr0 s s1 x hl hA h;rw[Q1]at h;obtain⟨y,s2,e1,e2⟩:=o7 h;have e3:=ih pl.a (Xc×List Value) (C5 pl.w (G3 fr0 pl.w) fr) (λex fr'=>M.pure (ex,G3 fr' pl.w)) (λex fr'=>M.pure (ex,G3 fr' pl.w)) (λ_ _=>Le.refl _) s _ e1;rw[a1i hl hA]at e3;obtain⟨z,s3,f1,f2⟩:=o7 e3;obtain⟨rfl,rfl⟩:=j7 f2;obtain⟨g1,g2⟩:=b2h N b fr0 s _ z f1;have hz1:z.2.length=fr.length:=g1.trans hl;have hz2:∀t,t∉pl.w->z.2[t]?=fr[t]?:=λt ht=>(g2 t (b5A hW ht)).trans (hA t ht);obtain⟨zx,zf⟩:=z;cases zx with|normal=>obtain⟨fr1,q1,q2⟩:=ihn zf _ _ x hz1 hz2 e2;exact⟨fr1,by rw[Q1];exact V1 f1 q1,q2⟩|exit i=>obtain⟨rfl,rfl⟩:=j7 e2;exact⟨zf,by rw[Q1];exact V1 f1 rfl,a1i hz1 hz2⟩|ret=>obtain⟨rfl,rfl⟩:=j7 e2;exact⟨zf,by rw[Q1];exact V1 f1 rfl,a1i hz1 hz2⟩|pan v=>obtain⟨rfl,rfl⟩:=j7 e2;exact⟨zf,by rw[Q1];exact V1 f1 rfl,a1i hz1 hz2⟩
   obtain⟨fr1,q1,q2⟩:=key N fr s s1 x rfl (λ_ _=>rfl) h1;have h2:=c0i (k':=λy=>k' y (C5 pl.w x.2 fr)) (λy=>hk y _) _ _ h2;rw[q2]at h2;exact V1 (a:=(x.1,fr1)) q1 h2|exit id=>intro pl β fr k k' hk;exact hk _ _|ret=>intro pl β fr k k' hk;exact hk _ _|_=>intro pl β fr k k' hk;exact Le.fail _
end
end Go.V
end
section
namespace Go.V
open Go.RowKit (Below)
section
variable {P:Program}{T:Tab}{B0:Nat}{w0:Base}{w:World}{K:KM}{s s':S}{a:Act}{fr:List Value}{v:Value}
theorem a7f {β α}(l)(k:List β->α):fList l k=k l:=by induction l generalizing k with|nil=>rfl|cons x l ih=>exact ih _
theorem b1x {x t}(r:VR K x (.bool t)):x=.bool t:=by generalize hv:Value.bool t=z at r;cases r with|plain=>rfl|_=>cases hv
theorem b0M.from {s1 w1 K1 ds ex fr' e a' w'}(h1:Step B0 w0 K s1 w1 K1)(hc:s1.c<=s'.c)(h:b0M B0 w0 K1 s' ds ex fr' e a' w'):b0M B0 w0 K s' ds ex fr' e a' w':=by obtain⟨K',st,r,d,q⟩:=h;exact⟨K',h1.trans st hc,r,d,q⟩
theorem b7J (hT:TabOk P T)(hM:P.follows .mixedOrders=true){call}(hC:a2N P T B0 w0 call)(hF:∀f vs,Fr (call f vs))(n):(∀c fr s ex fr' s' K a w Q,a4z P T call n c fr s=some ((ex,fr'),s')->Sim B0 w0 K s.h w->Q0 K s s'->VRL K a.tmps.toList fr->GK T K->(∀e a' w',b0M B0 w0 K s' a.defers ex fr' e a' w'->Q e a' w')->c.wp P Q a w)/\(∀b fr s ex fr' s' K a w Q,a4z P T call n (.loop b) fr s=some ((ex,fr'),s')->Sim B0 w0 K s.h w->Q0 K s s'->VRL K a.tmps.toList fr->GK T K->(∀e a' w',b0M B0 w0 K s' a.defers ex fr' e a' w'->Q e a' w')->Code.rounds P b Q n a w):=by
 induction n with
  |zero=>constructor;intro c fr s ex fr' s' K a w Q h;cases h;intro b fr s ex fr' s' K a w Q h;cases h|succ n ih=>
   obtain⟨ihA,ihB⟩:=ih;have hFe:∀c fr,Fr (a4z P T call n c fr):=Fr.exec P T hF n;have hB:∀b fr s ex fr' s' K a w Q,a4z P T call (n+1) (.loop b) fr s=some ((ex,fr'),s')->Sim B0 w0 K s.h w->Q0 K s s'->VRL K a.tmps.toList fr->GK T K->(∀e a' w',b0M B0 w0 K s' a.defers ex fr' e a' w'->Q e a' w')->Code.rounds P b Q (n+1) a w:=by intro b fr s ex fr' s' K a w Q h S F hf hg hq;have h1:fList fr (λfr=>M.bind (a4z P T call n b fr) λr=>match r.1 with|.normal=>a4z P T call n (.loop b) r.2|.exit id=>M.pure (.exit id,r.2)|.ret=>M.pure (.ret,r.2)) s=some ((ex,fr'),s'):=h;rw[a7f]at h1;obtain⟨⟨x1,fr1⟩,s1,h2,h3⟩:=o7 h1;show b.wp P (Exit.then (Code.rounds P b Q n) Q) a w;cases x1 with|normal=>have h3:a4z P T call n (.loop b) fr1 s1=some ((ex,fr'),s'):=h3;have hle:=(hFe _ _).le h3;refine ihA b fr s .normal fr1 s1 K a w _ h2 S (F.left hle) hf hg λe a' w' L=>?_;obtain⟨K1,st,r1,d1,e1⟩:=L;have e1:e=.normal:=e1;subst e1;show Code.rounds P b Q n a' w';exact ihB b fr1 s1 ex fr' s' K1 a' w' Q h3 st.sim (F.right (hFe _ _) h2) r1 (hg.mono st.le) λe a2 w2 L=>hq e a2 w2 (b0M.from st hle (d1▸L))|exit id=>have h3:M.pure (Ex.exit id,fr1) s1=some ((ex,fr'),s'):=h3;obtain⟨e,rfl⟩:=j7 h3;cases e;refine ihA b fr s _ _ _ K a w _ h2 S F hf hg λe a' w' L=>?_;have he:e=.exit id:=L.choose_spec.2.2.2;subst he;exact hq _ _ _ L|ret=>have h3:M.pure (Ex.ret,fr1) s1=some ((ex,fr'),s'):=h3;obtain⟨e,rfl⟩:=j7 h3;cases e;refine ihA b fr s _ _ _ K a w _ h2 S F hf hg λe a' w' L=>?_;have he:e=.ret:=L.choose_spec.2.2.2;subst he;exact hq _ _ _ L
   refine⟨λc fr s ex fr' s' K a w Q h S F hf hg hq=>?_,hB⟩;have h0:c3d P T call (a4z P T call n) c fr s=some ((ex,fr'),s'):=h;cases c with
    |skip=>have h0:M.pure (Ex.normal,fr) s=some ((ex,fr'),s'):=h0;obtain⟨e,rfl⟩:=j7 h0;cases e;exact wp_skip (hq _ _ _ ⟨K,Step.same S rfl,hf,rfl,rfl⟩)|region id ops draw=>have h0:region P T call ops.toList draw fr s=some ((ex,fr'),s'):=h0;cases draw with|false=>have h0:M.bind (a3R P T call ops.toList ops.toList fr) (λfr'=>M.pure (Ex.normal,fr')) s=some ((ex,fr'),s'):=h0;obtain⟨fr1,s1,h1,h2⟩:=o7 h0;obtain⟨e,rfl⟩:=j7 h2;cases e;refine wp_region ?_;rw[tX];exact c6l hT hC hF ops ops.size 0 fr _ s _ K a w zu zr S F hf hg λa' w' K' st r d=>hq _ _ _ ⟨K',st,r,d,rfl⟩|true=>have h0:M.bind (a0o P T call ops.toList ops.toList fr) (λy=>M.guard (a0U ops.toList (a2v ops.toList y.2) [] [] 0)<|M.pure (Ex.normal,y.1)) s=some ((ex,fr'),s'):=h0;obtain⟨⟨fr1,feet⟩,s1,h1,h2⟩:=o7 h0;obtain⟨hok,h3⟩:=y8 h2;obtain⟨e,rfl⟩:=j7 h3;cases e;exact b1V hT hM hC hF ops h1 hok S F hf hg λa' w' K' st r d=>hq _ _ _ ⟨K',st,r,d,rfl⟩
    |seq x y=>have h0:M.bind (a4z P T call n x fr) (λr=>match r.1 with|.normal=>a4z P T call n y r.2|.exit id=>M.pure (.exit id,r.2)|.ret=>M.pure (.ret,r.2)) s=some ((ex,fr'),s'):=h0;obtain⟨⟨x1,fr1⟩,s1,h2,h3⟩:=o7 h0;refine wp_seq ?_;cases x1 with|normal=>have h3:a4z P T call n y fr1 s1=some ((ex,fr'),s'):=h3;have hle:=(hFe _ _).le h3;refine ihA x fr s .normal fr1 s1 K a w _ h2 S (F.left hle) hf hg λe a' w' L=>?_;obtain⟨K1,st,r1,d1,e1⟩:=L;have e1:e=.normal:=e1;subst e1;exact ihA y fr1 s1 ex fr' s' K1 a' w' Q h3 st.sim (F.right (hFe _ _) h2) r1 (hg.mono st.le) λe a2 w2 L=>hq e a2 w2 (b0M.from st hle (d1▸L))|exit id=>have h3:M.pure (Ex.exit id,fr1) s1=some ((ex,fr'),s'):=h3;obtain⟨e,rfl⟩:=j7 h3;cases e;refine ihA x fr s _ _ _ K a w _ h2 S F hf hg λe a' w' L=>?_;have he:e=.exit id:=L.choose_spec.2.2.2;subst he;exact hq _ _ _ L|ret=>have h3:M.pure (Ex.ret,fr1) s1=some ((ex,fr'),s'):=h3;obtain⟨e,rfl⟩:=j7 h3;cases e;refine ihA x fr s _ _ _ K a w _ h2 S F hf hg λe a' w' L=>?_;have he:e=.ret:=L.choose_spec.2.2.2;subst he;exact hq _ _ _ L
    |cond x c1 c2=>
     have h0:M.obind (K4 T fr x) (λv=>match v with
      |.bool t=>match t with|true=>a4z P T call n c1 fr|false=>a4z P T call n c2 fr
      |_=>M.fail) s=some ((ex,fr'),s'):=h0;obtain⟨u,e1,h1⟩:=x8 h0;have r:=E3 hf hg e1;cases u with
      |bool t=>have hb:=b1x r;cases t with|true=>grind[wp_cond_true]|false=>grind[wp_cond_false]
      |_=>cases h1
    |block id b=>
     have h0:M.bind (a4z P T call n b fr) (λr=>match r.1 with
      |.normal=>M.pure (.normal,r.2)|.exit id'=>match Nat.beq id' id with|true=>M.pure (.normal,r.2)|false=>M.pure (.exit id',r.2)
      |.ret=>M.pure (.ret,r.2)) s=some ((ex,fr'),s'):=h0;obtain⟨⟨x1,fr1⟩,s1,h2,h3⟩:=o7 h0;refine wp_block ?_;cases x1 with
      |normal=>have h3:M.pure (Ex.normal,fr1) s1=some ((ex,fr'),s'):=h3;obtain⟨e,rfl⟩:=j7 h3;cases e;refine ihA b fr s _ _ _ K a w _ h2 S F hf hg λe a' w' L=>?_;have he:e=.normal:=L.choose_spec.2.2.2;subst he;exact hq _ _ _ L|exit id'=>have h3:(match Nat.beq id' id with|true=>M.pure (Ex.normal,fr1)|false=>M.pure (Ex.exit id',fr1)) s1=some ((ex,fr'),s'):=h3;cases hb:Nat.beq id' id with|true=>rw[hb]at h3;obtain⟨e,rfl⟩:=j7 h3;cases e;refine ihA b fr s _ _ _ K a w _ h2 S F hf hg λe a' w' L=>?_;obtain⟨K1,st,r1,d1,e1⟩:=L;have e1:e=.exit id':=e1;subst e1;show(if id'=id then Q .normal a' w' else Q (.exit id') a' w');rw[wT (xS hb)];exact hq _ _ _ ⟨K1,st,r1,d1,rfl⟩|false=>rw[hb]at h3;obtain⟨e,rfl⟩:=j7 h3;cases e;refine ihA b fr s _ _ _ K a w _ h2 S F hf hg λe a' w' L=>?_;have he:e=.exit id':=L.choose_spec.2.2.2;subst he;show(if id'=id then Q .normal a' w' else Q (.exit id') a' w');rw[wX (λq=>zq)];simp_all
      |ret=>have h3:M.pure (Ex.ret,fr1) s1=some ((ex,fr'),s'):=h3;obtain⟨e,rfl⟩:=j7 h3;cases e;refine ihA b fr s _ _ _ K a w _ h2 S F hf hg λe a' w' L=>?_;have he:e=.ret:=L.choose_spec.2.2.2;subst he;exact hq _ _ _ L
    |loop b=>exact sS (n+1) (hB b fr s ex fr' s' K a w Q h S F hf hg hq)|exit id=>have h0:M.pure (Ex.exit id,fr) s=some ((ex,fr'),s'):=h0;obtain⟨e,rfl⟩:=j7 h0;cases e;exact wp_exit (hq _ _ _ ⟨K,Step.same S rfl,hf,rfl,rfl⟩)|ret=>have h0:M.pure (Ex.ret,fr) s=some ((ex,fr'),s'):=h0;obtain⟨e,rfl⟩:=j7 h0;cases e;exact wp_ret (hq _ _ _ ⟨K,Step.same S rfl,hf,rfl,rfl⟩)|_=>cases h0
def b7f (tmps:Array Value):ResultVar->Sem Value|.tmp t=>pure (tmps.getD t undef)|.cell a t=>do loadVar t (<-asAddr (tmps.getD a undef))
theorem b9u (hT:TabOk P T){tmps}(hf:VRL K tmps.toList fr):∀(rs) (vs) (s s'),a1P T fr rs s=some (vs,s')->Sim B0 w0 K s.h w->s'.h=s.h/\s'.c=s.c/\∃vs',(rs.mapM (b7f tmps)).run P w=.ok vs' w/\VRL K vs' vs:=by
 have hget:∀t,VR K (tmps.getD t undef) (r6 fr t):=by intro t;have r:=hf.lget t;rw[a1Y tmps.toList,a5H]at r;rw[uQ];exact r
 intro rs;induction rs with
  |nil=>intro vs s s' h S;have h:M.pure ([]:List Value) s=some (vs,s'):=h;obtain⟨e,rfl⟩:=j7 h;cases e;exact⟨rfl,rfl,[],rfl,⟨rfl,λi v' v q=>by simp at q⟩⟩|cons r rs ih=>
   intro vs s s' h S;have cons:∀{x' x:Value} {ys' ys:List Value},VR K x' x->VRL K ys' ys->VRL K (x'::ys') (x::ys):=by intro x' x ys' ys r1 r2;refine⟨by simp[r2.len],λi v' v h1 h2=>?_⟩;cases i with|zero=>simp_all|succ i=>exact r2.at_ i v' v zr zr
   cases r with|tmp t=>have h:M.bind (a1P T fr rs) (λvs=>M.pure (r6 fr t::vs)) s=some (vs,s'):=h;obtain⟨ys,s1,h1,h2⟩:=o7 h;obtain⟨e,rfl⟩:=j7 h2;grind[b7f,Sem.run_bind,Sem.run_pure,Result.andThen_ok]|cell ad t=>have h:R5 (r6 fr ad) (λad=>M.bind (a2F T t ad) λv=>M.bind (a1P T fr rs) λvs=>M.pure (v::vs)) s=some (vs,s'):=h;obtain⟨adr,e0,h⟩:=a0S h;obtain⟨u,s1,h1,h2⟩:=o7 h;obtain⟨ys,s2,h3,h4⟩:=o7 h2;obtain⟨e,rfl⟩:=j7 h4;cases e;have r0:=hget ad;rw[e0]at r0;obtain⟨ad',e1,r1⟩:=a6Z r0;obtain⟨u',p1,p2,p3,p4⟩:=b5E hT h1 S r1;obtain⟨q1,q2,vs',q3,q4⟩:=ih ys _ _ h3 (by rw[p3];exact S);simp_all[b7f,asAddr]
theorem b3P (hT:TabOk P T){fn ex fr' tmps}(h:a9g T fn (ex,fr') s=some (v,s'))(hf:VRL K tmps.toList fr')(S:Sim B0 w0 K s.h w):(∀id,ex≠.exit id)/\s'.h=s.h/\s'.c=s.c/\∃v',(results fn tmps).run P w=.ok v' w/\VR K v' v:=by
 have key:∀h:M.bind (a1P T fr' fn.results.toList) (λvs=>M.pure (a5K vs)) s=some (v,s'),s'.h=s.h/\s'.c=s.c/\∃v',(results fn tmps).run P w=.ok v' w/\VR K v' v:=by intro h;obtain⟨vs,s1,h1,h2⟩:=o7 h;obtain⟨e,rfl⟩:=j7 h2;cases e;obtain⟨q1,q2,vs',q3,q4⟩:=b9u hT hf _ _ _ _ h1 S;refine⟨q1,q2,(if h:vs'.toArray.size=1 then vs'.toArray[0]else .tuple vs'.toArray),?_,?_⟩;show(do let vs<-fn.results.mapM (b7f tmps);pure (if h:vs.size=1 then vs[0]else .tuple vs):Sem Value).run P w=_;rw[Array.mapM_eq_mapM_toList];simp_all;match vs,vs',q4 with|[],[],_=>exact .tuple rfl (λi v' v q=>by simp at q)|[x],[x'],q4=>exact q4.at_ 0 x' x rfl rfl|x::y::l,x'::y'::l',q4=>exact .tuple q4.len q4.at_|[],_::_,q4=>exact absurd q4.len zu|_::_,[],q4=>exact absurd q4.len zu|[_],_::_::_,q4=>exact absurd q4.len zu|_::_::_,[_],q4=>exact absurd q4.len zu
 cases ex with|exit id=>cases h|normal=>exact⟨λ_ q=>zk,key h⟩|ret=>exact⟨λ_ q=>zk,key h⟩
def b6Z (P:Program)(T:Tab)(B0:Nat)(w0:Base)(ext:Nat->Option (List Value->M Value)):Prop:=(∀f g,ext f=some g->∀vs,Fr (g vs))/\(∀f g,ext f=some g->∀vs s v s' w K vs',g vs s=some (v,s')->Sim B0 w0 K s.h w->GK T K->Q0 K s s'->VRL K vs' vs->(∃v' w' K',(callFunc f vs'.toArray).run P w=.ok (.value v') w'/\Step B0 w0 K s' w' K'/\VR K' v' v)\/((callFunc f vs'.toArray).run P w=.ok (.enter f vs'.toArray) w/\Calls P f vs'.toArray w λe w'=>∃v' K',e=.returned v'/\Step B0 w0 K s' w' K'/\VR K' v' v))
theorem b0S (n):O7 n=List.replicate n undef:=by induction n with|zero=>rfl|succ n ih=>grind[O7]
theorem VRL.replicate (n):VRL K (List.replicate n undef) (List.replicate n undef):=⟨zu,λi v' v h1 h2=>by rw[List.getElem?_replicate]at h1 h2;by_cases hi:i<n;rw[wT hi]at h1 h2;grind[VR.undef];simp_all⟩
theorem b0F (hT:TabOk P T)(hM:P.follows .mixedOrders=true){ext}(hE:b6Z P T B0 w0 ext)(n):a2N P T B0 w0 (a4P P T ext n):=by
 induction n with
  |zero=>intro f vs s v s' w K vs' h;cases h|succ n ih=>
   intro f vs s v s' w K vs' h S hg F hvs;have h0:(match ext f with|some g=>g vs|none=>M.obind (T.funcs.get f) λfn=>enter P T (a4P P T ext n) n fn f vs) s=some (v,s'):=h;have hFc:=Fr.callV P T hE.1 n;cases hx:ext f with
    |some g=>rw[hx]at h0;exact hE.2 f g hx vs s v s' w K vs' h0 S hg F hvs|none=>
     rw[hx]at h0;obtain⟨fn,hfn,h1⟩:=x8 h0;obtain⟨hPf,hnum⟩:=hT.funcs f fn hfn;unfold enter at h1;cases hb:fn.body with
      |none=>
       left;rw[hb]at h1;obtain⟨hpl,h2⟩:=y8 h1;obtain⟨x,hx1,h3⟩:=x8 h2;obtain⟨u,hu,h4⟩:=x8 h3;obtain⟨hna,h5⟩:=y8 h4;have hxv:x=.value u:=by cases x<;>first|(cases hu;rfl)|cases hu
       subst hxv;obtain⟨e,rfl⟩:=j7 h5;subst e;have hvv:vs'=vs:=by
        apply wE;intro i;by_cases hi:i<vs.length;have hi':i<vs'.length:=by rw[hvs.len];exact hi
        have r:=hvs.at_ i _ _ (xP hi') (xP hi);rw[xP hi',xP hi];have hp:=(C9 _ _).1 hpl vs[i] (vo hi);rw[r.eq_of_plain hp];rw[ww (by rw[hvs.len];omega),ww zy]
       rw[hvv];exact⟨_,w,K,a4K hx1 w,Step.same S rfl,T5 _ _ hna⟩|some c=>
       right;rw[hb]at h1;obtain⟨⟨ex,fr1⟩,s1,h2,h3⟩:=o7 h1;have hle:s1.c<=s'.c:=by
        have:Fr (a9g T fn (ex,fr1)):=by grind[a9g,Fr.fail,Fr.bind,Fr.resultsV,Fr.pure]
        exact this.le h3
       refine⟨?_,?_⟩;simp_all[callFunc];refine calls_of_wp hPf hb ?_;rw[v8,y9,b0S]at h2;refine(b7J hT hM ih hFc n).1 c _ s ex fr1 s1 K _ w _ h2 S (F.left hle) ?_ hg λe a' w' L=>?_;show VRL K (vs'.toArray++Array.replicate (fn.ntmps-vs'.toArray.size) undef).toList (vs++List.replicate (fn.ntmps-vs.length) undef);simp only[uZ,uV,um,hvs.len];exact hvs.append (VRL.replicate _);obtain⟨K1,st,r1,d1,e1⟩:=L;obtain⟨f1,f2,f3,v',f4,f5⟩:=b3P hT h3 r1 st.sim;have st2:Step B0 w0 K s' w' K1:=⟨st.le,λi g hi=>st.far i g zy,by rw[f2];exact st.sim⟩;cases ex with|exit id=>simp_all|normal=>have e1:e=.normal:=e1;subst e1;exact⟨d1,v',f4,v',K1,rfl,st2,f5⟩|ret=>have e1:e=.ret:=e1;subst e1;exact⟨d1,v',f4,v',K1,rfl,st2,f5⟩
end
end Go.V
end
