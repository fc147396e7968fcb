import Derived.Test.YtmomonnlmbljoaaGreatDoorBaa
import Derived.Test.YtmomonnlmbljoaaGreatDoorBae
set_option maxRecDepth 1000000
set_option maxHeartbeats 4000000
set_option linter.unusedVariables false
set_option linter.unusedSimpArgs false
section
noncomputable section
namespace Go.V
theorem c4k {α}(l):∀k:List Value->α,c2Y l k=k l:=by induction l with|nil=>intro k;rfl|cons x l ih=>intro k;show a7Y x (λx=>c2Y l λl=>k (x::l))=_;rw[a8y,ih]
theorem a6g:a3R=o9:=by
 unfold a3R o9;have h1:(λ(β:Type) (m:M Value) (k:Value->M β)=>M.bind m λv=>a7Y v k)=λ_ m k=>M.bind m k:=by funext β m k;simp_all[a8y]
 have h2:(λ(β:Type) (m:M CR) (kn kp:Value->M β)=>M.bind m λr=>a1s r (λv=>a7Y v kn) kp)=λ_ m kn kp=>M.bind m λr=>a1s r kn kp:=by funext β m kn kp;simp_all[a8y]
 have h3:c5U=U4:=by funext body n;induction n<;>first|rfl|grind[c5U,U4,c4k]
 have h4:(λ(β:Type) (m:M (Xc×List Value)) (k:Xc->List Value->M β)=>M.bind m λr=>c2Y r.2 λxs=>k r.1 xs)=λ_ m k=>M.bind m λr=>k r.1 r.2:=by funext β m k;grind[c4k]
 rw[h1,h2,h3,h4]
def Le {α:Type}(m m':M α):Prop:=∀s r,m s=some r->m' s=some r
theorem Le.refl {α}(m:M α):Le m m:=λ_ _ h=>h
theorem Le.trans {α}{a b c:M α}(h:Le a b)(k:Le b c):Le a c:=λs r e=>k s r (h s r e)
theorem Le.fail {α}(m:M α):Le M.fail m:=λ_ _ h=>zg
theorem a1o {α β m}{f:α->M β}{s s1 a r}(h:m s=some (a,s1))(h':f a s1=some r):M.bind m f s=some r:=by grind[M.bind]
theorem Le.bind {α β m m'}{f f':α->M β}(h:Le m m')(k:∀a,Le (f a) (f' a)):Le (M.bind m f) (M.bind m' f'):=λs r e=>by obtain⟨a,s1,h1,h2⟩:=C8 (s2:=r.2) (b:=r.1) e;exact a1o (h s _ h1) (k a s1 _ h2)
theorem Le.obind {α β o}{f f':α->M β}(k:∀a,o=some a->Le (f a) (f' a)):Le (M.obind o f) (M.obind o f'):=by cases o with|none=>exact Le.fail _|some a=>exact k a rfl
theorem Le.obind_bind {α β γ o}{f:α->M γ}{f':α->M β}{g}(k:∀a,o=some a->Le (f a) (M.bind (f' a) g)):Le (M.obind o f) (M.bind (M.obind o f') g):=by cases o with|none=>exact Le.fail _|some a=>exact k a rfl
theorem Le.guard {α b}{m m':M α}(h:b=true->Le m m'):Le (M.guard b m) m':=by cases b with|true=>exact h rfl|false=>exact Le.fail _
theorem a1W {α β γ}(m:M α)(f)(g:β->M γ):M.bind (M.bind m f) g=M.bind m λa=>M.bind (f a) g:=by funext s;grind[M.bind]
theorem e7v {α β}(a)(f:α->M β):M.bind (M.pure a) f=f a:=wJ rfl rfl
theorem a9J {β γ}(x a b c d)(g:β->M γ):M.bind (U8 x a b c d) g=U8 x (M.bind a g) (λi=>M.bind (b i) g) (M.bind c g) (λv=>M.bind (d v) g):=by cases x<;>rfl
theorem a7j {β x}{a a':M β}{b b' c c' d d'}(h1:x=.normal->Le a a')(h2:∀i,x=.exit i->Le (b i) (b' i))(h3:x=.ret->Le c c')(h4:∀v,x=.pan v->Le (d v) (d' v)):Le (U8 x a b c d) (U8 x a' b' c' d'):=by cases x with|normal=>exact h1 rfl|exit i=>exact h2 i rfl|ret=>exact h3 rfl|pan v=>exact h4 v rfl
theorem d0d {β γ r}{kn kp:Value->M γ}{kn' kp':Value->M β}{g}(h1:∀v,Le (kn v) (M.bind (kn' v) g))(h2:∀v,Le (kp v) (M.bind (kp' v) g)):Le (a1s r kn kp) (M.bind (a1s r kn' kp') g):=by cases r with|ret v=>exact h1 v|pan v=>exact h2 v
theorem b8j (fr W):Q7 fr W=W.map (C9 fr):=a0R _ _
theorem b9e (v vs W):∀(i) (fr),a5K (v::vs) W (Nat.succ i) fr=a5K vs W i fr:=by induction W with|nil=>intro i fr;rfl|cons t W ih=>intro i fr;exact ih (Nat.succ i) _
theorem b4v (t W v vs fr):L9 (t::W) (v::vs) fr=L9 W vs (a4O fr t v):=b9e v vs W 0 _
theorem b6p (W):∀(fr' fr),fr'.length=fr.length->∀t,(L9 W (Q7 fr' W) fr)[t]?=if t∈W then fr'[t]? else fr[t]?:=by induction W with|nil=>grind[L9,a5K]|cons u W ih=>intro fr' fr hl t;have e:Q7 fr' (u::W)=C9 fr' u::Q7 fr' W:=rfl;rw[e,b4v,ih fr' (a4O fr u (C9 fr' u)) (by rw[a9X];grind) t];by_cases h1:t∈W;rw[vH h1,vH (vI _ h1)];rw[vN h1,a9X,qQ];by_cases h2:u=t;subst h2;rw[vH rfl,vH um,a4d];grind;grind
theorem a3h {W fr' fr}(hl:fr'.length=fr.length)(h:∀t,t∉W->fr'[t]?=fr[t]?):L9 W (Q7 fr' W) fr=fr':=by apply uj;simp_all[b6p]
theorem b7d (vs W):∀(i) (fr),(a5K vs W i fr).length=fr.length:=by induction W with|nil=>intro i fr;rfl|cons u W ih=>intro i fr;show(a5K vs W (Nat.succ i) (a4O fr u (C9 vs i))).length=_;rw[ih,a9X];simp
theorem b9d (W vs fr):(L9 W vs fr).length=fr.length:=b7d vs W 0 fr
theorem a7K {α b}{m m':M α}(h:Le m m'):Le (bcase b m M.fail) m':=by cases b with|true=>exact h|false=>exact Le.fail _
section
variable {p:Program}{T:Tab}{call:J7}{pn:Bool}
theorem d1n {β γ fr o}{kn kp:Value->M γ}{kn' kp':Value->M β}{g}(h1:∀v,Le (kn v) (M.bind (kn' v) g))(h2:∀v,Le (kp v) (M.bind (kp' v) g)):Le (a3U p T o9 call fr o kn kp) (M.bind (a3U p T o9 call fr o kn' kp') g):=by
 have hs:∀m:M Value,Le (o9.bv γ m kn) (M.bind (o9.bv β m kn') g):=λm=>by show Le (M.bind m kn) (M.bind (M.bind m kn') g);rw[a1W];exact Le.bind (Le.refl _) h1
 unfold a3U;split;grind[Le.obind_bind];grind[Le.obind_bind];split;refine Le.obind_bind λga _=>?_;show Le (M.bind (call ga.1 ga.2) λr=>a1s r kn kp) (M.bind (M.bind (call ga.1 ga.2) λr=>a1s r kn' kp') g);rw[a1W];grind[Le.bind,Le.refl,d0d];exact hs _;exact Le.fail _;refine Le.obind_bind λv _=>?_;cases hb:a5e v with|true=>exact h2 v|false=>exact Le.fail _
 grind
theorem a4T (ops:List Oper)(o:Oper)(os:List Oper)(fr:List Value):a5j p T call ops (o::os) fr=match a1U ops fr o with|true=>a3U p T o9 call fr o.op (λv=>a5j p T call ops os (Q6 fr o v)) (λv=>M.pure (.pan v,fr))|false=>a5j p T call ops os (Q6 fr o undef):=rfl
theorem c8U (cb){β}(o os fr)(k:Xc->List Value->M β):a0p p T cb pn call (o::os) fr k=a3U p T cb call fr o.op (λv=>a0p p T cb pn call os (Q6 fr o v) k) (λv=>bcase pn (k (.pan v) fr) M.fail):=rfl
theorem c3U {β}(ops g)(hw:∀(fr) (o),o.guard=g->(∀jb,g=some jb->∀t,a4l ops jb.1=some t->a1O jb.2 (C9 fr t)=true)->a1U ops fr o=true):∀(os),(∀o∈os,o.guard=g)->(∀jb,g=some jb->∃t,a4l ops jb.1=some t/\t∉O5 os)->∀(fr),(∀jb,g=some jb->∀t,a4l ops jb.1=some t->a1O jb.2 (C9 fr t)=true)->∀(k k':Xc->List Value->M β),(∀x fr,Le (k x fr) (k' x fr))->Le (a0p p T o9 pn call os fr k) (M.bind (a5j p T call ops os fr) λr=>k' r.1 r.2):=by
 intro os;induction os with
  |nil=>intro _ _ fr _ k k' hk;exact hk _ _|cons o os ih=>
   intro ho hd fr hb k k' hk;rw[c8U,a4T,hw fr o (ho o um) hb];refine d1n (λv=>?_) (λv=>a7K (hk _ _));refine ih (λx hx=>ho x (vI _ hx)) (λjb e=>?_) _ (λjb e t ht=>?_) k k' hk;grind[O5];obtain⟨t',h1,h2⟩:=hd jb e;rw[ht]at h1;cases h1;have h2':t∉(match o.dst with|some u=>u::O5 os|none=>O5 os):=h2;have e2:C9 (Q6 fr o v) t=C9 fr t:=by apply a5D;rw[a2S];rw[vN];grind[a2D]
   rw[e2];simp_all
theorem c8I {ops fr o}(h:o.guard=none):a1U ops fr o=true:=by grind[a1U]
theorem b8E {ops fr o jb}{t:Nat}(h:o.guard=some jb)(ht:a4l ops jb.1=some t):a1U ops fr o=a1O jb.2 (C9 fr t):=by grind[a1U]
theorem c3F (ops r):∀(l) (fr),a5j p T call ops (l++r) fr=M.bind (a5j p T call ops l fr) λx=>U8 x.1 (a5j p T call ops r x.2) (λid=>M.pure (.exit id,x.2)) (M.pure (.ret,x.2)) (λv=>M.pure (.pan v,x.2)):=by
 intro l;induction l with
  |nil=>intro fr;rfl|cons o l ih=>
   intro fr;rw[vD,a4T,a4T];cases a1U ops fr o with
    |false=>exact ih _|true=>
     have step:∀(kn kp kn' kp':Value->M (Xc×List Value)) (g:(Xc×List Value)->M (Xc×List Value)),(∀v,kn v=M.bind (kn' v) g)->(∀v,kp v=M.bind (kp' v) g)->a3U p T o9 call fr o.op kn kp=M.bind (a3U p T o9 call fr o.op kn' kp') g:=by
      intro kn kp kn' kp' g h1 h2;have hs:∀m:M Value,o9.bv (Xc×List Value) m kn=M.bind (o9.bv (Xc×List Value) m kn') g:=λm=>by show M.bind m kn=M.bind (M.bind m kn') g;rw[a1W];congr 1;funext v;exact h1 v
      have ho:∀x:Option Value,M.obind x kn=M.bind (M.obind x kn') g:=λx=>by cases x with|none=>rfl|some v=>exact h1 v
      unfold a3U;split;exact ho _;exact ho _;split;rename_i f _;cases a4S T fr f _ with|none=>rfl|some ga=>show M.bind (call ga.1 ga.2) (λr=>a1s r kn kp)=M.bind (M.bind (call ga.1 ga.2) λr=>a1s r kn' kp') g;rw[a1W];congr 1;funext r;cases r with|ret v=>exact h1 v|pan v=>exact h2 v
      exact hs _;rfl;rename_i x _;cases X7 T fr x with|none=>rfl|some v=>show M.guard (a5e v) (kp v)=M.bind (M.guard (a5e v) (kp' v)) g;cases a5e v with|true=>exact h2 v|false=>rfl
      grind
     exact step _ _ _ _ _ (λv=>ih _) (λv=>rfl)
theorem c3K {β fr o kn kp s s' b}{Q:β->Prop}(h:a3U p T o9 call fr o kn kp s=some (b,s'))(h1:∀v s,kn v s=some (b,s')->Q b)(h2:∀v s,kp v s=some (b,s')->Q b):Q b:=by
 have hs:∀m:M Value,o9.bv β m kn s=some (b,s')->Q b:=λm q=>by obtain⟨v,s1,_,q2⟩:=C8 (f:=kn) q;grind
 have ho:∀x:Option Value,M.obind x kn s=some (b,s')->Q b:=λx q=>by obtain⟨v,_,q2⟩:=G5 q;grind
 cases o with
  |move x=>exact ho _ h|assign x=>exact ho _ h|call c=>
   obtain⟨cal,args,ts⟩:=c;cases cal with
    |value f=>obtain⟨ga,_,q⟩:=G5 h;obtain⟨r,s1,_,q2⟩:=C8 (f:=λr=>a1s r kn kp) q;cases r with|ret v=>exact h1 v s1 q2|pan v=>exact h2 v s1 q2
    |builtin b=>exact hs _ h|invoke r m=>cases h
  |panic x=>obtain⟨v,_,q⟩:=G5 h;grind[G9]|_=>exact hs _ h
theorem a7c {o os t}:t∈O5 (o::os)↔t∈a2D o\/t∈O5 os:=by grind[O5,a2D]
theorem b6b (ops):∀(os) (fr) (s s') (x),a5j p T call ops os fr s=some (x,s')->x.2.length=fr.length/\∀t,t∉O5 os->x.2[t]?=fr[t]?:=by
 intro os;induction os with
  |nil=>intro fr s s' x h;obtain⟨rfl,rfl⟩:=q9 h;simp_all|cons o os ih=>
   intro fr s s' x h;have next:∀v s1,a5j p T call ops os (Q6 fr o v) s1=some (x,s')->x.2.length=fr.length/\∀t,t∉O5 (o::os)->x.2[t]?=fr[t]?:=by intro v s1 q;obtain⟨h1,h2⟩:=ih _ _ _ _ q;simp_all[a3Z,a7c,a2S]
   rw[a4T]at h;cases hw:a1U ops fr o with|false=>rw[hw]at h;grind|true=>rw[hw]at h;refine c3K (Q:=λb=>b.2.length=fr.length/\∀t,t∉O5 (o::os)->b.2[t]?=fr[t]?) h next (λv s1 q=>?_);obtain⟨rfl,rfl⟩:=q9 q;simp_all
theorem c9h (ops jb)(t:Nat)(ht:a4l ops jb.1=some t):∀(os),(∀o∈os,o.guard=some jb)->t∉O5 os->∀(fr),a1O jb.2 (C9 fr t)=false->a5j p T call ops os fr=M.pure (.normal,L9 (O5 os) (a0m (x8 (O5 os))) fr):=by
 intro os;induction os with
  |nil=>intro _ _ fr _;rfl|cons o os ih=>
   intro ho hd fr hb;rw[a4T,b8E (ho o um) ht,hb];rw[a7c,not_or]at hd;have e2:C9 (Q6 fr o undef) t=C9 fr t:=by apply a5D;rw[a2S,vN (λq=>hd.1 q.1)]
   simp only;rw[ih (λx hx=>ho x (vI _ hx)) hd.2 _ (by rw[e2];exact hb)];congr 2;show L9 (O5 os) (a0m (x8 (O5 os))) (Q6 fr o undef)=L9 (match o.dst with|some u=>u::O5 os|none=>O5 os) (a0m (x8 (match o.dst with|some u=>u::O5 os|none=>O5 os))) fr;unfold Q6;cases o.dst<;>simp_all[b4v,a0m,x8]
theorem d1b {a b}(h:a4h a b=true):a=b:=by
 cases a with
  |none=>cases b with|none=>rfl|some b=>cases h
  |some a=>cases b with|none=>cases h|some b=>obtain⟨a1,a2⟩:=a;obtain⟨b1,b2⟩:=b;have h:(Nat.beq a1 b1&&(a2==b2))=true:=h;simp_all
theorem c3j (os):(a1R os).flatMap (·.2)=os/\∀g∈a1R os,∀o∈g.2,o.guard=g.1:=by induction os with|nil=>exact⟨rfl,λg hg=>by cases hg⟩|cons o os ih=>have e:a1R (o::os)=(match a1R os with|[]=>[(o.guard,[o])]|g::gs=>match a4h o.guard g.1 with|true=>(g.1,o::g.2)::gs|false=>(o.guard,[o])::g::gs):=rfl;rw[e];cases hg:a1R os with|nil=>rw[hg]at ih;simp_all|cons g gs=>rw[hg]at ih;simp only;cases hs:a4h o.guard g.1 with|true=>refine⟨by rw[<-ih.1];rfl,λg' h x hx=>?_⟩;simp only[uw]at h;rcases h with rfl|h;simp only[uw]at hx;rcases hx with rfl|hx;exact d1b hs;simp_all;grind|false=>refine⟨by rw[<-ih.1];rfl,λg' h x hx=>?_⟩;grind
theorem d2B {β}(ops):∀(gs),(∀g∈gs,∀o∈g.2,o.guard=g.1)->∀(fr) (k k':Xc->List Value->M β),(∀x fr,Le (k x fr) (k' x fr))->Le (a8k p T o9 pn call ops gs fr k) (M.bind (a5j p T call ops (gs.flatMap (·.2)) fr) λr=>k' r.1 r.2):=by
 intro gs;induction gs with
  |nil=>intro _ fr k k' hk;exact hk _ _|cons g gs ih=>
   intro hg fr k k' hk;obtain⟨gd,l⟩:=g;have hl:=hg _ um;have ih':=λfr=>ih (λg h=>hg g (vI _ h)) fr k k' hk;show Le (match gd with|none=>a0p p T o9 pn call l fr λex fr'=>U8 ex (a8k p T o9 pn call ops gs fr' k) (λ_=>M.fail) M.fail λv=>k (.pan v) fr'|some jb=>M.obind (a4l ops jb.1) λt=>M.guard (!(a2M t (O5 l)))<|o9.bj β (bcase (a1O jb.2 (C9 fr t)) (a0p p T o9 pn call l fr λex fr'=>M.pure (ex,Q7 fr' (O5 l))) (M.pure (.normal,a0m (x8 (O5 l))))) λex vs=>U8 ex (a8k p T o9 pn call ops gs (L9 (O5 l) vs fr) k) (λ_=>M.fail) M.fail λv=>bcase pn (k (.pan v) (L9 (O5 l) vs fr)) M.fail) (M.bind (a5j p T call ops (l++gs.flatMap (·.2)) fr) λr=>k' r.1 r.2);rw[c3F,a1W];cases gd with
    |none=>refine Le.trans (c3U ops none (λfr o h _=>c8I h) l hl (λjb e=>zk) fr (λjb e=>zk) _ (λx fr'=>U8 x (M.bind (a5j p T call ops (gs.flatMap (·.2)) fr') λr=>k' r.1 r.2) (λ_=>M.fail) M.fail λv=>k' (.pan v) fr') (λx fr'=>?_)) ?_;grind[a7j,Le.fail];refine Le.bind (Le.refl _) λr=>?_;rw[a9J];exact a7j (λ_=>Le.refl _) (λ_ _=>Le.fail _) (λ_=>Le.fail _) (λv _=>Le.refl _)|some jb=>
     dsimp only;cases ht:a4l ops jb.1 with
      |none=>exact Le.fail _|some t=>
       refine Le.guard λhm=>?_;have hm':t∉O5 l:=λq=>by rw[(b0B _ _).2 q]at hm;cases hm
       show Le (M.bind (bcase (a1O jb.2 (C9 fr t)) (a0p p T o9 pn call l fr λex fr'=>M.pure (ex,Q7 fr' (O5 l))) (M.pure (.normal,a0m (x8 (O5 l))))) λr=>U8 r.1 (a8k p T o9 pn call ops gs (L9 (O5 l) r.2 fr) k) (λ_=>M.fail) M.fail λv=>bcase pn (k (.pan v) (L9 (O5 l) r.2 fr)) M.fail) _;cases hb:a1O jb.2 (C9 fr t)with|false=>rw[c9h ops jb t ht l hl hm' fr hb];exact ih' (L9 (O5 l) (a0m (x8 (O5 l))) fr)|true=>intro s r e;obtain⟨x,s1,e1,e2⟩:=C8 (s2:=r.2) (b:=r.1) e;have h1:=c3U (β:=Xc×List Value) ops (some jb) (λfr o h hq=>by rw[b8E h ht];simp_all) l hl (λjb' e=>zn) fr (λjb' e t' ht'=>zn) (λex fr'=>M.pure (ex,Q7 fr' (O5 l))) (λex fr'=>M.pure (ex,Q7 fr' (O5 l))) (λ_ _=>Le.refl _) s _ e1;obtain⟨y,s2,f1,f2⟩:=C8 h1;obtain⟨rfl,rfl⟩:=q9 f2;obtain⟨g1,g2⟩:=b6b ops l fr s _ y f1;refine a1o f1 ?_;simp only[]at e2;rw[a3h g1 g2]at e2;rw[a9J];refine a7j (λ_=>ih' _) (λ_ _=>Le.fail _) (λ_=>Le.fail _) (λv _=>a7K (hk _ _)) _ _ e2
end
end Go.V
end
section
noncomputable section
namespace Go.V
section
variable {p:Program}{T:Tab}{call:J7}{pn:Bool}
theorem c0o {ops os o}(h:o∈os){t}(ht:t∈a3o ops o):t∈a4w ops os:=by induction os with|nil=>cases h|cons x os ih=>show t∈D7 (a3o ops x) (a4w ops os);rw[D9,ut];grind
theorem c9W {l t}(h:t∈l):t∈a2O l:=by induction l with|nil=>cases h|cons i l ih=>show t∈c1Q i (a2O l);unfold c1Q;simp only[uw]at h;cases hm:a2M i (a2O l)with|true=>rcases h with rfl|h;grind[b0B];grind|false=>grind
theorem a9O {c}(ops):∀(os) (fr) (s s') (z),a2s p T c ops os fr s=some (z,s')->z.1.length=fr.length/\∀t,t∉O5 os->z.1[t]?=fr[t]?:=by
 intro os;induction os with
  |nil=>intro fr s s' z h;obtain⟨rfl,rfl⟩:=q9 h;simp_all|cons o os ih=>
   intro fr s s' z h;have key:∀(v:Value) (s1 s2:S) (y:List Value×List (List Nat×List Nat)),a2s p T c ops os (Q6 fr o v) s1=some (y,s2)->y.1.length=fr.length/\∀t,t∉O5 (o::os)->y.1[t]?=fr[t]?:=by intro v s1 s2 y hy;obtain⟨h1,h2⟩:=ih _ _ _ _ hy;simp_all[a3Z,a7c,a2S]
   rw[a7w]at h;split at h;obtain⟨x,s1,_,h2⟩:=C8 h;obtain⟨y,s2,h3,h4⟩:=C8 h2;obtain⟨rfl,rfl⟩:=q9 h4;grind;obtain⟨y,s2,h3,h4⟩:=C8 h;obtain⟨rfl,rfl⟩:=q9 h4;grind
theorem c6t {c}(ops)(A:Nat->Prop):∀(os),(∀o∈os,∀t∈a3o ops o,A t)->∀(fr fr2),fr.length=fr2.length->(∀t,A t->C9 fr t=C9 fr2 t)->∀s y s',a2s p T c ops os fr s=some (y,s')->∃fr',a2s p T c ops os fr2 s=some ((fr',y.2),s')/\∀t,A t\/t∈O5 os->C9 y.1 t=C9 fr' t:=by
 intro os;induction os with
  |nil=>intro _ fr fr2 hl hA s y s' h;obtain⟨rfl,rfl⟩:=q9 h;exact⟨fr2,rfl,λt ht=>ht.elim (hA t) (λq=>ze)⟩|cons o os ih=>
   intro ho fr fr2 hl hA s y s' h;obtain⟨c1,c2⟩:=b4t (P:=p) (T:=T) (call:=c) (ops:=ops) (o:=o) (fr:=fr) (fr2:=fr2) (λt ht=>hA t (ho o um t ht));have key:∀(v:Value) (s1 s2:S) (z:List Value×List (List Nat×List Nat)),a2s p T c ops os (Q6 fr o v) s1=some (z,s2)->∃fr',a2s p T c ops os (Q6 fr2 o v) s1=some ((fr',z.2),s2)/\∀t,A t\/t∈O5 (o::os)->C9 z.1 t=C9 fr' t:=by
    intro v s1 s2 z hz;have hput:∀t,A t\/t∈a2D o->C9 (Q6 fr o v) t=C9 (Q6 fr2 o v) t:=by intro t ht;rw[a4d,a4d,a2S,a2S,hl];by_cases hc:t∈a2D o/\t<fr2.length;rw[vH hc,vH hc];rw[vN hc,vN hc];grind[a4d]
    obtain⟨fr',e1,e4⟩:=ih (λx hx=>ho x (vI _ hx)) (Q6 fr o v) (Q6 fr2 o v) (by rw[a3Z,a3Z,hl]) (λt ht=>hput t (Or.inl ht)) s1 z s2 hz;refine⟨fr',e1,λt ht=>?_⟩;by_cases hc:A t\/t∈O5 os;grind;rw[not_or]at hc;have ht:t∈a2D o:=by grind[a7c]
    rw[a5D ((a9O ops os _ _ _ _ hz).2 t hc.2),a5D ((a9O ops os _ _ _ _ e1).2 t hc.2)];simp_all
   rw[a7w]at h;rw[a7w,<-c2,<-c1];cases hw:a1U ops fr o with|true=>rw[hw]at h;simp only[pz]at h⊢;obtain⟨x,s1,h1,h2⟩:=C8 h;obtain⟨z,s2,h3,h4⟩:=C8 h2;obtain⟨rfl,rfl⟩:=q9 h4;obtain⟨fr',e1,e2⟩:=key _ _ _ z h3;exact⟨fr',a1o h1 (a1o e1 rfl),e2⟩|false=>rw[hw]at h;simp only[uo,tO]at h⊢;obtain⟨z,s2,h3,h4⟩:=C8 h;obtain⟨rfl,rfl⟩:=q9 h4;obtain⟨fr',e1,e2⟩:=key _ _ _ z h3;exact⟨fr',a1o e1 rfl,e2⟩
theorem b6e (n):(a0m n).length=n:=by induction n<;>first|rfl|grind[a0m]
theorem c7v {β}(ops draw fr)(k k':Xc->List Value->M β)(hk:∀x fr,Le (k x fr) (k' x fr)):Le (b7F p T o9 pn call ops draw fr k) (M.bind (b3Y p T call ops draw fr) λr=>k' r.1 r.2):=by
 cases draw with
  |false=>obtain⟨h1,h2⟩:=c3j ops;have:=d2B (p:=p) (T:=T) (call:=call) (pn:=pn) (β:=β) ops (a1R ops) h2 fr k k' hk;rw[h1]at this;exact this|true=>
   intro s r h;have h:M.bind (b5H p T call ops (x8 fr) (a2O (a4w ops ops)) (Q7 fr (a2O (a4w ops ops))) (O5 ops)) (λx=>k .normal (L9 (O5 ops) x.2 fr)) s=some r:=h;obtain⟨x,s1,h1,h2⟩:=C8 (s2:=r.2) (b:=r.1) h;unfold b5H at h1;obtain⟨y,s2,h3,h4⟩:=C8 h1;obtain⟨h5,h6⟩:=G9 h4;obtain⟨rfl,rfl⟩:=q9 h6;have hlen:(L9 (a2O (a4w ops ops)) (Q7 fr (a2O (a4w ops ops))) (a0m (x8 fr))).length=fr.length:=by rw[b9d,b6e,F9]
   obtain⟨fr',e1,e2⟩:=c6t (p:=p) (T:=T) ops (λt=>t∈a2O (a4w ops ops)) ops (λo ho t ht=>c9W (c0o ho ht)) _ fr hlen (λt ht=>by apply a5D;rw[b6p _ _ _ (by rw[b6e,F9]),vH ht]) s y s1 h3;show M.bind (M.bind (a2s p T (a1P call) ops ops fr) λy=>M.guard (a2V ops (a4H ops y.2) [] [] 0)<|M.pure (Xc.normal,y.1)) (λr=>k' r.1 r.2) s=some r;refine a1o (a:=(Xc.normal,fr')) (s1:=s1) (a1o e1 ?_) ?_;simp_all[M.guard,M.pure];have e3:L9 (O5 ops) (Q7 y.1 (O5 ops)) fr=fr':=by
    have e4:Q7 y.1 (O5 ops)=Q7 fr' (O5 ops):=by rw[b8j,b8j];simp_all
    obtain⟨f1,f2⟩:=a9O ops ops fr s s1 _ e1;rw[e4];exact a3h f1 f2
   have h2:k .normal (L9 (O5 ops) (Q7 y.1 (O5 ops)) fr) s1=some r:=h2;rw[e3]at h2;exact hk _ _ _ _ h2
theorem b8V (ops draw fr s s' x)(h:b3Y p T call ops draw fr s=some (x,s')):x.2.length=fr.length/\∀t,t∉O5 ops->x.2[t]?=fr[t]?:=by cases draw with|false=>exact b6b ops ops fr s s' x h|true=>have h:M.bind (a2s p T (a1P call) ops ops fr) (λy=>M.guard (a2V ops (a4H ops y.2) [] [] 0)<|M.pure (Xc.normal,y.1)) s=some (x,s'):=h;obtain⟨y,s2,h3,h4⟩:=C8 h;obtain⟨_,h6⟩:=G9 h4;obtain⟨rfl,rfl⟩:=q9 h6;grind[a9O]
theorem b8C {β v}{x y:M β}{s r}(h:a5R v x y s=some r):(v=.bool true/\x s=some r)\/(v=.bool false/\y s=some r):=by
 cases v with
  |bool b=>cases b with|true=>exact Or.inl ⟨rfl,h⟩|false=>exact Or.inr ⟨rfl,h⟩
  |_=>cases h
theorem Z4 {σ}(body:σ->M (Xc×σ))(n x):U4 body (n+1) x=M.bind (body x) λr=>U8 r.1 (U4 body n r.2) (λid=>M.pure (.exit id,r.2)) (M.pure (.ret,r.2)) (λv=>M.pure (.pan v,r.2)):=rfl
theorem b4F (N):∀(c) (fr) (s s') (x),a0n p T N call c fr s=some (x,s')->x.2.length=fr.length/\∀t,t∉a0L c->x.2[t]?=fr[t]?:=by
 intro c;induction c with
  |skip=>intro fr s s' x h;obtain⟨rfl,rfl⟩:=q9 h;simp_all|region id ops draw=>intro fr s s' x h;exact b8V _ _ _ _ _ _ h|seq a b iha ihb=>intro fr s s' x h;have h:M.bind (a0n p T N call a fr) (λr=>U8 r.1 (a0n p T N call b r.2) (λid=>M.pure (.exit id,r.2)) (M.pure (.ret,r.2)) (λv=>M.pure (.pan v,r.2))) s=some (x,s'):=h;obtain⟨r,s1,h1,h2⟩:=C8 h;obtain⟨f1,f2⟩:=iha _ _ _ _ h1;have hw:∀t,t∉a0L (.seq a b)->t∉a0L a/\t∉a0L b:=λt ht=>wy;obtain⟨rx,rf⟩:=r;cases rx with|normal=>obtain⟨g1,g2⟩:=ihb _ _ _ _ h2;simp_all|_=>obtain⟨rfl,rfl⟩:=q9 h2;exact⟨f1,λt ht=>f2 t (hw t ht).1⟩
  |cond o a b iha ihb=>intro fr s s' x h;have hw:∀t,t∉a0L (.cond o a b)->t∉a0L a/\t∉a0L b:=λt ht=>wy;obtain⟨v,_,h1⟩:=G5 h;grind[b8C]|block id b ih=>intro fr s s' x h;obtain⟨r,s1,h1,h2⟩:=C8 h;obtain⟨rfl,rfl⟩:=q9 h2;exact ih _ _ _ r h1|loop b ih=>
   intro fr s s' x h;have h:U4 (a0n p T N call b) N fr s=some (x,s'):=h;have key:∀n fr s,U4 (a0n p T N call b) n fr s=some (x,s')->x.2.length=fr.length/\∀t,t∉a0L b->x.2[t]?=fr[t]?:=by intro n;induction n with|zero=>intro fr s h;cases h|succ n ihn=>intro fr s h;rw[Z4]at h;obtain⟨r,s1,h1,h2⟩:=C8 h;obtain⟨f1,f2⟩:=ih _ _ _ _ h1;obtain⟨rx,rf⟩:=r;cases rx with|normal=>obtain⟨g1,g2⟩:=ihn _ _ h2;simp_all|_=>obtain⟨rfl,rfl⟩:=q9 h2;exact⟨f1,f2⟩
   exact key N fr s h|exit id=>intro fr s s' x h;obtain⟨rfl,rfl⟩:=q9 h;simp_all|ret=>intro fr s s' x h;obtain⟨rfl,rfl⟩:=q9 h;simp_all|_=>intro fr s s' x h;cases h
theorem b8t {l m}(h:b0F l m=true){t}(ht:t∉m):t∉l:=λq=>ht ((b0B _ _).1 ((M4 _ _).1 h t q))
theorem c7H {β E id}{k k':Xc->M β}(h:∀x,Le (k x) (k' x)):Le (a4c E id k) (k' (.exit id)):=by induction E with|nil=>exact Le.fail _|cons e E ih=>show Le (bcase (Nat.beq id e) (k (.exit e)) (a4c E id k)) _;cases hb:Nat.beq id e with|true=>rw[wR hb];exact h _|false=>exact ih
theorem c2V {β E n r ex}{k k':Xc->M β}(h:∀x,Le (k x) (k' x)):Le (b4h pn E n r ex k) (k' ex):=by unfold b4h;cases ex with|normal=>exact a7K (h _)|exit id=>exact c7H h|ret=>exact a7K (h _)|pan v=>exact a7K (h _)
theorem d2E (N):∀(c) (pl) (β) (fr) (k k':Xc->List Value->M β),(∀x fr,Le (k x fr) (k' x fr))->Le (O1 p T o9 pn N call c pl β fr k) (M.bind (a0n p T N call c fr) λr=>k' r.1 r.2):=by
 intro c;induction c with
  |skip=>intro pl β fr k k' hk;exact hk _ _|region id ops draw=>intro pl β fr k k' hk;exact c7v _ _ _ _ _ hk|seq a b iha ihb=>intro pl β fr k k' hk;have hb:∀fr,Le (O1 p T o9 pn N call b pl.b β fr k) (M.bind (a0n p T N call b fr) λr=>k' r.1 r.2):=λfr=>ihb pl.b β fr k k' hk;show Le _ (M.bind (M.bind (a0n p T N call a fr) λr=>U8 r.1 (a0n p T N call b r.2) (λid=>M.pure (.exit id,r.2)) (M.pure (.ret,r.2)) (λv=>M.pure (.pan v,r.2))) λr=>k' r.1 r.2);rw[a1W];unfold O1;cases hj:pl.j with|none=>refine Le.trans (iha pl.a β fr _ (λex fr'=>U8 ex (M.bind (a0n p T N call b fr') λr=>k' r.1 r.2) (λid=>k' (.exit id) fr') (k' .ret fr') (λv=>k' (.pan v) fr')) (λx fr'=>?_)) ?_;grind[a7j];refine Le.bind (Le.refl _) λr=>?_;rw[a9J];exact a7j (λ_=>Le.refl _) (λ_ _=>Le.refl _) (λ_=>Le.refl _) (λv _=>Le.refl _)|some W=>refine Le.guard λhW=>?_;intro s r h;have h:M.bind (O1 p T o9 pn N call a pl.a (Xc×List Value) fr λex fr'=>M.pure (ex,Q7 fr' W)) (λx=>b4h pn (a2O (a2u a)) true (hasRet a) x.1 λy=>U8 y (O1 p T o9 pn N call b pl.b β (L9 W x.2 fr) k) (λid=>k (.exit id) (L9 W x.2 fr)) (k .ret (L9 W x.2 fr)) (λv=>k (.pan v) (L9 W x.2 fr))) s=some r:=h;obtain⟨x,s1,h1,h2⟩:=C8 (s2:=r.2) (b:=r.1) h;have h3:=iha pl.a (Xc×List Value) fr (λex fr'=>M.pure (ex,Q7 fr' W)) (λex fr'=>M.pure (ex,Q7 fr' W)) (λ_ _=>Le.refl _) s _ h1;obtain⟨y,s2,f1,f2⟩:=C8 h3;obtain⟨rfl,rfl⟩:=q9 f2;obtain⟨g1,g2⟩:=b4F N a fr s _ y f1;refine a1o f1 ?_;simp only[]at h2;rw[a3h g1 (λt ht=>g2 t (b8t hW ht))]at h2;rw[a9J];exact c2V (k':=λz=>U8 z (M.bind (a0n p T N call b y.2) λr=>k' r.1 r.2) (λid=>k' (.exit id) y.2) (k' .ret y.2) (λv=>k' (.pan v) y.2)) (λx=>a7j (λ_=>hb _) (λ_ _=>hk _ _) (λ_=>hk _ _) (λv _=>hk _ _)) _ _ h2
  |cond o a b iha ihb=>
   intro pl β fr k k' hk;show Le (M.obind (X7 T fr o) λv=>a5R v (O1 p T o9 pn N call a pl.a β fr k) (O1 p T o9 pn N call b pl.b β fr k)) (M.bind (M.obind (X7 T fr o) λv=>a5R v (a0n p T N call a fr) (a0n p T N call b fr)) λr=>k' r.1 r.2);refine Le.obind_bind λv _=>?_;cases v with
    |bool t=>cases t with|true=>exact iha pl.a β fr k k' hk|false=>exact ihb pl.b β fr k k' hk
    |_=>exact Le.fail _
  |block id b ih=>intro pl β fr k k' hk;show Le (O1 p T o9 pn N call b pl.a β fr λex fr'=>k (a6j id ex) fr') (M.bind (M.bind (a0n p T N call b fr) λr=>M.pure (a6j id r.1,r.2)) λr=>k' r.1 r.2);rw[a1W];exact ih pl.a β fr _ (λex fr'=>k' (a6j id ex) fr') (λx fr=>hk _ _)|loop b ih=>
   intro pl β fr k k' hk;refine Le.guard λhW=>?_;intro s r h;have h:M.bind (U4 (λxs=>O1 p T o9 pn N call b pl.a (Xc×List Value) (L9 pl.w xs fr) λex fr'=>M.pure (ex,Q7 fr' pl.w)) N (Q7 fr pl.w)) (λx=>b4h pn (a2O (a2u b)) false (hasRet b) x.1 λy=>k y (L9 pl.w x.2 fr)) s=some r:=h;obtain⟨x,s1,h1,h2⟩:=C8 (s2:=r.2) (b:=r.1) h;have key:∀n (fr0:List Value) (s s1:S) (x:Xc×List Value),fr0.length=fr.length->(∀t,t∉pl.w->fr0[t]?=fr[t]?)->U4 (λxs=>O1 p T o9 pn N call b pl.a (Xc×List Value) (L9 pl.w xs fr) λex fr'=>M.pure (ex,Q7 fr' pl.w)) n (Q7 fr0 pl.w) s=some (x,s1)->∃fr1,U4 (a0n p T N call b) n fr0 s=some ((x.1,fr1),s1)/\L9 pl.w x.2 fr=fr1:=by intro n;induction n with|zero=>intro fr0 s s1 x _ _ h;cases h|succ n ihn=>intro fr0 s s1 x hl hA h;rw[Z4]at h;obtain⟨y,s2,e1,e2⟩:=C8 h;have e3:=ih pl.a (Xc×List Value) (L9 pl.w (Q7 fr0 pl.w) fr) (λex fr'=>M.pure (ex,Q7 fr' pl.w)) (λex fr'=>M.pure (ex,Q7 fr' pl.w)) (λ_ _=>Le.refl _) s _ e1;rw[a3h hl hA]at e3;obtain⟨z,s3,f1,f2⟩:=C8 e3;obtain⟨rfl,rfl⟩:=q9 f2;obtain⟨g1,g2⟩:=b4F N b fr0 s _ z f1;have hz1:z.2.length=fr.length:=g1.trans hl;have hz2:∀t,t∉pl.w->z.2[t]?=fr[t]?:=λt ht=>(g2 t (b8t hW ht)).trans (hA t ht);obtain⟨zx,zf⟩:=z;cases zx with|normal=>obtain⟨fr1,q1,q2⟩:=ihn zf _ _ x hz1 hz2 e2;exact⟨fr1,by rw[Z4];exact a1o f1 q1,q2⟩|exit i=>obtain⟨rfl,rfl⟩:=q9 e2;exact⟨zf,by rw[Z4];exact a1o f1 rfl,a3h hz1 hz2⟩|ret=>obtain⟨rfl,rfl⟩:=q9 e2;exact⟨zf,by rw[Z4];exact a1o f1 rfl,a3h hz1 hz2⟩|pan v=>obtain⟨rfl,rfl⟩:=q9 e2;exact⟨zf,by rw[Z4];exact a1o f1 rfl,a3h hz1 hz2⟩
   obtain⟨fr1,q1,q2⟩:=key N fr s s1 x rfl (λ_ _=>rfl) h1;have h2:=c2V (k':=λy=>k' y (L9 pl.w x.2 fr)) (λy=>hk y _) _ _ h2;rw[q2]at h2;exact a1o (a:=(x.1,fr1)) q1 h2|exit id=>intro pl β fr k k' hk;exact hk _ _|ret=>intro pl β fr k k' hk;exact hk _ _|_=>intro pl β fr k k' hk;exact Le.fail _
end
end Go.V
end
section
namespace Go.V
open Go.RowKit (Below)
section
variable {P:Program}{T:Tab}{B0:Nat}{w0:Base}{w:World}{K:KM}{s s':S}{a:Act}{fr:List Value}{v:Value}
theorem a9p {β α}(l)(k:List β->α):fList l k=k l:=by induction l generalizing k with|nil=>rfl|cons x l ih=>exact ih _
theorem b4l {x t}(r:VR K x (.bool t)):x=.bool t:=by generalize hv:Value.bool t=z at r;cases r<;>simp_all
theorem b3i.from {s1 w1 K1 ds ex fr' e a' w'}(h1:Step B0 w0 K s1 w1 K1)(hc:s1.c<=s'.c)(h:b3i B0 w0 K1 s' ds ex fr' e a' w'):b3i B0 w0 K s' ds ex fr' e a' w':=by obtain⟨K',st,r,d,q⟩:=h;exact⟨K',h1.trans st hc,r,d,q⟩
theorem c2F (hT:TabOk P T)(hM:P.follows .mixedOrders=true){call}(hC:a4Q P T B0 w0 call)(hF:∀f vs,Fr (call f vs))(n):(∀c fr s ex fr' s' K a w Q,a6J P T call n c fr s=some ((ex,fr'),s')->Sim B0 w0 K s.h w->a0B K s s'->VRL K a.tmps.toList fr->GK T K->(∀e a' w',b3i B0 w0 K s' a.defers ex fr' e a' w'->Q e a' w')->c.wp P Q a w)/\(∀b fr s ex fr' s' K a w Q,a6J P T call n (.loop b) fr s=some ((ex,fr'),s')->Sim B0 w0 K s.h w->a0B K s s'->VRL K a.tmps.toList fr->GK T K->(∀e a' w',b3i B0 w0 K s' a.defers ex fr' e a' w'->Q e a' w')->Code.rounds P b Q n a w):=by
 induction n with
  |zero=>constructor;intro c fr s ex fr' s' K a w Q h;cases h;intro b fr s ex fr' s' K a w Q h;cases h|succ n ih=>
   obtain⟨ihA,ihB⟩:=ih;have hFe:∀c fr,Fr (a6J P T call n c fr):=Fr.exec P T hF n;have hB:∀b fr s ex fr' s' K a w Q,a6J P T call (n+1) (.loop b) fr s=some ((ex,fr'),s')->Sim B0 w0 K s.h w->a0B K s s'->VRL K a.tmps.toList fr->GK T K->(∀e a' w',b3i B0 w0 K s' a.defers ex fr' e a' w'->Q e a' w')->Code.rounds P b Q (n+1) a w:=by intro b fr s ex fr' s' K a w Q h S F hf hg hq;have h1:fList fr (λfr=>M.bind (a6J P T call n b fr) λr=>match r.1 with|.normal=>a6J P T call n (.loop b) r.2|.exit id=>M.pure (.exit id,r.2)|.ret=>M.pure (.ret,r.2)) s=some ((ex,fr'),s'):=h;rw[a9p]at h1;obtain⟨⟨x1,fr1⟩,s1,h2,h3⟩:=C8 h1;show b.wp P (Exit.then (Code.rounds P b Q n) Q) a w;cases x1 with|normal=>have h3:a6J P T call n (.loop b) fr1 s1=some ((ex,fr'),s'):=h3;have hle:=(hFe _ _).le h3;refine ihA b fr s .normal fr1 s1 K a w _ h2 S (F.left hle) hf hg λe a' w' L=>?_;obtain⟨K1,st,r1,d1,e1⟩:=L;have e1:e=.normal:=e1;subst e1;show Code.rounds P b Q n a' w';exact ihB b fr1 s1 ex fr' s' K1 a' w' Q h3 st.sim (F.right (hFe _ _) h2) r1 (hg.mono st.le) λe a2 w2 L=>hq e a2 w2 (b3i.from st hle (d1▸L))|exit id=>have h3:M.pure (Ex.exit id,fr1) s1=some ((ex,fr'),s'):=h3;obtain⟨e,rfl⟩:=q9 h3;cases e;refine ihA b fr s _ _ _ K a w _ h2 S F hf hg λe a' w' L=>?_;have he:e=.exit id:=L.choose_spec.2.2.2;subst he;exact hq _ _ _ L|ret=>have h3:M.pure (Ex.ret,fr1) s1=some ((ex,fr'),s'):=h3;obtain⟨e,rfl⟩:=q9 h3;cases e;refine ihA b fr s _ _ _ K a w _ h2 S F hf hg λe a' w' L=>?_;have he:e=.ret:=L.choose_spec.2.2.2;subst he;exact hq _ _ _ L
   refine⟨λc fr s ex fr' s' K a w Q h S F hf hg hq=>?_,hB⟩;have h0:c6R P T call (a6J P T call n) c fr s=some ((ex,fr'),s'):=h;cases c with
    |skip=>have h0:M.pure (Ex.normal,fr) s=some ((ex,fr'),s'):=h0;obtain⟨e,rfl⟩:=q9 h0;cases e;exact wp_skip (hq _ _ _ ⟨K,Step.same S rfl,hf,rfl,rfl⟩)|region id ops draw=>have h0:region P T call ops.toList draw fr s=some ((ex,fr'),s'):=h0;cases draw with|false=>have h0:M.bind (a6c P T call ops.toList ops.toList fr) (λfr'=>M.pure (Ex.normal,fr')) s=some ((ex,fr'),s'):=h0;obtain⟨fr1,s1,h1,h2⟩:=C8 h0;obtain⟨e,rfl⟩:=q9 h2;cases e;refine wp_region ?_;rw[pW];exact c8r hT hC hF ops ops.size 0 fr _ s _ K a w zq zo S F hf hg λa' w' K' st r d=>hq _ _ _ ⟨K',st,r,d,rfl⟩|true=>have h0:M.bind (a2s P T call ops.toList ops.toList fr) (λy=>M.guard (a2V ops.toList (a4H ops.toList y.2) [] [] 0)<|M.pure (Ex.normal,y.1)) s=some ((ex,fr'),s'):=h0;obtain⟨⟨fr1,feet⟩,s1,h1,h2⟩:=C8 h0;obtain⟨hok,h3⟩:=G9 h2;obtain⟨e,rfl⟩:=q9 h3;cases e;exact b4E hT hM hC hF ops h1 hok S F hf hg λa' w' K' st r d=>hq _ _ _ ⟨K',st,r,d,rfl⟩
    |seq x y=>have h0:M.bind (a6J P T call n x fr) (λr=>match r.1 with|.normal=>a6J P T call n y r.2|.exit id=>M.pure (.exit id,r.2)|.ret=>M.pure (.ret,r.2)) s=some ((ex,fr'),s'):=h0;obtain⟨⟨x1,fr1⟩,s1,h2,h3⟩:=C8 h0;refine wp_seq ?_;cases x1 with|normal=>have h3:a6J P T call n y fr1 s1=some ((ex,fr'),s'):=h3;have hle:=(hFe _ _).le h3;refine ihA x fr s .normal fr1 s1 K a w _ h2 S (F.left hle) hf hg λe a' w' L=>?_;obtain⟨K1,st,r1,d1,e1⟩:=L;have e1:e=.normal:=e1;subst e1;exact ihA y fr1 s1 ex fr' s' K1 a' w' Q h3 st.sim (F.right (hFe _ _) h2) r1 (hg.mono st.le) λe a2 w2 L=>hq e a2 w2 (b3i.from st hle (d1▸L))|exit id=>have h3:M.pure (Ex.exit id,fr1) s1=some ((ex,fr'),s'):=h3;obtain⟨e,rfl⟩:=q9 h3;cases e;refine ihA x fr s _ _ _ K a w _ h2 S F hf hg λe a' w' L=>?_;have he:e=.exit id:=L.choose_spec.2.2.2;subst he;exact hq _ _ _ L|ret=>have h3:M.pure (Ex.ret,fr1) s1=some ((ex,fr'),s'):=h3;obtain⟨e,rfl⟩:=q9 h3;cases e;refine ihA x fr s _ _ _ K a w _ h2 S F hf hg λe a' w' L=>?_;have he:e=.ret:=L.choose_spec.2.2.2;subst he;exact hq _ _ _ L
    |cond x c1 c2=>
     have h0:M.obind (X7 T fr x) (λv=>match v with
      |.bool t=>match t with|true=>a6J P T call n c1 fr|false=>a6J P T call n c2 fr
      |_=>M.fail) s=some ((ex,fr'),s'):=h0;obtain⟨u,e1,h1⟩:=G5 h0;have r:=O6 hf hg e1;cases u with
      |bool t=>have hb:=b4l r;cases t<;>first|rfl|grind[wp_cond_true,wp_cond_false]
      |_=>cases h1
    |block id b=>
     have h0:M.bind (a6J P T call n b fr) (λr=>match r.1 with
      |.normal=>M.pure (.normal,r.2)|.exit id'=>match Nat.beq id' id with|true=>M.pure (.normal,r.2)|false=>M.pure (.exit id',r.2)
      |.ret=>M.pure (.ret,r.2)) s=some ((ex,fr'),s'):=h0;obtain⟨⟨x1,fr1⟩,s1,h2,h3⟩:=C8 h0;refine wp_block ?_;cases x1 with
      |normal=>have h3:M.pure (Ex.normal,fr1) s1=some ((ex,fr'),s'):=h3;obtain⟨e,rfl⟩:=q9 h3;cases e;refine ihA b fr s _ _ _ K a w _ h2 S F hf hg λe a' w' L=>?_;have he:e=.normal:=L.choose_spec.2.2.2;subst he;exact hq _ _ _ L|exit id'=>have h3:(match Nat.beq id' id with|true=>M.pure (Ex.normal,fr1)|false=>M.pure (Ex.exit id',fr1)) s1=some ((ex,fr'),s'):=h3;cases hb:Nat.beq id' id with|true=>rw[hb]at h3;obtain⟨e,rfl⟩:=q9 h3;cases e;refine ihA b fr s _ _ _ K a w _ h2 S F hf hg λe a' w' L=>?_;obtain⟨K1,st,r1,d1,e1⟩:=L;have e1:e=.exit id':=e1;subst e1;show(if id'=id then Q .normal a' w' else Q (.exit id') a' w');rw[vH (wR hb)];exact hq _ _ _ ⟨K1,st,r1,d1,rfl⟩|false=>rw[hb]at h3;obtain⟨e,rfl⟩:=q9 h3;cases e;refine ihA b fr s _ _ _ K a w _ h2 S F hf hg λe a' w' L=>?_;have he:e=.exit id':=L.choose_spec.2.2.2;subst he;show(if id'=id then Q .normal a' w' else Q (.exit id') a' w');rw[vN (λq=>zn)];simp_all
      |ret=>have h3:M.pure (Ex.ret,fr1) s1=some ((ex,fr'),s'):=h3;obtain⟨e,rfl⟩:=q9 h3;cases e;refine ihA b fr s _ _ _ K a w _ h2 S F hf hg λe a' w' L=>?_;have he:e=.ret:=L.choose_spec.2.2.2;subst he;exact hq _ _ _ L
    |loop b=>exact nR (n+1) (hB b fr s ex fr' s' K a w Q h S F hf hg hq)|exit id=>have h0:M.pure (Ex.exit id,fr) s=some ((ex,fr'),s'):=h0;obtain⟨e,rfl⟩:=q9 h0;cases e;exact wp_exit (hq _ _ _ ⟨K,Step.same S rfl,hf,rfl,rfl⟩)|ret=>have h0:M.pure (Ex.ret,fr) s=some ((ex,fr'),s'):=h0;obtain⟨e,rfl⟩:=q9 h0;cases e;exact wp_ret (hq _ _ _ ⟨K,Step.same S rfl,hf,rfl,rfl⟩)|_=>cases h0
def b9v (tmps:Array Value):ResultVar->Sem Value|.tmp t=>pure (tmps.getD t undef)|.cell a t=>do loadVar t (<-asAddr (tmps.getD a undef))
theorem c2u (hT:TabOk P T){tmps}(hf:VRL K tmps.toList fr):∀(rs) (vs) (s s'),a3S T fr rs s=some (vs,s')->Sim B0 w0 K s.h w->s'.h=s.h/\s'.c=s.c/\∃vs',(rs.mapM (b9v tmps)).run P w=.ok vs' w/\VRL K vs' vs:=by
 have hget:∀t,VR K (tmps.getD t undef) (C9 fr t):=by intro t;have r:=hf.lget t;rw[a4d tmps.toList,a8f]at r;rw[qx];exact r
 intro rs;induction rs with
  |nil=>intro vs s s' h S;have h:M.pure ([]:List Value) s=some (vs,s'):=h;obtain⟨e,rfl⟩:=q9 h;cases e;exact⟨rfl,rfl,[],rfl,⟨rfl,λi v' v q=>by simp at q⟩⟩|cons r rs ih=>
   intro vs s s' h S;have cons:∀{x' x:Value} {ys' ys:List Value},VR K x' x->VRL K ys' ys->VRL K (x'::ys') (x::ys):=by intro x' x ys' ys r1 r2;refine⟨by simp[r2.len],λi v' v h1 h2=>?_⟩;cases i with|zero=>simp_all|succ i=>exact r2.at_ i v' v zo zo
   cases r with|tmp t=>have h:M.bind (a3S T fr rs) (λvs=>M.pure (C9 fr t::vs)) s=some (vs,s'):=h;obtain⟨ys,s1,h1,h2⟩:=C8 h;obtain⟨e,rfl⟩:=q9 h2;grind[b9v,Sem.run_bind,Sem.run_pure,Result.andThen_ok]|cell ad t=>have h:a0G (C9 fr ad) (λad=>M.bind (a4K T t ad) λv=>M.bind (a3S T fr rs) λvs=>M.pure (v::vs)) s=some (vs,s'):=h;obtain⟨adr,e0,h⟩:=a2U h;obtain⟨u,s1,h1,h2⟩:=C8 h;obtain⟨ys,s2,h3,h4⟩:=C8 h2;obtain⟨e,rfl⟩:=q9 h4;cases e;have r0:=hget ad;rw[e0]at r0;obtain⟨ad',e1,r1⟩:=a9k r0;obtain⟨u',p1,p2,p3,p4⟩:=b8d hT h1 S r1;obtain⟨q1,q2,vs',q3,q4⟩:=ih ys _ _ h3 (by rw[p3];exact S);simp_all[b9v,asAddr]
theorem b6n (hT:TabOk P T){fn ex fr' tmps}(h:b1k T fn (ex,fr') s=some (v,s'))(hf:VRL K tmps.toList fr')(S:Sim B0 w0 K s.h w):(∀id,ex≠.exit id)/\s'.h=s.h/\s'.c=s.c/\∃v',(results fn tmps).run P w=.ok v' w/\VR K v' v:=by
 have key:∀h:M.bind (a3S T fr' fn.results.toList) (λvs=>M.pure (a7I vs)) s=some (v,s'),s'.h=s.h/\s'.c=s.c/\∃v',(results fn tmps).run P w=.ok v' w/\VR K v' v:=by intro h;obtain⟨vs,s1,h1,h2⟩:=C8 h;obtain⟨e,rfl⟩:=q9 h2;cases e;obtain⟨q1,q2,vs',q3,q4⟩:=c2u hT hf _ _ _ _ h1 S;refine⟨q1,q2,(if h:vs'.toArray.size=1 then vs'.toArray[0]else .tuple vs'.toArray),?_,?_⟩;show(do let vs<-fn.results.mapM (b9v tmps);pure (if h:vs.size=1 then vs[0]else .tuple vs):Sem Value).run P w=_;rw[Array.mapM_eq_mapM_toList];simp_all;match vs,vs',q4 with|[],[],_=>exact .tuple rfl (λi v' v q=>by simp at q)|[x],[x'],q4=>exact q4.at_ 0 x' x rfl rfl|x::y::l,x'::y'::l',q4=>exact .tuple q4.len q4.at_|[],_::_,q4=>exact absurd q4.len zq|_::_,[],q4=>exact absurd q4.len zq|[_],_::_::_,q4=>exact absurd q4.len zq|_::_::_,[_],q4=>exact absurd q4.len zq
 cases ex with|exit id=>cases h|normal=>exact⟨λ_ q=>ze,key h⟩|ret=>exact⟨λ_ q=>ze,key h⟩
def b9i (P:Program)(T:Tab)(B0:Nat)(w0:Base)(ext:Nat->Option (List Value->M Value)):Prop:=(∀f g,ext f=some g->∀vs,Fr (g vs))/\(∀f g,ext f=some g->∀vs s v s' w K vs',g vs s=some (v,s')->Sim B0 w0 K s.h w->GK T K->a0B K s s'->VRL K vs' vs->(∃v' w' K',(callFunc f vs'.toArray).run P w=.ok (.value v') w'/\Step B0 w0 K s' w' K'/\VR K' v' v)\/((callFunc f vs'.toArray).run P w=.ok (.enter f vs'.toArray) w/\Calls P f vs'.toArray w λe w'=>∃v' K',e=.returned v'/\Step B0 w0 K s' w' K'/\VR K' v' v))
theorem b3D (n):a0m n=List.replicate n undef:=by induction n<;>first|rfl|grind[a0m]
theorem VRL.replicate (n):VRL K (List.replicate n undef) (List.replicate n undef):=⟨zq,λi v' v h1 h2=>by rw[List.getElem?_replicate]at h1 h2;by_cases hi:i<n;rw[vH hi]at h1 h2;grind[VR.undef];simp_all⟩
theorem b3B (hT:TabOk P T)(hM:P.follows .mixedOrders=true){ext}(hE:b9i P T B0 w0 ext)(n):a4Q P T B0 w0 (a7g P T ext n):=by
 induction n with
  |zero=>intro f vs s v s' w K vs' h;cases h|succ n ih=>
   intro f vs s v s' w K vs' h S hg F hvs;have h0:(match ext f with|some g=>g vs|none=>M.obind (T.funcs.get f) λfn=>enter P T (a7g P T ext n) n fn f vs) s=some (v,s'):=h;have hFc:=Fr.callV P T hE.1 n;cases hx:ext f with
    |some g=>rw[hx]at h0;exact hE.2 f g hx vs s v s' w K vs' h0 S hg F hvs|none=>
     rw[hx]at h0;obtain⟨fn,hfn,h1⟩:=G5 h0;obtain⟨hPf,hnum⟩:=hT.funcs f fn hfn;unfold enter at h1;cases hb:fn.body with
      |none=>
       left;rw[hb]at h1;obtain⟨hpl,h2⟩:=G9 h1;obtain⟨x,hx1,h3⟩:=G5 h2;obtain⟨u,hu,h4⟩:=G5 h3;obtain⟨hna,h5⟩:=G9 h4;have hxv:x=.value u:=by cases x<;>first|(cases hu;rfl)|cases hu
       subst hxv;obtain⟨e,rfl⟩:=q9 h5;subst e;have hvv:vs'=vs:=by
        apply uj;intro i;by_cases hi:i<vs.length;have hi':i<vs'.length:=by rw[hvs.len];exact hi
        have r:=hvs.at_ i _ _ (wO hi') (wO hi);rw[wO hi',wO hi];have hp:=(M4 _ _).1 hpl vs[i] (uP hi);rw[r.eq_of_plain hp];rw[vo (by rw[hvs.len];omega),vo zy]
       rw[hvv];exact⟨_,w,K,a6V hx1 w,Step.same S rfl,a0Y _ _ hna⟩|some c=>
       right;rw[hb]at h1;obtain⟨⟨ex,fr1⟩,s1,h2,h3⟩:=C8 h1;have hle:s1.c<=s'.c:=by
        have:Fr (b1k T fn (ex,fr1)):=by grind[b1k,Fr.fail,Fr.bind,Fr.resultsV,Fr.pure]
        exact this.le h3
       refine⟨?_,?_⟩;simp_all[callFunc];refine calls_of_wp hPf hb ?_;rw[D9,F9,b3D]at h2;refine(c2F hT hM ih hFc n).1 c _ s ex fr1 s1 K _ w _ h2 S (F.left hle) ?_ hg λe a' w' L=>?_;show VRL K (vs'.toArray++Array.replicate (fn.ntmps-vs'.toArray.size) undef).toList (vs++List.replicate (fn.ntmps-vs.length) undef);simp only[rX,rM,sI,hvs.len];exact hvs.append (VRL.replicate _);obtain⟨K1,st,r1,d1,e1⟩:=L;obtain⟨f1,f2,f3,v',f4,f5⟩:=b6n hT h3 r1 st.sim;have st2:Step B0 w0 K s' w' K1:=⟨st.le,λi g hi=>st.far i g zy,by rw[f2];exact st.sim⟩;cases ex with|exit id=>simp_all|normal=>have e1:e=.normal:=e1;subst e1;exact⟨d1,v',f4,v',K1,rfl,st2,f5⟩|ret=>have e1:e=.ret:=e1;subst e1;exact⟨d1,v',f4,v',K1,rfl,st2,f5⟩
end
end Go.V
end
