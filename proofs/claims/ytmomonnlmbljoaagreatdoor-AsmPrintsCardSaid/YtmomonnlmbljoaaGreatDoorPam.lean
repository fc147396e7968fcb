import Derived.Test.YtmomonnlmbljoaaGreatDoorPaa
import Derived.Test.YtmomonnlmbljoaaGreatDoorPaj
section
noncomputable section
namespace Go.V
inductive CR where
 | ret (v:Value)
 | pan (v:Value)
inductive Xc where
 | normal
 | exit (id:Nat)
 | ret
 | pan (v:Value)
abbrev o8:=Nat→List Value→M CR
def bcase {α:Type} (b:Bool) (x y:α):α:=Bool.rec (motive:=fun _=>α) y x b
def K5 {β:Type} (v:Value) (x y:M β):M β:=match v with
 | .bool b=>bcase b x y
 | _=>M.fail
def a3L {β:Type} (r:CR) (kn kp:Value→M β):M β:=match r with
 | .ret v=>kn v
 | .pan v=>kp v
def O4 {β:Type} (x:Xc) (kn:M β) (ke:Nat→M β) (kr:M β) (kp:Value→M β):M β:=match x with
 | .normal=>kn
 | .exit id=>ke id
 | .ret=>kr
 | .pan v=>kp v
def a2S {σ:Type} (body:σ→M (Xc×σ)) (n:Nat):σ→M (Xc×σ):=
 Nat.rec (motive:=fun _=>σ→M (Xc×σ)) (fun _=>M.fail)
  (fun _ ih x=>M.bind (body x) fun r=>O4 r.1 (ih r.2) (fun id=>M.pure (.exit id,r.2)) (M.pure (.ret,r.2)) (fun v=>M.pure (.pan v,r.2))) n
def b4H {α:Type} (l:List Value):(List Value→α)→α:=
 List.rec (motive:=fun _=>(List Value→α)→α) (fun k=>k []) (fun x _ ih k=>a7C x fun x=>ih fun l=>k (x::l)) l
def c2L (body:List Value→M (Xc×List Value)) (n:Nat):List Value→M (Xc×List Value):=
 Nat.rec (motive:=fun _=>List Value→M (Xc×List Value)) (fun _=>M.fail)
  (fun _ ih x=>M.bind (body x) fun r=>b4H r.2 fun xs=>O4 r.1 (ih xs) (fun id=>M.pure (.exit id,xs)) (M.pure (.ret,xs)) (fun v=>M.pure (.pan v,xs))) n
structure Cb where
 bv:∀ β:Type,M Value→(Value→M β)→M β
 bc:∀ β:Type,M CR→(Value→M β)→(Value→M β)→M β
 lp:(List Value→M (Xc×List Value))→Nat→List Value→M (Xc×List Value)
 bj:∀ β:Type,M (Xc×List Value)→(Xc→List Value→M β)→M β
def H8:Cb:=⟨fun _ m k=>M.bind m k,fun _ m kn kp=>M.bind m fun r=>a3L r kn kp,a2S,fun _ m k=>M.bind m fun r=>k r.1 r.2⟩
def X0:Cb:=⟨fun _ m k=>M.bind m fun v=>a7C v k,fun _ m kn kp=>M.bind m fun r=>a3L r (fun v=>a7C v kn) kp,c2L,fun _ m k=>M.bind m fun r=>b4H r.2 fun xs=>k r.1 xs⟩
def a2s (fr:List Value) (W:List Nat):List Value:=a1R (j4 fr) W
def a8T (vs:List Value) (W:List Nat):Nat→List Value→List Value:=
 List.rec (motive:=fun _=>Nat→List Value→List Value) (fun _ fr=>fr) (fun t _ ih i fr=>ih (Nat.succ i) (a8C fr t (j4 vs i))) W
def a1I (W:List Nat) (vs fr:List Value):List Value:=a8T vs W 0 fr
section
variable (p:Program) (T:Tab)
def b7A:Nat→List Value→M Value:=fun _ _=>M.fail
def a1M (call:o8):Nat→List Value→M Value:=fun f vs=>M.bind (call f vs) fun r=>a3L r M.pure fun _=>M.fail
def a4Q (v:Value) (vs:List Value):Option (Nat×List Value):=match v with
 | .func fn first captured=>match fn with
   | .func g=>some (g,M4 first.toList (M4 vs captured.toList))
   | _=>none
 | _=>none
def b0w (fr:List Value) (f:Operand) (args:List Operand):Option (Nat×List Value):=match a2o T fr f with
 | some v=>match a2Q T fr args with
   | some vs=>a4Q v vs
   | none=>none
 | none=>none
def a7k:Value→Bool
 | .iface _ _=>true
 | _=>false
def a5L (cb:Cb) (call:o8) {β:Type} (fr:List Value) (o:Op) (kn kp:Value→M β):M β:=match o with
 | .move x=>M.obind (a2o T fr x) kn
 | .assign x=>M.obind (a2o T fr x) kn
 | .call c=>match c.callee with
   | .value f=>M.obind (b0w T fr f c.args.toList) fun ga=>cb.bc β (call ga.1 ga.2) kn kp
   | .builtin b=>cb.bv β (a8p p T fr b c.args c.argTypes) kn
   | _=>M.fail
 | .panic x=>M.obind (a2o T fr x) fun v=>M.guard (a7k v) (kp v)
 | o=>cb.bv β (a7S p T fr o) kn
def b1s (cb:Cb) (pn:Bool) (call:o8) {β:Type} (os:List Oper):List Value→(Xc→List Value→M β)→M β:=
 List.rec (motive:=fun _=>List Value→(Xc→List Value→M β)→M β) (fun fr k=>k .normal fr)
  (fun o _ ih fr k=>a5L p T cb call fr o.op (fun v=>ih (a0B fr o v) k) (fun v=>bcase pn (k (.pan v) fr) M.fail)) os
def b6l:Option (Nat×Bool)→Option (Nat×Bool)→Bool
 | none,none=>true
 | some a,some b=>Nat.beq a.1 b.1 && (a.2 == b.2)
 | _,_=>false
def a9j (os:List Oper):List (Option (Nat×Bool)×List Oper):=
 List.rec (motive:=fun _=>List (Option (Nat×Bool)×List Oper)) [] (fun o _ ih=>match ih with
  | []=>[(o.guard, [o])]
  | g::gs=>match b6l o.guard g.1 with
    | true=>(g.1,o::g.2)::gs
    | false=>(o.guard, [o])::g::gs) os
def a0f (os:List Oper):List Nat:=List.rec (motive:=fun _=>List Nat) [] (fun o _ ih=>match o.dst with
 | some t=>t::ih
 | none=>ih) os
def b3y (cb:Cb) (pn:Bool) (call:o8) {β:Type} (ops:List Oper) (gs:List (Option (Nat×Bool)×List Oper)):List Value→(Xc→List Value→M β)→M β:=
 List.rec (motive:=fun _=>List Value→(Xc→List Value→M β)→M β) (fun fr k=>k .normal fr)
  (fun g _ ih fr k=>match g.1 with
    | none=>b1s p T cb pn call g.2 fr fun ex fr'=>O4 ex (ih fr' k) (fun _=>M.fail) M.fail fun v=>k (.pan v) fr'
    | some jb=>M.obind (a5x ops jb.1) fun t=>M.guard (!(a4O t (a0f g.2))) <|
      cb.bj β (bcase (Q5 jb.2 (j4 fr t)) (b1s p T cb pn call g.2 fr fun ex fr'=>M.pure (ex,a2s fr' (a0f g.2))) (M.pure (.normal,a3Y (L9 (a0f g.2)))))
       fun ex vs=>O4 ex (ih (a1I (a0f g.2) vs fr) k) (fun _=>M.fail) M.fail fun v=>bcase pn (k (.pan v) (a1I (a0f g.2) vs fr)) M.fail) gs
def b3z (call:o8) (ops:List Oper) (n:Nat) (U:List Nat) (vs:List Value) (W:List Nat):M (Xc×List Value):=
 M.bind (a4e p T (a1M call) ops ops (a1I U vs (a3Y n))) fun y=>M.guard (a0A ops (a1Y ops y.2) [] [] 0) <| M.pure (.normal,a2s y.1 W)
def a6d (ops os:List Oper):List Nat:=List.rec (motive:=fun _=>List Nat) [] (fun o _ ih=>M4 (a4U ops o) ih) os
def b6J (i:Nat) (l:List Nat):List Nat:=match a4O i l with
 | true=>l
 | false=>i::l
def a6u (l:List Nat):List Nat:=List.rec (motive:=fun _=>List Nat) [] (fun i _ ih=>b6J i ih) l
def c0T (cb:Cb) (pn:Bool) (call:o8) {β:Type} (ops:List Oper) (draw:Bool) (fr:List Value) (k:Xc→List Value→M β):M β:=match draw with
 | false=>b3y p T cb pn call ops (a9j ops) fr k
 | true=>cb.bj β (b3z p T call ops (L9 fr) (a6u (a6d ops ops)) (a2s fr (a6u (a6d ops ops))) (a0f ops)) fun _ vs=>k .normal (a1I (a0f ops) vs fr)
def a6c (call:o8) (ops os:List Oper):List Value→M (Xc×List Value):=
 List.rec (motive:=fun _=>List Value→M (Xc×List Value)) (fun fr=>M.pure (.normal,fr))
  (fun o _ ih fr=>match a3c ops fr o with
    | true=>a5L p T H8 call fr o.op (fun v=>ih (a0B fr o v)) (fun v=>M.pure (.pan v,fr))
    | false=>ih (a0B fr o undef)) os
def b2v (call:o8) (ops:List Oper) (draw:Bool) (fr:List Value):M (Xc×List Value):=match draw with
 | false=>a6c p T call ops ops fr
 | true=>M.bind (a4e p T (a1M call) ops ops fr) fun y=>M.guard (a0A ops (a1Y ops y.2) [] [] 0) <| M.pure (.normal,y.1)
def a6f (id:Nat) (x:Xc):Xc:=match x with
 | .exit id'=>match Nat.beq id' id with
   | true=>.normal
   | false=>.exit id'
 | x=>x
def a2A (N:Nat) (call:o8):Code→List Value→M (Xc×List Value)
 | .skip,fr=>M.pure (.normal,fr)
 | .region _ ops draw,fr=>b2v p T call ops.toList draw fr
 | .seq a b,fr=>M.bind (a2A N call a fr) fun r=>O4 r.1 (a2A N call b r.2) (fun id=>M.pure (.exit id,r.2)) (M.pure (.ret,r.2)) (fun v=>M.pure (.pan v,r.2))
 | .cond x a b,fr=>M.obind (a2o T fr x) fun v=>K5 v (a2A N call a fr) (a2A N call b fr)
 | .block id b,fr=>M.bind (a2A N call b fr) fun r=>M.pure (a6f id r.1,r.2)
 | .loop b,fr=>a2S (a2A N call b) N fr
 | .exit id,fr=>M.pure (.exit id,fr)
 | .ret,fr=>M.pure (.ret,fr)
 | _,_=>M.fail
inductive Pl where
 | d
 | s (j:Option (List Nat)) (a b:Pl)
 | l (W:List Nat) (a:Pl)
def Pl.a:Pl→Pl
 | .d=>.d
 | .s _ a _=>a
 | .l _ a=>a
def Pl.b:Pl→Pl
 | .s _ _ b=>b
 | _=>.d
def Pl.j:Pl→Option (List Nat)
 | .s j _ _=>j
 | _=>none
def Pl.w:Pl→List Nat
 | .l W _=>W
 | _=>[]
def a3Z:Code→List Nat
 | .region _ ops _=>a0f ops.toList
 | .seq a b=>M4 (a3Z a) (a3Z b)
 | .cond _ a b=>M4 (a3Z a) (a3Z b)
 | .block _ b=>a3Z b
 | .loop b=>a3Z b
 | _=>[]
def c5l (l m:List Nat):Bool:=a0o (fun i=>a4O i m) l
def a6l:Code→List Nat
 | .seq a b=>M4 (a6l a) (a6l b)
 | .cond _ a b=>M4 (a6l a) (a6l b)
 | .block _ b=>a6l b
 | .loop b=>a6l b
 | .exit id=>[id]
 | _=>[]
def hasRet:Code→Bool
 | .seq a b=>hasRet a || hasRet b
 | .cond _ a b=>hasRet a || hasRet b
 | .block _ b=>hasRet b
 | .loop b=>hasRet b
 | .ret=>true
 | _=>false
def b4P {β:Type} (E:List Nat) (id:Nat) (k:Xc→M β):M β:=List.rec (motive:=fun _=>M β) M.fail (fun e _ ih=>bcase (Nat.beq id e) (k (.exit e)) ih) E
def b2j {β:Type} (pn:Bool) (E:List Nat) (n r:Bool) (ex:Xc) (k:Xc→M β):M β:=
 O4 ex (bcase n (k .normal) M.fail) (fun id=>b4P E id k) (bcase r (k .ret) M.fail) (fun v=>bcase pn (k (.pan v)) M.fail)
def a5b (cb:Cb) (pn:Bool) (N:Nat) (call:o8):Code→Pl→(β:Type)→List Value→(Xc→List Value→M β)→M β
 | .skip,_,_,fr,k=>k .normal fr
 | .region _ ops draw,_,_,fr,k=>c0T p T cb pn call ops.toList draw fr k
 | .seq a b,pl, β,fr,k=>match pl.j with
   | none=>a5b cb pn N call a pl.a β fr fun ex fr'=>O4 ex (a5b cb pn N call b pl.b β fr' k) (fun id=>k (.exit id) fr') (k .ret fr') (fun v=>k (.pan v) fr')
   | some W=>M.guard (c5l (a3Z a) W) <| cb.bj β (a5b cb pn N call a pl.a (Xc×List Value) fr fun ex fr'=>M.pure (ex,a2s fr' W))
    fun ex vs=>b2j pn (a6u (a6l a)) true (hasRet a) ex fun x=>O4 x (a5b cb pn N call b pl.b β (a1I W vs fr) k) (fun id=>k (.exit id) (a1I W vs fr)) (k .ret (a1I W vs fr)) (fun v=>k (.pan v) (a1I W vs fr))
 | .cond x a b,pl, β,fr,k=>M.obind (a2o T fr x) fun v=>K5 v (a5b cb pn N call a pl.a β fr k) (a5b cb pn N call b pl.b β fr k)
 | .block id b,pl, β,fr,k=>a5b cb pn N call b pl.a β fr fun ex fr'=>k (a6f id ex) fr'
 | .loop b,pl, β,fr,k=>M.guard (c5l (a3Z b) pl.w) <|
  cb.bj β (cb.lp (fun xs=>a5b cb pn N call b pl.a (Xc×List Value) (a1I pl.w xs fr) fun ex fr'=>M.pure (ex,a2s fr' pl.w)) N (a2s fr pl.w))
   fun ex vs=>b2j pn (a6u (a6l b)) false (hasRet b) ex fun x=>k x (a1I pl.w vs fr)
 | .exit id,_,_,fr,k=>k (.exit id) fr
 | .ret,_,_,fr,k=>k .ret fr
 | _,_,_,_,_=>M.fail
def b1w (cb:Cb) {β:Type} (fr:List Value) (rs:List ResultVar):(List Value→M β)→M β:=
 List.rec (motive:=fun _=>(List Value→M β)→M β) (fun k=>k []) (fun r _ ih k=>match r with
  | .tmp t=>ih fun vs=>k (j4 fr t::vs)
  | .cell a t=>a4T (j4 fr a) fun ad=>cb.bv β (a8c T t ad) fun v=>ih fun vs=>k (v::vs)) rs
def b8w (cb:Cb) (fn:Func) (ex:Xc) (fr:List Value):M CR:=
 O4 ex (b1w T cb fr fn.results.toList fun vs=>M.pure (.ret (b2V vs))) (fun _=>M.fail) (b1w T cb fr fn.results.toList fun vs=>M.pure (.ret (b2V vs))) fun v=>M.pure (.pan v)
def Y9 (cb:Cb) (pn:Bool) (N:Nat) (call:o8) (fn:Func) (c:Code) (pl:Pl) (args:List Value):M CR:=
 a5b p T cb pn N call c pl CR (M4 args (a3Y (fn.ntmps - L9 args))) fun ex fr=>b8w T cb fn ex fr
def a7e (N:Nat) (call:o8) (fn:Func) (f:Nat) (args:List Value):M CR:=match fn.body with
 | none=>M.bind (b4M p f args) fun v=>M.pure (.ret v)
 | some c=>M.bind (a2A p T N call c (M4 args (a3Y (fn.ntmps - L9 args)))) fun r=>b8w T H8 fn r.1 r.2
def b3t (ext:Nat→Option (List Value→M Value)) (N n:Nat):o8:=
 Nat.rec (motive:=fun _=>o8) (fun _ _=>M.fail) (fun _ ih f args=>match ext f with
  | some g=>M.bind (g args) fun v=>M.pure (.ret v)
  | none=>M.obind (T.funcs.get f) fun fn=>a7e p T N ih fn f args) n
abbrev a1N:=Trie (o8→List Value→M CR)
def K4 (sh:a1N) (n:Nat):o8:=
 Nat.rec (motive:=fun _=>o8) (fun _ _=>M.fail) (fun _ ih f args=>M.obind (sh.get f) fun g=>g ih args) n
end
end Go.V
end
section
noncomputable section
namespace Go.V
theorem c0o {α:Type} (l:List Value):∀ k:List Value→α,b4H l k=k l:=by
 induction l with
 | nil=>intro k; rfl
 | cons x l ih=>
   intro k
   show a7C x (fun x=>b4H l fun l=>k (x::l))=_
   rw [a7Y,ih]
theorem b1U:X0=H8:=by
 unfold X0 H8
 have h1:(fun (β:Type) (m:M Value) (k:Value→M β)=>M.bind m fun v=>a7C v k)=fun _ m k=>M.bind m k:=by
  funext β m k; congr 1; funext v; exact a7Y v k
 have h2:(fun (β:Type) (m:M CR) (kn kp:Value→M β)=>M.bind m fun r=>a3L r (fun v=>a7C v kn) kp)=fun _ m kn kp=>M.bind m fun r=>a3L r kn kp:=by
  funext β m kn kp; congr 1; funext r; congr 1; funext v; exact a7Y v kn
 have h3:c2L=a2S:=by
  funext body n
  induction n with
  | zero=>rfl
  | succ n ih=>
    funext x
    show M.bind (body x) (fun r=>b4H r.2 fun xs=>O4 r.1 (c2L body n xs) (fun id=>M.pure (.exit id,xs)) (M.pure (.ret,xs)) (fun v=>M.pure (.pan v,xs)))=M.bind (body x) fun r=>O4 r.1 (a2S body n r.2) (fun id=>M.pure (.exit id,r.2)) (M.pure (.ret,r.2)) (fun v=>M.pure (.pan v,r.2))
    congr 1; funext r; rw [c0o,ih]
 have h4:(fun (β:Type) (m:M (Xc×List Value)) (k:Xc→List Value→M β)=>M.bind m fun r=>b4H r.2 fun xs=>k r.1 xs)=fun _ m k=>M.bind m fun r=>k r.1 r.2:=by
  funext β m k; congr 1; funext r; rw [c0o]
 rw [h1,h2,h3,h4]
def Le {α:Type} (m m':M α):Prop:=∀ s r,m s=some r→m' s=some r
theorem Le.refl {α:Type} (m:M α):Le m m:=fun _ _ h=>h
theorem Le.trans {α:Type} {a b c:M α} (h:Le a b) (k:Le b c):Le a c:=fun s r e=>k s r (h s r e)
theorem Le.fail {α:Type} (m:M α):Le M.fail m:=fun _ _ h=>by cases h
theorem a3a {α β:Type} {m:M α} {f:α→M β} {s s1:S} {a:α} {r:β×S} (h:m s=some (a,s1)) (h':f a s1=some r):M.bind m f s=some r:=by
 unfold M.bind; rw [h]; exact h'
theorem Le.bind {α β:Type} {m m':M α} {f f':α→M β} (h:Le m m') (k:∀ a,Le (f a) (f' a)):Le (M.bind m f) (M.bind m' f'):=fun s r e=>by
 obtain ⟨a,s1,h1,h2⟩:=O7 (s2:=r.2) (b:=r.1) e
 exact a3a (h s _ h1) (k a s1 _ h2)
theorem Le.obind {α β:Type} {o:Option α} {f f':α→M β} (k:∀ a,o=some a→Le (f a) (f' a)):Le (M.obind o f) (M.obind o f'):=by
 cases o with
 | none=>exact Le.fail _
 | some a=>exact k a rfl
theorem Le.obind_bind {α β γ:Type} {o:Option α} {f:α→M γ} {f':α→M β} {g:β→M γ} (k:∀ a,o=some a→Le (f a) (M.bind (f' a) g)):Le (M.obind o f) (M.bind (M.obind o f') g):=by
 cases o with
 | none=>exact Le.fail _
 | some a=>exact k a rfl
theorem Le.guard {α:Type} {b:Bool} {m m':M α} (h:b=true→Le m m'):Le (M.guard b m) m':=by
 cases b with
 | true=>exact h rfl
 | false=>exact Le.fail _
theorem a3T {α β γ:Type} (m:M α) (f:α→M β) (g:β→M γ):M.bind (M.bind m f) g=M.bind m fun a=>M.bind (f a) g:=by
 funext s; unfold M.bind; cases m s <;> rfl
theorem e1g {α β:Type} (a:α) (f:α→M β):M.bind (M.pure a) f=f a:=Eq.trans rfl rfl
theorem a8M {β γ:Type} (x:Xc) (a:M β) (b:Nat→M β) (c:M β) (d:Value→M β) (g:β→M γ):M.bind (O4 x a b c d) g=O4 x (M.bind a g) (fun i=>M.bind (b i) g) (M.bind c g) (fun v=>M.bind (d v) g):=by
 cases x <;> rfl
theorem a7m {β:Type} {x:Xc} {a a':M β} {b b':Nat→M β} {c c':M β} {d d':Value→M β} (h1:x=.normal→Le a a') (h2:∀ i,x=.exit i→Le (b i) (b' i)) (h3:x=.ret→Le c c') (h4:∀ v,x=.pan v→Le (d v) (d' v)) :
 Le (O4 x a b c d) (O4 x a' b' c' d'):=by
 cases x with
 | normal=>exact h1 rfl
 | exit i=>exact h2 i rfl
 | ret=>exact h3 rfl
 | pan v=>exact h4 v rfl
theorem c4F {β γ:Type} {r:CR} {kn kp:Value→M γ} {kn' kp':Value→M β} {g:β→M γ} (h1:∀ v,Le (kn v) (M.bind (kn' v) g)) (h2:∀ v,Le (kp v) (M.bind (kp' v) g)):Le (a3L r kn kp) (M.bind (a3L r kn' kp') g):=by
 cases r with
 | ret v=>exact h1 v
 | pan v=>exact h2 v
theorem b5c (fr:List Value) (W:List Nat):a2s fr W=W.map (j4 fr):=a3I _ _
theorem b5S (v:Value) (vs:List Value) (W:List Nat):∀ (i:Nat) (fr:List Value),a8T (v::vs) W (Nat.succ i) fr=a8T vs W i fr:=by
 induction W with
 | nil=>intro i fr; rfl
 | cons t W ih=>intro i fr; exact ih (Nat.succ i) _
theorem b2K (t:Nat) (W:List Nat) (v:Value) (vs fr:List Value):a1I (t::W) (v::vs) fr=a1I W vs (a8C fr t v):=b5S v vs W 0 _
theorem b4a (W:List Nat):∀ (fr' fr:List Value),fr'.length=fr.length→∀ t,(a1I W (a2s fr' W) fr)[t]?=if t∈W then fr'[t]? else fr[t]?:=by
 induction W with
 | nil=>intro fr' fr _ t; simp [a1I,a8T]
 | cons u W ih=>
   intro fr' fr hl t
   have e:a2s fr' (u::W)=j4 fr' u::a2s fr' W:=rfl
   rw [e,b2K,ih fr' (a8C fr u (j4 fr' u)) (by rw [a8V]; simpa using hl) t]
   by_cases h1:t∈W
   · rw [if_pos h1,if_pos (List.mem_cons_of_mem _ h1)]
   · rw [if_neg h1,a8V,List.getElem?_set]
     by_cases h2:u=t
     · subst h2
       rw [if_pos rfl,if_pos List.mem_cons_self,a5n]
       by_cases h3:u<fr.length
       · rw [if_pos h3,List.getElem?_eq_getElem (by omega)]; rfl
       · rw [if_neg h3,List.getElem?_eq_none (by omega)]
     · rw [if_neg h2,if_neg (by simp only [List.mem_cons,not_or]; exact ⟨fun e=>h2 e.symm,h1⟩)]
theorem a4W {W:List Nat} {fr' fr:List Value} (hl:fr'.length=fr.length) (h:∀ t,t ∉ W→fr'[t]?=fr[t]?):a1I W (a2s fr' W) fr=fr':=by
 apply List.ext_getElem?
 intro t
 rw [b4a W fr' fr hl t]
 by_cases ht:t∈W
 · rw [if_pos ht]
 · rw [if_neg ht,h t ht]
theorem b4D (vs:List Value) (W:List Nat):∀ (i:Nat) (fr:List Value),(a8T vs W i fr).length=fr.length:=by
 induction W with
 | nil=>intro i fr; rfl
 | cons u W ih=>
   intro i fr
   show (a8T vs W (Nat.succ i) (a8C fr u (j4 vs i))).length=_
   rw [ih,a8V]; simp
theorem b5R (W:List Nat) (vs fr:List Value):(a1I W vs fr).length=fr.length:=b4D vs W 0 fr
theorem a7z {α:Type} {b:Bool} {m m':M α} (h:Le m m'):Le (bcase b m M.fail) m':=by
 cases b with
 | true=>exact h
 | false=>exact Le.fail _
section
variable {p:Program} {T:Tab} {call:o8} {pn:Bool}
theorem c5W {β γ:Type} {fr:List Value} {o:Op} {kn kp:Value→M γ} {kn' kp':Value→M β} {g:β→M γ} (h1:∀ v,Le (kn v) (M.bind (kn' v) g)) (h2:∀ v,Le (kp v) (M.bind (kp' v) g)) :
 Le (a5L p T H8 call fr o kn kp) (M.bind (a5L p T H8 call fr o kn' kp') g):=by
 have hs:∀ m:M Value,Le (H8.bv γ m kn) (M.bind (H8.bv β m kn') g):=fun m=>by
  show Le (M.bind m kn) (M.bind (M.bind m kn') g)
  rw [a3T]
  exact Le.bind (Le.refl _) h1
 unfold a5L
 split
 · exact Le.obind_bind fun v _=>h1 v
 · exact Le.obind_bind fun v _=>h1 v
 · split
   · refine Le.obind_bind fun ga _=>?_
     show Le (M.bind (call ga.1 ga.2) fun r=>a3L r kn kp) (M.bind (M.bind (call ga.1 ga.2) fun r=>a3L r kn' kp') g)
     rw [a3T]
     exact Le.bind (Le.refl _) fun r=>c4F h1 h2
   · exact hs _
   · exact Le.fail _
 · refine Le.obind_bind fun v _=>?_
   cases hb:a7k v with
   | true=>exact h2 v
   | false=>exact Le.fail _
 · exact hs _
theorem a5A (ops:List Oper) (o:Oper) (os:List Oper) (fr:List Value):a6c p T call ops (o::os) fr=match a3c ops fr o with
 | true=>a5L p T H8 call fr o.op (fun v=>a6c p T call ops os (a0B fr o v)) (fun v=>M.pure (.pan v,fr))
 | false=>a6c p T call ops os (a0B fr o undef):=rfl
theorem c3x (cb:Cb) {β:Type} (o:Oper) (os:List Oper) (fr:List Value) (k:Xc→List Value→M β):b1s p T cb pn call (o::os) fr k=a5L p T cb call fr o.op (fun v=>b1s p T cb pn call os (a0B fr o v) k) (fun v=>bcase pn (k (.pan v) fr) M.fail):=rfl
theorem c0H {β:Type} (ops:List Oper) (g:Option (Nat×Bool)) (hw:∀ (fr:List Value) (o:Oper),o.guard=g→(∀ jb,g=some jb→∀ t,a5x ops jb.1=some t→Q5 jb.2 (j4 fr t)=true)→a3c ops fr o=true) :
 ∀ (os:List Oper),(∀ o∈os,o.guard=g)→(∀ jb,g=some jb→∃ t,a5x ops jb.1=some t∧t ∉ a0f os)→∀ (fr:List Value),(∀ jb,g=some jb→∀ t,a5x ops jb.1=some t→Q5 jb.2 (j4 fr t)=true) →
   ∀ (k k':Xc→List Value→M β),(∀ x fr,Le (k x fr) (k' x fr))→Le (b1s p T H8 pn call os fr k) (M.bind (a6c p T call ops os fr) fun r=>k' r.1 r.2):=by
 intro os
 induction os with
 | nil=>intro _ _ fr _ k k' hk; exact hk _ _
 | cons o os ih=>
   intro ho hd fr hb k k' hk
   rw [c3x,a5A,hw fr o (ho o List.mem_cons_self) hb]
   refine c5W (fun v=>?_) (fun v=>a7z (hk _ _))
   refine ih (fun x hx=>ho x (List.mem_cons_of_mem _ hx)) (fun jb e=>?_) _ (fun jb e t ht=>?_) k k' hk
   · obtain ⟨t,h1,h2⟩:=hd jb e
     refine ⟨t,h1,fun q=>h2 ?_⟩
     show t∈(match o.dst with | some u=>u::a0f os | none=>a0f os)
     cases o.dst with
     | none=>exact q
     | some u=>exact List.mem_cons_of_mem _ q
   · obtain ⟨t',h1,h2⟩:=hd jb e
     rw [ht] at h1; cases h1
     have h2':t ∉ (match o.dst with | some u=>u::a0f os | none=>a0f os):=h2
     have e2:j4 (a0B fr o v) t=j4 fr t:=by
      apply a6p
      rw [a4J]
      rw [if_neg]
      rintro ⟨q,_⟩
      unfold a4z at q
      cases hd:o.dst with
      | none=>rw [hd] at q; cases q
      | some u=>rw [hd] at q h2'; simp at q; exact h2' (by simp [q])
     rw [e2]
     exact hb jb e t ht
theorem c3m {ops:List Oper} {fr:List Value} {o:Oper} (h:o.guard=none):a3c ops fr o=true:=by unfold a3c; rw [h]
theorem b5f {ops:List Oper} {fr:List Value} {o:Oper} {jb:Nat×Bool} {t:Nat} (h:o.guard=some jb) (ht:a5x ops jb.1=some t):a3c ops fr o=Q5 jb.2 (j4 fr t):=by
 unfold a3c; rw [h]; simp only; rw [ht]
theorem b9T (ops:List Oper) (r:List Oper):∀ (l:List Oper) (fr:List Value),a6c p T call ops (l ++ r) fr=M.bind (a6c p T call ops l fr) fun x=>O4 x.1 (a6c p T call ops r x.2) (fun id=>M.pure (.exit id,x.2)) (M.pure (.ret,x.2)) (fun v=>M.pure (.pan v,x.2)):=by
 intro l
 induction l with
 | nil=>intro fr; rfl
 | cons o l ih=>
   intro fr
   rw [List.cons_append,a5A,a5A]
   cases a3c ops fr o with
   | false=>exact ih _
   | true=>
     have step:∀ (kn kp kn' kp':Value→M (Xc×List Value)) (g:(Xc×List Value)→M (Xc×List Value)),(∀ v,kn v=M.bind (kn' v) g)→(∀ v,kp v=M.bind (kp' v) g)→a5L p T H8 call fr o.op kn kp=M.bind (a5L p T H8 call fr o.op kn' kp') g:=by
      intro kn kp kn' kp' g h1 h2
      have hs:∀ m:M Value,H8.bv (Xc×List Value) m kn=M.bind (H8.bv (Xc×List Value) m kn') g:=fun m=>by
       show M.bind m kn=M.bind (M.bind m kn') g
       rw [a3T]; congr 1; funext v; exact h1 v
      have ho:∀ x:Option Value,M.obind x kn=M.bind (M.obind x kn') g:=fun x=>by cases x with | none=>rfl | some v=>exact h1 v
      unfold a5L
      split
      · exact ho _
      · exact ho _
      · split
        · rename_i f _
          cases b0w T fr f _ with
          | none=>rfl
          | some ga=>
            show M.bind (call ga.1 ga.2) (fun r=>a3L r kn kp)=M.bind (M.bind (call ga.1 ga.2) fun r=>a3L r kn' kp') g
            rw [a3T]; congr 1; funext r
            cases r with
            | ret v=>exact h1 v
            | pan v=>exact h2 v
        · exact hs _
        · rfl
      · rename_i x _
        cases a2o T fr x with
        | none=>rfl
        | some v=>
          show M.guard (a7k v) (kp v)=M.bind (M.guard (a7k v) (kp' v)) g
          cases a7k v with
          | true=>exact h2 v
          | false=>rfl
      · exact hs _
     exact step _ _ _ _ _ (fun v=>ih _) (fun v=>rfl)
theorem b9K {β:Type} {fr:List Value} {o:Op} {kn kp:Value→M β} {s s':S} {b:β} {Q:β→Prop} (h:a5L p T H8 call fr o kn kp s=some (b,s'))
 (h1:∀ v s,kn v s=some (b,s')→Q b) (h2:∀ v s,kp v s=some (b,s')→Q b):Q b:=by
 have hs:∀ m:M Value,H8.bv β m kn s=some (b,s')→Q b:=fun m q=>by
  obtain ⟨v,s1,_,q2⟩:=O7 (f:=kn) q
  exact h1 v s1 q2
 have ho:∀ x:Option Value,M.obind x kn s=some (b,s')→Q b:=fun x q=>by
  obtain ⟨v,_,q2⟩:=U2 q
  exact h1 v s q2
 cases o with
 | move x=>exact ho _ h
 | assign x=>exact ho _ h
 | call c=>
   obtain ⟨cal,args,ts⟩:=c
   cases cal with
   | value f=>
     obtain ⟨ga,_,q⟩:=U2 h
     obtain ⟨r,s1,_,q2⟩:=O7 (f:=fun r=>a3L r kn kp) q
     cases r with
     | ret v=>exact h1 v s1 q2
     | pan v=>exact h2 v s1 q2
   | builtin b=>exact hs _ h
   | invoke r m=>cases h
 | panic x=>
   obtain ⟨v,_,q⟩:=U2 h
   obtain ⟨_,q2⟩:=U1 q
   exact h2 v s q2
 | _=>exact hs _ h
theorem a7h {o:Oper} {os:List Oper} {t:Nat}:t∈a0f (o::os) ↔ t∈a4z o∨t∈a0f os:=by
 show t∈(match o.dst with | some u=>u::a0f os | none=>a0f os) ↔ _
 unfold a4z
 cases o.dst with
 | none=>simp
 | some u=>simp
theorem b3q (ops:List Oper):∀ (os:List Oper) (fr:List Value) (s s':S) (x:Xc×List Value),a6c p T call ops os fr s=some (x,s')→x.2.length=fr.length∧∀ t,t ∉ a0f os→x.2[t]?=fr[t]?:=by
 intro os
 induction os with
 | nil=>intro fr s s' x h; obtain ⟨rfl,rfl⟩:=J8 h; exact ⟨rfl,fun _ _=>rfl⟩
 | cons o os ih=>
   intro fr s s' x h
   have next:∀ v s1,a6c p T call ops os (a0B fr o v) s1=some (x,s')→x.2.length=fr.length∧∀ t,t ∉ a0f (o::os)→x.2[t]?=fr[t]?:=by
    intro v s1 q
    obtain ⟨h1,h2⟩:=ih _ _ _ _ q
    refine ⟨by rw [h1,a5w],fun t ht=>?_⟩
    rw [a7h,not_or] at ht
    rw [h2 t ht.2,a4J,if_neg (fun q=>ht.1 q.1)]
   rw [a5A] at h
   cases hw:a3c ops fr o with
   | false=>rw [hw] at h; exact next _ _ h
   | true=>
     rw [hw] at h
     refine b9K (Q:=fun b=>b.2.length=fr.length∧∀ t,t ∉ a0f (o::os)→b.2[t]?=fr[t]?) h next (fun v s1 q=>?_)
     obtain ⟨rfl,rfl⟩:=J8 q
     exact ⟨rfl,fun _ _=>rfl⟩
theorem c4q (ops:List Oper) (jb:Nat×Bool) (t:Nat) (ht:a5x ops jb.1=some t):∀ (os:List Oper),(∀ o∈os,o.guard=some jb)→t ∉ a0f os→∀ (fr:List Value),Q5 jb.2 (j4 fr t)=false →
 a6c p T call ops os fr=M.pure (.normal,a1I (a0f os) (a3Y (L9 (a0f os))) fr):=by
 intro os
 induction os with
 | nil=>intro _ _ fr _; rfl
 | cons o os ih=>
   intro ho hd fr hb
   rw [a5A,b5f (ho o List.mem_cons_self) ht,hb]
   rw [a7h,not_or] at hd
   have e2:j4 (a0B fr o undef) t=j4 fr t:=by
    apply a6p
    rw [a4J,if_neg (fun q=>hd.1 q.1)]
   simp only
   rw [ih (fun x hx=>ho x (List.mem_cons_of_mem _ hx)) hd.2 _ (by rw [e2]; exact hb)]
   congr 2
   show a1I (a0f os) (a3Y (L9 (a0f os))) (a0B fr o undef)=a1I (match o.dst with | some u=>u::a0f os | none=>a0f os) (a3Y (L9 (match o.dst with | some u=>u::a0f os | none=>a0f os))) fr
   unfold a0B
   cases o.dst with
   | none=>rfl
   | some u=>exact (b2K u (a0f os) undef (a3Y (L9 (a0f os))) fr).symm
theorem c5k {a b:Option (Nat×Bool)} (h:b6l a b=true):a=b:=by
 cases a with
 | none=>cases b with
   | none=>rfl
   | some b=>cases h
 | some a=>cases b with
   | none=>cases h
   | some b=>
     obtain ⟨a1,a2⟩:=a
     obtain ⟨b1,b2⟩:=b
     have h:(Nat.beq a1 b1 && (a2 == b2))=true:=h
     simp only [Bool.and_eq_true,beq_iff_eq] at h
     rw [Nat.eq_of_beq_eq_true h.1,h.2]
theorem b9Q (os:List Oper):(a9j os).flatMap (·.2)=os∧∀ g∈a9j os, ∀ o∈g.2,o.guard=g.1:=by
 induction os with
 | nil=>exact ⟨rfl,fun g hg=>by cases hg⟩
 | cons o os ih=>
   have e:a9j (o::os)=(match a9j os with
    | []=>[(o.guard, [o])]
    | g::gs=>match b6l o.guard g.1 with
      | true=>(g.1,o::g.2)::gs
      | false=>(o.guard, [o])::g::gs):=rfl
   rw [e]
   cases hg:a9j os with
   | nil=>
     rw [hg] at ih
     refine ⟨by rw [← ih.1]; rfl,fun g h x hx=>?_⟩
     simp at h; subst h; simp at hx; subst hx; rfl
   | cons g gs=>
     rw [hg] at ih
     simp only
     cases hs:b6l o.guard g.1 with
     | true=>
       refine ⟨by rw [← ih.1]; rfl,fun g' h x hx=>?_⟩
       simp only [List.mem_cons] at h
       rcases h with rfl | h
       · simp only [List.mem_cons] at hx
         rcases hx with rfl | hx
         · exact c5k hs
         · exact ih.2 g List.mem_cons_self x hx
       · exact ih.2 g' (List.mem_cons_of_mem _ h) x hx
     | false=>
       refine ⟨by rw [← ih.1]; rfl,fun g' h x hx=>?_⟩
       simp only [List.mem_cons] at h
       rcases h with rfl | rfl | h
       · simp at hx; subst hx; rfl
       · exact ih.2 _ List.mem_cons_self x hx
       · exact ih.2 g' (List.mem_cons_of_mem _ h) x hx
theorem c4P {β:Type} (ops:List Oper):∀ (gs:List (Option (Nat×Bool)×List Oper)),(∀ g∈gs, ∀ o∈g.2,o.guard=g.1)→∀ (fr:List Value) (k k':Xc→List Value→M β),(∀ x fr,Le (k x fr) (k' x fr)) →
 Le (b3y p T H8 pn call ops gs fr k) (M.bind (a6c p T call ops (gs.flatMap (·.2)) fr) fun r=>k' r.1 r.2):=by
 intro gs
 induction gs with
 | nil=>intro _ fr k k' hk; exact hk _ _
 | cons g gs ih=>
   intro hg fr k k' hk
   obtain ⟨gd,l⟩:=g
   have hl:=hg _ List.mem_cons_self
   have ih':=fun fr=>ih (fun g h=>hg g (List.mem_cons_of_mem _ h)) fr k k' hk
   show Le (match gd with
    | none=>b1s p T H8 pn call l fr fun ex fr'=>O4 ex (b3y p T H8 pn call ops gs fr' k) (fun _=>M.fail) M.fail fun v=>k (.pan v) fr'
    | some jb=>M.obind (a5x ops jb.1) fun t=>M.guard (!(a4O t (a0f l))) <|
      H8.bj β (bcase (Q5 jb.2 (j4 fr t)) (b1s p T H8 pn call l fr fun ex fr'=>M.pure (ex,a2s fr' (a0f l))) (M.pure (.normal,a3Y (L9 (a0f l)))))
       fun ex vs=>O4 ex (b3y p T H8 pn call ops gs (a1I (a0f l) vs fr) k) (fun _=>M.fail) M.fail fun v=>bcase pn (k (.pan v) (a1I (a0f l) vs fr)) M.fail)
    (M.bind (a6c p T call ops (l ++ gs.flatMap (·.2)) fr) fun r=>k' r.1 r.2)
   rw [b9T,a3T]
   cases gd with
   | none=>
     refine Le.trans (c0H ops none (fun fr o h _=>c3m h) l hl (fun jb e=>by cases e) fr (fun jb e=>by cases e) _ (fun x fr'=>O4 x (M.bind (a6c p T call ops (gs.flatMap (·.2)) fr') fun r=>k' r.1 r.2) (fun _=>M.fail) M.fail fun v=>k' (.pan v) fr') (fun x fr'=>?_)) ?_
     · exact a7m (fun _=>ih' fr') (fun _ _=>Le.fail _) (fun _=>Le.fail _) (fun v _=>hk _ _)
     · refine Le.bind (Le.refl _) fun r=>?_
       rw [a8M]
       exact a7m (fun _=>Le.refl _) (fun _ _=>Le.fail _) (fun _=>Le.fail _) (fun v _=>Le.refl _)
   | some jb=>
     dsimp only
     cases ht:a5x ops jb.1 with
     | none=>exact Le.fail _
     | some t=>
       refine Le.guard fun hm=>?_
       have hm':t ∉ a0f l:=fun q=>by rw [(a7X _ _).2 q] at hm; cases hm
       show Le (M.bind (bcase (Q5 jb.2 (j4 fr t)) (b1s p T H8 pn call l fr fun ex fr'=>M.pure (ex,a2s fr' (a0f l))) (M.pure (.normal,a3Y (L9 (a0f l)))))
        fun r=>O4 r.1 (b3y p T H8 pn call ops gs (a1I (a0f l) r.2 fr) k) (fun _=>M.fail) M.fail fun v=>bcase pn (k (.pan v) (a1I (a0f l) r.2 fr)) M.fail) _
       cases hb:Q5 jb.2 (j4 fr t) with
       | false=>
         rw [c4q ops jb t ht l hl hm' fr hb]
         exact ih' (a1I (a0f l) (a3Y (L9 (a0f l))) fr)
       | true=>
         intro s r e
         obtain ⟨x,s1,e1,e2⟩:=O7 (s2:=r.2) (b:=r.1) e
         have h1:=c0H (β:=Xc×List Value) ops (some jb) (fun fr o h hq=>by rw [b5f h ht]; exact hq jb rfl t ht) l hl (fun jb' e=>by cases e; exact ⟨t,ht,hm'⟩) fr (fun jb' e t' ht'=>by cases e; rw [ht] at ht'; cases ht'; exact hb)
          (fun ex fr'=>M.pure (ex,a2s fr' (a0f l))) (fun ex fr'=>M.pure (ex,a2s fr' (a0f l))) (fun _ _=>Le.refl _) s _ e1
         obtain ⟨y,s2,f1,f2⟩:=O7 h1
         obtain ⟨rfl,rfl⟩:=J8 f2
         obtain ⟨g1,g2⟩:=b3q ops l fr s _ y f1
         refine a3a f1 ?_
         simp only [] at e2
         rw [a4W g1 g2] at e2
         rw [a8M]
         refine a7m (fun _=>ih' _) (fun _ _=>Le.fail _) (fun _=>Le.fail _) (fun v _=>a7z (hk _ _)) _ _ e2
end
end Go.V
end
