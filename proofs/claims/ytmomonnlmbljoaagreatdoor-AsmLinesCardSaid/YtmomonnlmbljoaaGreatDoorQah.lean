import Derived.Test.YtmomonnlmbljoaaGreatDoorQaa
import Derived.Test.YtmomonnlmbljoaaGreatDoorQaf
section
noncomputable section
namespace Go.V
inductive CR where
 | ret (v:Value)
 | pan (v:Value)
inductive Xc where
 | normal
 | exit (id:Nat)
 | ret
 | pan (v:Value)
abbrev j5:=Nat → List Value → M CR
def bcase {α:Type} (b:Bool) (x y:α):α:=Bool.rec (motive:=fun _=>α) y x b
def K3 {β:Type} (v:Value) (x y:M β):M β:=match v with
 | .bool b=>bcase b x y
 | _=>M.fail
def a3Y {β:Type} (r:CR) (kn kp:Value → M β):M β:=match r with
 | .ret v=>kn v
 | .pan v=>kp v
def M5 {β:Type} (x:Xc) (kn:M β) (ke:Nat → M β) (kr:M β) (kp:Value → M β):M β:=match x with
 | .normal=>kn
 | .exit id=>ke id
 | .ret=>kr
 | .pan v=>kp v
def a4d {σ:Type} (body:σ → M (Xc × σ)) (n:Nat):σ → M (Xc × σ):=
 Nat.rec (motive:=fun _=>σ → M (Xc × σ)) (fun _=>M.fail)
  (fun _ ih x=>M.bind (body x) fun r=>M5 r.1 (ih r.2) (fun id=>M.pure (.exit id,r.2)) (M.pure (.ret,r.2)) (fun v=>M.pure (.pan v,r.2))) n
def b3T {α:Type} (l:List Value):(List Value → α) → α:=
 List.rec (motive:=fun _=>(List Value → α) → α) (fun k=>k []) (fun x _ ih k=>a7L x fun x=>ih fun l=>k (x :: l)) l
def c0m (body:List Value → M (Xc × List Value)) (n:Nat):List Value → M (Xc × List Value):=
 Nat.rec (motive:=fun _=>List Value → M (Xc × List Value)) (fun _=>M.fail)
  (fun _ ih x=>M.bind (body x) fun r=>b3T r.2 fun xs=>M5 r.1 (ih xs) (fun id=>M.pure (.exit id,xs)) (M.pure (.ret,xs)) (fun v=>M.pure (.pan v,xs))) n
structure Cb where
 bv:∀ β:Type,M Value → (Value → M β) → M β
 bc:∀ β:Type,M CR → (Value → M β) → (Value → M β) → M β
 lp:(List Value → M (Xc × List Value)) → Nat → List Value → M (Xc × List Value)
 bj:∀ β:Type,M (Xc × List Value) → (Xc → List Value → M β) → M β
def G8:Cb:=⟨fun _ m k=>M.bind m k,fun _ m kn kp=>M.bind m fun r=>a3Y r kn kp,a4d,fun _ m k=>M.bind m fun r=>k r.1 r.2⟩
def X3:Cb:=⟨fun _ m k=>M.bind m fun v=>a7L v k,fun _ m kn kp=>M.bind m fun r=>a3Y r (fun v=>a7L v kn) kp,c0m,fun _ m k=>M.bind m fun r=>b3T r.2 fun xs=>k r.1 xs⟩
def a2K (fr:List Value) (W:List Nat):List Value:=a2m (d9 fr) W
def a8O (vs:List Value) (W:List Nat):Nat → List Value → List Value:=
 List.rec (motive:=fun _=>Nat → List Value → List Value) (fun _ fr=>fr) (fun t _ ih i fr=>ih (Nat.succ i) (a8A fr t (d9 vs i))) W
def a2b (W:List Nat) (vs fr:List Value):List Value:=a8O vs W 0 fr
section
variable (p:Program) (T:Tab)
def b6H:Nat → List Value → M Value:=fun _ _=>M.fail
def a2g (call:j5):Nat → List Value → M Value:=fun f vs=>M.bind (call f vs) fun r=>a3Y r M.pure fun _=>M.fail
def a5h (v:Value) (vs:List Value):Option (Nat × List Value):=match v with
 | .func fn first captured=>match fn with
   | .func g=>some (g,M6 first.toList (M6 vs captured.toList))
   | _=>none
 | _=>none
def a9X (fr:List Value) (f:Operand) (args:List Operand):Option (Nat × List Value):=match a2H T fr f with
 | some v=>match a3i T fr args with
   | some vs=>a5h v vs
   | none=>none
 | none=>none
def a7r:Value → Bool
 | .iface _ _=>true
 | _=>false
def a5W (cb:Cb) (call:j5) {β:Type} (fr:List Value) (o:Op) (kn kp:Value → M β):M β:=match o with
 | .move x=>M.obind (a2H T fr x) kn
 | .assign x=>M.obind (a2H T fr x) kn
 | .call c=>match c.callee with
   | .value f=>M.obind (a9X T fr f c.args.toList) fun ga=>cb.bc β (call ga.1 ga.2) kn kp
   | .builtin b=>cb.bv β (a8l p T fr b c.args c.argTypes) kn
   | _=>M.fail
 | .panic x=>M.obind (a2H T fr x) fun v=>M.guard (a7r v) (kp v)
 | o=>cb.bv β (a8c p T fr o) kn
def b1o (cb:Cb) (pn:Bool) (call:j5) {β:Type} (os:List Oper):List Value → (Xc → List Value → M β) → M β:=
 List.rec (motive:=fun _=>List Value → (Xc → List Value → M β) → M β) (fun fr k=>k .normal fr)
  (fun o _ ih fr k=>a5W p T cb call fr o.op (fun v=>ih (a0U fr o v) k) (fun v=>bcase pn (k (.pan v) fr) M.fail)) os
def b5z:Option (Nat × Bool) → Option (Nat × Bool) → Bool
 | none,none=>true
 | some a,some b=>Nat.beq a.1 b.1 && (a.2 == b.2)
 | _,_=>false
def a8Y (os:List Oper):List (Option (Nat × Bool) × List Oper):=
 List.rec (motive:=fun _=>List (Option (Nat × Bool) × List Oper)) [] (fun o _ ih=>match ih with
  | []=>[(o.guard, [o])]
  | g :: gs=>match b5z o.guard g.1 with
    | true=>(g.1,o :: g.2) :: gs
    | false=>(o.guard, [o]) :: g :: gs) os
def a0z (os:List Oper):List Nat:=List.rec (motive:=fun _=>List Nat) [] (fun o _ ih=>match o.dst with
 | some t=>t :: ih
 | none=>ih) os
def b3I (cb:Cb) (pn:Bool) (call:j5) {β:Type} (ops:List Oper) (gs:List (Option (Nat × Bool) × List Oper)):List Value → (Xc → List Value → M β) → M β:=
 List.rec (motive:=fun _=>List Value → (Xc → List Value → M β) → M β) (fun fr k=>k .normal fr)
  (fun g _ ih fr k=>match g.1 with
    | none=>b1o p T cb pn call g.2 fr fun ex fr'=>M5 ex (ih fr' k) (fun _=>M.fail) M.fail fun v=>k (.pan v) fr'
    | some jb=>M.obind (a5N ops jb.1) fun t=>M.guard (!(a5b t (a0z g.2))) <|
      cb.bj β (bcase (O7 jb.2 (d9 fr t)) (b1o p T cb pn call g.2 fr fun ex fr'=>M.pure (ex,a2K fr' (a0z g.2))) (M.pure (.normal,a4l (M4 (a0z g.2)))))
       fun ex vs=>M5 ex (ih (a2b (a0z g.2) vs fr) k) (fun _=>M.fail) M.fail fun v=>bcase pn (k (.pan v) (a2b (a0z g.2) vs fr)) M.fail) gs
def b3o (call:j5) (ops:List Oper) (n:Nat) (U:List Nat) (vs:List Value) (W:List Nat):M (Xc × List Value):=
 M.bind (a4y p T (a2g call) ops ops (a2b U vs (a4l n))) fun y=>M.guard (a1b ops (a2I ops y.2) [] [] 0) <| M.pure (.normal,a2K y.1 W)
def a6n (ops os:List Oper):List Nat:=List.rec (motive:=fun _=>List Nat) [] (fun o _ ih=>M6 (a5d ops o) ih) os
def b8u (i:Nat) (l:List Nat):List Nat:=match a5b i l with
 | true=>l
 | false=>i :: l
def a6x (l:List Nat):List Nat:=List.rec (motive:=fun _=>List Nat) [] (fun i _ ih=>b8u i ih) l
def b9k (cb:Cb) (pn:Bool) (call:j5) {β:Type} (ops:List Oper) (draw:Bool) (fr:List Value) (k:Xc → List Value → M β):M β:=match draw with
 | false=>b3I p T cb pn call ops (a8Y ops) fr k
 | true=>cb.bj β (b3o p T call ops (M4 fr) (a6x (a6n ops ops)) (a2K fr (a6x (a6n ops ops))) (a0z ops)) fun _ vs=>k .normal (a2b (a0z ops) vs fr)
def a6a (call:j5) (ops os:List Oper):List Value → M (Xc × List Value):=
 List.rec (motive:=fun _=>List Value → M (Xc × List Value)) (fun fr=>M.pure (.normal,fr))
  (fun o _ ih fr=>match a3r ops fr o with
    | true=>a5W p T G8 call fr o.op (fun v=>ih (a0U fr o v)) (fun v=>M.pure (.pan v,fr))
    | false=>ih (a0U fr o undef)) os
def b1V (call:j5) (ops:List Oper) (draw:Bool) (fr:List Value):M (Xc × List Value):=match draw with
 | false=>a6a p T call ops ops fr
 | true=>M.bind (a4y p T (a2g call) ops ops fr) fun y=>M.guard (a1b ops (a2I ops y.2) [] [] 0) <| M.pure (.normal,y.1)
def a6i (id:Nat) (x:Xc):Xc:=match x with
 | .exit id'=>match Nat.beq id' id with
   | true=>.normal
   | false=>.exit id'
 | x=>x
def a2Q (N:Nat) (call:j5):Code → List Value → M (Xc × List Value)
 | .skip,fr=>M.pure (.normal,fr)
 | .region _ ops draw,fr=>b1V p T call ops.toList draw fr
 | .seq a b,fr=>M.bind (a2Q N call a fr) fun r=>M5 r.1 (a2Q N call b r.2) (fun id=>M.pure (.exit id,r.2)) (M.pure (.ret,r.2)) (fun v=>M.pure (.pan v,r.2))
 | .cond x a b,fr=>M.obind (a2H T fr x) fun v=>K3 v (a2Q N call a fr) (a2Q N call b fr)
 | .block id b,fr=>M.bind (a2Q N call b fr) fun r=>M.pure (a6i id r.1,r.2)
 | .loop b,fr=>a4d (a2Q N call b) N fr
 | .exit id,fr=>M.pure (.exit id,fr)
 | .ret,fr=>M.pure (.ret,fr)
 | _,_=>M.fail
inductive Pl where
 | d
 | s (j:Option (List Nat)) (a b:Pl)
 | l (W:List Nat) (a:Pl)
def Pl.a:Pl → Pl
 | .d=>.d
 | .s _ a _=>a
 | .l _ a=>a
def Pl.b:Pl → Pl
 | .s _ _ b=>b
 | _=>.d
def Pl.j:Pl → Option (List Nat)
 | .s j _ _=>j
 | _=>none
def Pl.w:Pl → List Nat
 | .l W _=>W
 | _=>[]
def a4n:Code → List Nat
 | .region _ ops _=>a0z ops.toList
 | .seq a b=>M6 (a4n a) (a4n b)
 | .cond _ a b=>M6 (a4n a) (a4n b)
 | .block _ b=>a4n b
 | .loop b=>a4n b
 | _=>[]
def c3Z (l m:List Nat):Bool:=a0N (fun i=>a5b i m) l
def a6u:Code → List Nat
 | .seq a b=>M6 (a6u a) (a6u b)
 | .cond _ a b=>M6 (a6u a) (a6u b)
 | .block _ b=>a6u b
 | .loop b=>a6u b
 | .exit id=>[id]
 | _=>[]
def hasRet:Code → Bool
 | .seq a b=>hasRet a || hasRet b
 | .cond _ a b=>hasRet a || hasRet b
 | .block _ b=>hasRet b
 | .loop b=>hasRet b
 | .ret=>true
 | _=>false
def b4a {β:Type} (E:List Nat) (id:Nat) (k:Xc → M β):M β:=List.rec (motive:=fun _=>M β) M.fail (fun e _ ih=>bcase (Nat.beq id e) (k (.exit e)) ih) E
def b1I {β:Type} (pn:Bool) (E:List Nat) (n r:Bool) (ex:Xc) (k:Xc → M β):M β:=
 M5 ex (bcase n (k .normal) M.fail) (fun id=>b4a E id k) (bcase r (k .ret) M.fail) (fun v=>bcase pn (k (.pan v)) M.fail)
def a5s (cb:Cb) (pn:Bool) (N:Nat) (call:j5):Code → Pl → (β:Type) → List Value → (Xc → List Value → M β) → M β
 | .skip,_,_,fr,k=>k .normal fr
 | .region _ ops draw,_,_,fr,k=>b9k p T cb pn call ops.toList draw fr k
 | .seq a b,pl, β,fr,k=>match pl.j with
   | none=>a5s cb pn N call a pl.a β fr fun ex fr'=>M5 ex (a5s cb pn N call b pl.b β fr' k) (fun id=>k (.exit id) fr') (k .ret fr') (fun v=>k (.pan v) fr')
   | some W=>M.guard (c3Z (a4n a) W) <| cb.bj β (a5s cb pn N call a pl.a (Xc × List Value) fr fun ex fr'=>M.pure (ex,a2K fr' W))
    fun ex vs=>b1I pn (a6x (a6u a)) true (hasRet a) ex fun x=>M5 x (a5s cb pn N call b pl.b β (a2b W vs fr) k) (fun id=>k (.exit id) (a2b W vs fr)) (k .ret (a2b W vs fr)) (fun v=>k (.pan v) (a2b W vs fr))
 | .cond x a b,pl, β,fr,k=>M.obind (a2H T fr x) fun v=>K3 v (a5s cb pn N call a pl.a β fr k) (a5s cb pn N call b pl.b β fr k)
 | .block id b,pl, β,fr,k=>a5s cb pn N call b pl.a β fr fun ex fr'=>k (a6i id ex) fr'
 | .loop b,pl, β,fr,k=>M.guard (c3Z (a4n b) pl.w) <|
  cb.bj β (cb.lp (fun xs=>a5s cb pn N call b pl.a (Xc × List Value) (a2b pl.w xs fr) fun ex fr'=>M.pure (ex,a2K fr' pl.w)) N (a2K fr pl.w))
   fun ex vs=>b1I pn (a6x (a6u b)) false (hasRet b) ex fun x=>k x (a2b pl.w vs fr)
 | .exit id,_,_,fr,k=>k (.exit id) fr
 | .ret,_,_,fr,k=>k .ret fr
 | _,_,_,_,_=>M.fail
def b0Y (cb:Cb) {β:Type} (fr:List Value) (rs:List ResultVar):(List Value → M β) → M β:=
 List.rec (motive:=fun _=>(List Value → M β) → M β) (fun k=>k []) (fun r _ ih k=>match r with
  | .tmp t=>ih fun vs=>k (d9 fr t :: vs)
  | .cell a t=>a5e (d9 fr a) fun ad=>cb.bv β (a8k T t ad) fun v=>ih fun vs=>k (v :: vs)) rs
def b8i (cb:Cb) (fn:Func) (ex:Xc) (fr:List Value):M CR:=
 M5 ex (b0Y T cb fr fn.results.toList fun vs=>M.pure (.ret (b2z vs))) (fun _=>M.fail) (b0Y T cb fr fn.results.toList fun vs=>M.pure (.ret (b2z vs))) fun v=>M.pure (.pan v)
def a0i (cb:Cb) (pn:Bool) (N:Nat) (call:j5) (fn:Func) (c:Code) (pl:Pl) (args:List Value):M CR:=
 a5s p T cb pn N call c pl CR (M6 args (a4l (fn.ntmps - M4 args))) fun ex fr=>b8i T cb fn ex fr
def a7a (N:Nat) (call:j5) (fn:Func) (f:Nat) (args:List Value):M CR:=match fn.body with
 | none=>M.bind (b3S p f args) fun v=>M.pure (.ret v)
 | some c=>M.bind (a2Q p T N call c (M6 args (a4l (fn.ntmps - M4 args)))) fun r=>b8i T G8 fn r.1 r.2
def b3z (ext:Nat → Option (List Value → M Value)) (N n:Nat):j5:=
 Nat.rec (motive:=fun _=>j5) (fun _ _=>M.fail) (fun _ ih f args=>match ext f with
  | some g=>M.bind (g args) fun v=>M.pure (.ret v)
  | none=>M.obind (T.funcs.get f) fun fn=>a7a p T N ih fn f args) n
abbrev a2i:=Trie (j5 → List Value → M CR)
def J9 (sh:a2i) (n:Nat):j5:=
 Nat.rec (motive:=fun _=>j5) (fun _ _=>M.fail) (fun _ ih f args=>M.obind (sh.get f) fun g=>g ih args) n
end
end Go.V
end
section
noncomputable section
namespace Go.V
theorem b9v {α:Type} (l:List Value):∀ k:List Value → α,b3T l k=k l:=by
 induction l with
 | nil=>intro k; rfl
 | cons x l ih=>
   intro k
   show a7L x (fun x=>b3T l fun l=>k (x :: l))=_
   rw [a7T,ih]
theorem b0V:X3=G8:=by
 unfold X3 G8
 have h1:(fun (β:Type) (m:M Value) (k:Value → M β)=>M.bind m fun v=>a7L v k)=fun _ m k=>M.bind m k:=by
  funext β m k; congr 1; funext v; exact a7T v k
 have h2:(fun (β:Type) (m:M CR) (kn kp:Value → M β)=>M.bind m fun r=>a3Y r (fun v=>a7L v kn) kp)=fun _ m kn kp=>M.bind m fun r=>a3Y r kn kp:=by
  funext β m kn kp; congr 1; funext r; congr 1; funext v; exact a7T v kn
 have h3:c0m=a4d:=by
  funext body n
  induction n with
  | zero=>rfl
  | succ n ih=>
    funext x
    show M.bind (body x) (fun r=>b3T r.2 fun xs=>M5 r.1 (c0m body n xs) (fun id=>M.pure (.exit id,xs)) (M.pure (.ret,xs)) (fun v=>M.pure (.pan v,xs)))=M.bind (body x) fun r=>M5 r.1 (a4d body n r.2) (fun id=>M.pure (.exit id,r.2)) (M.pure (.ret,r.2)) (fun v=>M.pure (.pan v,r.2))
    congr 1; funext r; rw [b9v,ih]
 have h4:(fun (β:Type) (m:M (Xc × List Value)) (k:Xc → List Value → M β)=>M.bind m fun r=>b3T r.2 fun xs=>k r.1 xs)=fun _ m k=>M.bind m fun r=>k r.1 r.2:=by
  funext β m k; congr 1; funext r; rw [b9v]
 rw [h1,h2,h3,h4]
def Le {α:Type} (m m':M α):Prop:=∀ s r,m s=some r → m' s=some r
theorem Le.refl {α:Type} (m:M α):Le m m:=fun _ _ h=>h
theorem Le.trans {α:Type} {a b c:M α} (h:Le a b) (k:Le b c):Le a c:=fun s r e=>k s r (h s r e)
theorem Le.fail {α:Type} (m:M α):Le M.fail m:=fun _ _ h=>by cases h
theorem a3o {α β:Type} {m:M α} {f:α → M β} {s s1:S} {a:α} {r:β × S} (h:m s=some (a,s1)) (h':f a s1=some r):M.bind m f s=some r:=by
 unfold M.bind; rw [h]; exact h'
theorem Le.bind {α β:Type} {m m':M α} {f f':α → M β} (h:Le m m') (k:∀ a,Le (f a) (f' a)):Le (M.bind m f) (M.bind m' f'):=fun s r e=>by
 obtain ⟨a,s1,h1,h2⟩:=M8 (s2:=r.2) (b:=r.1) e
 exact a3o (h s _ h1) (k a s1 _ h2)
theorem Le.obind {α β:Type} {o:Option α} {f f':α → M β} (k:∀ a,o=some a → Le (f a) (f' a)):Le (M.obind o f) (M.obind o f'):=by
 cases o with
 | none=>exact Le.fail _
 | some a=>exact k a rfl
theorem Le.obind_bind {α β γ:Type} {o:Option α} {f:α → M γ} {f':α → M β} {g:β → M γ} (k:∀ a,o=some a → Le (f a) (M.bind (f' a) g)):Le (M.obind o f) (M.bind (M.obind o f') g):=by
 cases o with
 | none=>exact Le.fail _
 | some a=>exact k a rfl
theorem Le.guard {α:Type} {b:Bool} {m m':M α} (h:b=true → Le m m'):Le (M.guard b m) m':=by
 cases b with
 | true=>exact h rfl
 | false=>exact Le.fail _
theorem a4f {α β γ:Type} (m:M α) (f:α → M β) (g:β → M γ):M.bind (M.bind m f) g=M.bind m fun a=>M.bind (f a) g:=by
 funext s; unfold M.bind; cases m s <;> rfl
theorem d9Z {α β:Type} (a:α) (f:α → M β):M.bind (M.pure a) f=f a:=Eq.trans rfl rfl
theorem a8D {β γ:Type} (x:Xc) (a:M β) (b:Nat → M β) (c:M β) (d:Value → M β) (g:β → M γ):M.bind (M5 x a b c d) g=M5 x (M.bind a g) (fun i=>M.bind (b i) g) (M.bind c g) (fun v=>M.bind (d v) g):=by
 cases x <;> rfl
theorem a7p {β:Type} {x:Xc} {a a':M β} {b b':Nat → M β} {c c':M β} {d d':Value → M β} (h1:x=.normal → Le a a') (h2:∀ i,x=.exit i → Le (b i) (b' i)) (h3:x=.ret → Le c c') (h4:∀ v,x=.pan v → Le (d v) (d' v)) :
 Le (M5 x a b c d) (M5 x a' b' c' d'):=by
 cases x with
 | normal=>exact h1 rfl
 | exit i=>exact h2 i rfl
 | ret=>exact h3 rfl
 | pan v=>exact h4 v rfl
theorem c1Y {β γ:Type} {r:CR} {kn kp:Value → M γ} {kn' kp':Value → M β} {g:β → M γ} (h1:∀ v,Le (kn v) (M.bind (kn' v) g)) (h2:∀ v,Le (kp v) (M.bind (kp' v) g)):Le (a3Y r kn kp) (M.bind (a3Y r kn' kp') g):=by
 cases r with
 | ret v=>exact h1 v
 | pan v=>exact h2 v
theorem b4p (fr:List Value) (W:List Nat):a2K fr W=W.map (d9 fr):=a3X _ _
theorem b4Z (v:Value) (vs:List Value) (W:List Nat):∀ (i:Nat) (fr:List Value),a8O (v :: vs) W (Nat.succ i) fr=a8O vs W i fr:=by
 induction W with
 | nil=>intro i fr; rfl
 | cons t W ih=>intro i fr; exact ih (Nat.succ i) _
theorem b2c (t:Nat) (W:List Nat) (v:Value) (vs fr:List Value):a2b (t :: W) (v :: vs) fr=a2b W vs (a8A fr t v):=b4Z v vs W 0 _
theorem b3k (W:List Nat):∀ (fr' fr:List Value),fr'.length=fr.length → ∀ t,(a2b W (a2K fr' W) fr)[t]?=if t ∈ W then fr'[t]? else fr[t]?:=by
 induction W with
 | nil=>intro fr' fr _ t; simp [a2b,a8O]
 | cons u W ih=>
   intro fr' fr hl t
   have e:a2K fr' (u :: W)=d9 fr' u :: a2K fr' W:=rfl
   rw [e,b2c,ih fr' (a8A fr u (d9 fr' u)) (by rw [a8Q]; simpa using hl) t]
   by_cases h1:t ∈ W
   · rw [if_pos h1,if_pos (List.mem_cons_of_mem _ h1)]
   · rw [if_neg h1,a8Q,List.getElem?_set]
     by_cases h2:u=t
     · subst h2
       rw [if_pos rfl,if_pos List.mem_cons_self,a5A]
       by_cases h3:u < fr.length
       · rw [if_pos h3,List.getElem?_eq_getElem (by omega)]; rfl
       · rw [if_neg h3,List.getElem?_eq_none (by omega)]
     · rw [if_neg h2,if_neg (by simp only [List.mem_cons,not_or]; exact ⟨fun e=>h2 e.symm,h1⟩)]
theorem a5j {W:List Nat} {fr' fr:List Value} (hl:fr'.length=fr.length) (h:∀ t,t ∉ W → fr'[t]?=fr[t]?):a2b W (a2K fr' W) fr=fr':=by
 apply List.ext_getElem?
 intro t
 rw [b3k W fr' fr hl t]
 by_cases ht:t ∈ W
 · rw [if_pos ht]
 · rw [if_neg ht,h t ht]
theorem b4e (vs:List Value) (W:List Nat):∀ (i:Nat) (fr:List Value),(a8O vs W i fr).length=fr.length:=by
 induction W with
 | nil=>intro i fr; rfl
 | cons u W ih=>
   intro i fr
   show (a8O vs W (Nat.succ i) (a8A fr u (d9 vs i))).length=_
   rw [ih,a8Q]; simp
theorem b5c (W:List Nat) (vs fr:List Value):(a2b W vs fr).length=fr.length:=b4e vs W 0 fr
theorem a7Q {α:Type} {b:Bool} {m m':M α} (h:Le m m'):Le (bcase b m M.fail) m':=by
 cases b with
 | true=>exact h
 | false=>exact Le.fail _
section
variable {p:Program} {T:Tab} {call:j5} {pn:Bool}
theorem c3o {β γ:Type} {fr:List Value} {o:Op} {kn kp:Value → M γ} {kn' kp':Value → M β} {g:β → M γ} (h1:∀ v,Le (kn v) (M.bind (kn' v) g)) (h2:∀ v,Le (kp v) (M.bind (kp' v) g)) :
 Le (a5W p T G8 call fr o kn kp) (M.bind (a5W p T G8 call fr o kn' kp') g):=by
 have hs:∀ m:M Value,Le (G8.bv γ m kn) (M.bind (G8.bv β m kn') g):=fun m=>by
  show Le (M.bind m kn) (M.bind (M.bind m kn') g)
  rw [a4f]
  exact Le.bind (Le.refl _) h1
 unfold a5W
 split
 · exact Le.obind_bind fun v _=>h1 v
 · exact Le.obind_bind fun v _=>h1 v
 · split
   · refine Le.obind_bind fun ga _=>?_
     show Le (M.bind (call ga.1 ga.2) fun r=>a3Y r kn kp) (M.bind (M.bind (call ga.1 ga.2) fun r=>a3Y r kn' kp') g)
     rw [a4f]
     exact Le.bind (Le.refl _) fun r=>c1Y h1 h2
   · exact hs _
   · exact Le.fail _
 · refine Le.obind_bind fun v _=>?_
   cases hb:a7r v with
   | true=>exact h2 v
   | false=>exact Le.fail _
 · exact hs _
theorem a5Q (ops:List Oper) (o:Oper) (os:List Oper) (fr:List Value):a6a p T call ops (o :: os) fr=match a3r ops fr o with
 | true=>a5W p T G8 call fr o.op (fun v=>a6a p T call ops os (a0U fr o v)) (fun v=>M.pure (.pan v,fr))
 | false=>a6a p T call ops os (a0U fr o undef):=rfl
theorem c2D (cb:Cb) {β:Type} (o:Oper) (os:List Oper) (fr:List Value) (k:Xc → List Value → M β):b1o p T cb pn call (o :: os) fr k=a5W p T cb call fr o.op (fun v=>b1o p T cb pn call os (a0U fr o v) k) (fun v=>bcase pn (k (.pan v) fr) M.fail):=rfl
theorem b9g {β:Type} (ops:List Oper) (g:Option (Nat × Bool)) (hw:∀ (fr:List Value) (o:Oper),o.guard=g → (∀ jb,g=some jb → ∀ t,a5N ops jb.1=some t → O7 jb.2 (d9 fr t)=true) → a3r ops fr o=true) :
 ∀ (os:List Oper),(∀ o ∈ os,o.guard=g) → (∀ jb,g=some jb → ∃ t,a5N ops jb.1=some t ∧ t ∉ a0z os) → ∀ (fr:List Value),(∀ jb,g=some jb → ∀ t,a5N ops jb.1=some t → O7 jb.2 (d9 fr t)=true) →
   ∀ (k k':Xc → List Value → M β),(∀ x fr,Le (k x fr) (k' x fr)) → Le (b1o p T G8 pn call os fr k) (M.bind (a6a p T call ops os fr) fun r=>k' r.1 r.2):=by
 intro os
 induction os with
 | nil=>intro _ _ fr _ k k' hk; exact hk _ _
 | cons o os ih=>
   intro ho hd fr hb k k' hk
   rw [c2D,a5Q,hw fr o (ho o List.mem_cons_self) hb]
   refine c3o (fun v=>?_) (fun v=>a7Q (hk _ _))
   refine ih (fun x hx=>ho x (List.mem_cons_of_mem _ hx)) (fun jb e=>?_) _ (fun jb e t ht=>?_) k k' hk
   · obtain ⟨t,h1,h2⟩:=hd jb e
     refine ⟨t,h1,fun q=>h2 ?_⟩
     show t ∈ (match o.dst with | some u=>u :: a0z os | none=>a0z os)
     cases o.dst with
     | none=>exact q
     | some u=>exact List.mem_cons_of_mem _ q
   · obtain ⟨t',h1,h2⟩:=hd jb e
     rw [ht] at h1; cases h1
     have h2':t ∉ (match o.dst with | some u=>u :: a0z os | none=>a0z os):=h2
     have e2:d9 (a0U fr o v) t=d9 fr t:=by
      apply a6s
      rw [a4X]
      rw [if_neg]
      rintro ⟨q,_⟩
      unfold a4J at q
      cases hd:o.dst with
      | none=>rw [hd] at q; cases q
      | some u=>rw [hd] at q h2'; simp at q; exact h2' (by simp [q])
     rw [e2]
     exact hb jb e t ht
theorem c1x {ops:List Oper} {fr:List Value} {o:Oper} (h:o.guard=none):a3r ops fr o=true:=by unfold a3r; rw [h]
theorem b4S {ops:List Oper} {fr:List Value} {o:Oper} {jb:Nat × Bool} {t:Nat} (h:o.guard=some jb) (ht:a5N ops jb.1=some t):a3r ops fr o=O7 jb.2 (d9 fr t):=by
 unfold a3r; rw [h]; simp only; rw [ht]
theorem b8P (ops:List Oper) (r:List Oper):∀ (l:List Oper) (fr:List Value),a6a p T call ops (l ++ r) fr=M.bind (a6a p T call ops l fr) fun x=>M5 x.1 (a6a p T call ops r x.2) (fun id=>M.pure (.exit id,x.2)) (M.pure (.ret,x.2)) (fun v=>M.pure (.pan v,x.2)):=by
 intro l
 induction l with
 | nil=>intro fr; rfl
 | cons o l ih=>
   intro fr
   rw [List.cons_append,a5Q,a5Q]
   cases a3r ops fr o with
   | false=>exact ih _
   | true=>
     have step:∀ (kn kp kn' kp':Value → M (Xc × List Value)) (g:(Xc × List Value) → M (Xc × List Value)),(∀ v,kn v=M.bind (kn' v) g) → (∀ v,kp v=M.bind (kp' v) g) → a5W p T G8 call fr o.op kn kp=M.bind (a5W p T G8 call fr o.op kn' kp') g:=by
      intro kn kp kn' kp' g h1 h2
      have hs:∀ m:M Value,G8.bv (Xc × List Value) m kn=M.bind (G8.bv (Xc × List Value) m kn') g:=fun m=>by
       show M.bind m kn=M.bind (M.bind m kn') g
       rw [a4f]; congr 1; funext v; exact h1 v
      have ho:∀ x:Option Value,M.obind x kn=M.bind (M.obind x kn') g:=fun x=>by cases x with | none=>rfl | some v=>exact h1 v
      unfold a5W
      split
      · exact ho _
      · exact ho _
      · split
        · rename_i f _
          cases a9X T fr f _ with
          | none=>rfl
          | some ga=>
            show M.bind (call ga.1 ga.2) (fun r=>a3Y r kn kp)=M.bind (M.bind (call ga.1 ga.2) fun r=>a3Y r kn' kp') g
            rw [a4f]; congr 1; funext r
            cases r with
            | ret v=>exact h1 v
            | pan v=>exact h2 v
        · exact hs _
        · rfl
      · rename_i x _
        cases a2H T fr x with
        | none=>rfl
        | some v=>
          show M.guard (a7r v) (kp v)=M.bind (M.guard (a7r v) (kp' v)) g
          cases a7r v with
          | true=>exact h2 v
          | false=>rfl
      · exact hs _
     exact step _ _ _ _ _ (fun v=>ih _) (fun v=>rfl)
theorem b8E {β:Type} {fr:List Value} {o:Op} {kn kp:Value → M β} {s s':S} {b:β} {Q:β → Prop} (h:a5W p T G8 call fr o kn kp s=some (b,s'))
 (h1:∀ v s,kn v s=some (b,s') → Q b) (h2:∀ v s,kp v s=some (b,s') → Q b):Q b:=by
 have hs:∀ m:M Value,G8.bv β m kn s=some (b,s') → Q b:=fun m q=>by
  obtain ⟨v,s1,_,q2⟩:=M8 (f:=kn) q
  exact h1 v s1 q2
 have ho:∀ x:Option Value,M.obind x kn s=some (b,s') → Q b:=fun x q=>by
  obtain ⟨v,_,q2⟩:=U4 q
  exact h1 v s q2
 cases o with
 | move x=>exact ho _ h
 | assign x=>exact ho _ h
 | call c=>
   obtain ⟨cal,args,ts⟩:=c
   cases cal with
   | value f=>
     obtain ⟨ga,_,q⟩:=U4 h
     obtain ⟨r,s1,_,q2⟩:=M8 (f:=fun r=>a3Y r kn kp) q
     cases r with
     | ret v=>exact h1 v s1 q2
     | pan v=>exact h2 v s1 q2
   | builtin b=>exact hs _ h
   | invoke r m=>cases h
 | panic x=>
   obtain ⟨v,_,q⟩:=U4 h
   obtain ⟨_,q2⟩:=R4 q
   exact h2 v s q2
 | _=>exact hs _ h
theorem a7j {o:Oper} {os:List Oper} {t:Nat}:t ∈ a0z (o :: os) ↔ t ∈ a4J o ∨ t ∈ a0z os:=by
 show t ∈ (match o.dst with | some u=>u :: a0z os | none=>a0z os) ↔ _
 unfold a4J
 cases o.dst with
 | none=>simp
 | some u=>simp
theorem b2K (ops:List Oper):∀ (os:List Oper) (fr:List Value) (s s':S) (x:Xc × List Value),a6a p T call ops os fr s=some (x,s') → x.2.length=fr.length ∧ ∀ t,t ∉ a0z os → x.2[t]?=fr[t]?:=by
 intro os
 induction os with
 | nil=>intro fr s s' x h; obtain ⟨rfl,rfl⟩:=J3 h; exact ⟨rfl,fun _ _=>rfl⟩
 | cons o os ih=>
   intro fr s s' x h
   have next:∀ v s1,a6a p T call ops os (a0U fr o v) s1=some (x,s') → x.2.length=fr.length ∧ ∀ t,t ∉ a0z (o :: os) → x.2[t]?=fr[t]?:=by
    intro v s1 q
    obtain ⟨h1,h2⟩:=ih _ _ _ _ q
    refine ⟨by rw [h1,a5K],fun t ht=>?_⟩
    rw [a7j,not_or] at ht
    rw [h2 t ht.2,a4X,if_neg (fun q=>ht.1 q.1)]
   rw [a5Q] at h
   cases hw:a3r ops fr o with
   | false=>rw [hw] at h; exact next _ _ h
   | true=>
     rw [hw] at h
     refine b8E (Q:=fun b=>b.2.length=fr.length ∧ ∀ t,t ∉ a0z (o :: os) → b.2[t]?=fr[t]?) h next (fun v s1 q=>?_)
     obtain ⟨rfl,rfl⟩:=J3 q
     exact ⟨rfl,fun _ _=>rfl⟩
theorem c1F (ops:List Oper) (jb:Nat × Bool) (t:Nat) (ht:a5N ops jb.1=some t):∀ (os:List Oper),(∀ o ∈ os,o.guard=some jb) → t ∉ a0z os → ∀ (fr:List Value),O7 jb.2 (d9 fr t)=false →
 a6a p T call ops os fr=M.pure (.normal,a2b (a0z os) (a4l (M4 (a0z os))) fr):=by
 intro os
 induction os with
 | nil=>intro _ _ fr _; rfl
 | cons o os ih=>
   intro ho hd fr hb
   rw [a5Q,b4S (ho o List.mem_cons_self) ht,hb]
   rw [a7j,not_or] at hd
   have e2:d9 (a0U fr o undef) t=d9 fr t:=by
    apply a6s
    rw [a4X,if_neg (fun q=>hd.1 q.1)]
   simp only
   rw [ih (fun x hx=>ho x (List.mem_cons_of_mem _ hx)) hd.2 _ (by rw [e2]; exact hb)]
   congr 2
   show a2b (a0z os) (a4l (M4 (a0z os))) (a0U fr o undef)=a2b (match o.dst with | some u=>u :: a0z os | none=>a0z os) (a4l (M4 (match o.dst with | some u=>u :: a0z os | none=>a0z os))) fr
   unfold a0U
   cases o.dst with
   | none=>rfl
   | some u=>exact (b2c u (a0z os) undef (a4l (M4 (a0z os))) fr).symm
theorem c3F {a b:Option (Nat × Bool)} (h:b5z a b=true):a=b:=by
 cases a with
 | none=>cases b with
   | none=>rfl
   | some b=>cases h
 | some a=>cases b with
   | none=>cases h
   | some b=>
     obtain ⟨a1,a2⟩:=a
     obtain ⟨b1,b2⟩:=b
     have h:(Nat.beq a1 b1 && (a2 == b2))=true:=h
     simp only [Bool.and_eq_true,beq_iff_eq] at h
     rw [Nat.eq_of_beq_eq_true h.1,h.2]
theorem b8G (os:List Oper):(a8Y os).flatMap (·.2)=os ∧ ∀ g ∈ a8Y os, ∀ o ∈ g.2,o.guard=g.1:=by
 induction os with
 | nil=>exact ⟨rfl,fun g hg=>by cases hg⟩
 | cons o os ih=>
   have e:a8Y (o :: os)=(match a8Y os with
    | []=>[(o.guard, [o])]
    | g :: gs=>match b5z o.guard g.1 with
      | true=>(g.1,o :: g.2) :: gs
      | false=>(o.guard, [o]) :: g :: gs):=rfl
   rw [e]
   cases hg:a8Y os with
   | nil=>
     rw [hg] at ih
     refine ⟨by rw [← ih.1]; rfl,fun g h x hx=>?_⟩
     simp at h; subst h; simp at hx; subst hx; rfl
   | cons g gs=>
     rw [hg] at ih
     simp only
     cases hs:b5z o.guard g.1 with
     | true=>
       refine ⟨by rw [← ih.1]; rfl,fun g' h x hx=>?_⟩
       simp only [List.mem_cons] at h
       rcases h with rfl | h
       · simp only [List.mem_cons] at hx
         rcases hx with rfl | hx
         · exact c3F hs
         · exact ih.2 g List.mem_cons_self x hx
       · exact ih.2 g' (List.mem_cons_of_mem _ h) x hx
     | false=>
       refine ⟨by rw [← ih.1]; rfl,fun g' h x hx=>?_⟩
       simp only [List.mem_cons] at h
       rcases h with rfl | rfl | h
       · simp at hx; subst hx; rfl
       · exact ih.2 _ List.mem_cons_self x hx
       · exact ih.2 g' (List.mem_cons_of_mem _ h) x hx
theorem c4k {β:Type} (ops:List Oper):∀ (gs:List (Option (Nat × Bool) × List Oper)),(∀ g ∈ gs, ∀ o ∈ g.2,o.guard=g.1) → ∀ (fr:List Value) (k k':Xc → List Value → M β),(∀ x fr,Le (k x fr) (k' x fr)) →
 Le (b3I p T G8 pn call ops gs fr k) (M.bind (a6a p T call ops (gs.flatMap (·.2)) fr) fun r=>k' r.1 r.2):=by
 intro gs
 induction gs with
 | nil=>intro _ fr k k' hk; exact hk _ _
 | cons g gs ih=>
   intro hg fr k k' hk
   obtain ⟨gd,l⟩:=g
   have hl:=hg _ List.mem_cons_self
   have ih':=fun fr=>ih (fun g h=>hg g (List.mem_cons_of_mem _ h)) fr k k' hk
   show Le (match gd with
    | none=>b1o p T G8 pn call l fr fun ex fr'=>M5 ex (b3I p T G8 pn call ops gs fr' k) (fun _=>M.fail) M.fail fun v=>k (.pan v) fr'
    | some jb=>M.obind (a5N ops jb.1) fun t=>M.guard (!(a5b t (a0z l))) <|
      G8.bj β (bcase (O7 jb.2 (d9 fr t)) (b1o p T G8 pn call l fr fun ex fr'=>M.pure (ex,a2K fr' (a0z l))) (M.pure (.normal,a4l (M4 (a0z l)))))
       fun ex vs=>M5 ex (b3I p T G8 pn call ops gs (a2b (a0z l) vs fr) k) (fun _=>M.fail) M.fail fun v=>bcase pn (k (.pan v) (a2b (a0z l) vs fr)) M.fail)
    (M.bind (a6a p T call ops (l ++ gs.flatMap (·.2)) fr) fun r=>k' r.1 r.2)
   rw [b8P,a4f]
   cases gd with
   | none=>
     refine Le.trans (b9g ops none (fun fr o h _=>c1x h) l hl (fun jb e=>by cases e) fr (fun jb e=>by cases e) _ (fun x fr'=>M5 x (M.bind (a6a p T call ops (gs.flatMap (·.2)) fr') fun r=>k' r.1 r.2) (fun _=>M.fail) M.fail fun v=>k' (.pan v) fr') (fun x fr'=>?_)) ?_
     · exact a7p (fun _=>ih' fr') (fun _ _=>Le.fail _) (fun _=>Le.fail _) (fun v _=>hk _ _)
     · refine Le.bind (Le.refl _) fun r=>?_
       rw [a8D]
       exact a7p (fun _=>Le.refl _) (fun _ _=>Le.fail _) (fun _=>Le.fail _) (fun v _=>Le.refl _)
   | some jb=>
     dsimp only
     cases ht:a5N ops jb.1 with
     | none=>exact Le.fail _
     | some t=>
       refine Le.guard fun hm=>?_
       have hm':t ∉ a0z l:=fun q=>by rw [(a8e _ _).2 q] at hm; cases hm
       show Le (M.bind (bcase (O7 jb.2 (d9 fr t)) (b1o p T G8 pn call l fr fun ex fr'=>M.pure (ex,a2K fr' (a0z l))) (M.pure (.normal,a4l (M4 (a0z l)))))
        fun r=>M5 r.1 (b3I p T G8 pn call ops gs (a2b (a0z l) r.2 fr) k) (fun _=>M.fail) M.fail fun v=>bcase pn (k (.pan v) (a2b (a0z l) r.2 fr)) M.fail) _
       cases hb:O7 jb.2 (d9 fr t) with
       | false=>
         rw [c1F ops jb t ht l hl hm' fr hb]
         exact ih' (a2b (a0z l) (a4l (M4 (a0z l))) fr)
       | true=>
         intro s r e
         obtain ⟨x,s1,e1,e2⟩:=M8 (s2:=r.2) (b:=r.1) e
         have h1:=b9g (β:=Xc × List Value) ops (some jb) (fun fr o h hq=>by rw [b4S h ht]; exact hq jb rfl t ht) l hl (fun jb' e=>by cases e; exact ⟨t,ht,hm'⟩) fr (fun jb' e t' ht'=>by cases e; rw [ht] at ht'; cases ht'; exact hb)
          (fun ex fr'=>M.pure (ex,a2K fr' (a0z l))) (fun ex fr'=>M.pure (ex,a2K fr' (a0z l))) (fun _ _=>Le.refl _) s _ e1
         obtain ⟨y,s2,f1,f2⟩:=M8 h1
         obtain ⟨rfl,rfl⟩:=J3 f2
         obtain ⟨g1,g2⟩:=b2K ops l fr s _ y f1
         refine a3o f1 ?_
         simp only [] at e2
         rw [a5j g1 g2] at e2
         rw [a8D]
         refine a7p (fun _=>ih' _) (fun _ _=>Le.fail _) (fun _=>Le.fail _) (fun v _=>a7Q (hk _ _)) _ _ e2
end
end Go.V
end
section
noncomputable section
namespace Go.V
section
variable {p:Program} {T:Tab} {call:j5} {pn:Bool}
theorem b7o {ops os:List Oper} {o:Oper} (h:o ∈ os) {t:Nat} (ht:t ∈ a5d ops o):t ∈ a6n ops os:=by
 induction os with
 | nil=>cases h
 | cons x os ih=>
   show t ∈ M6 (a5d ops x) (a6n ops os)
   rw [M7,List.mem_append]
   simp only [List.mem_cons] at h
   rcases h with rfl | h
   · exact Or.inl ht
   · exact Or.inr (ih h)
theorem c1M {l:List Nat} {t:Nat} (h:t ∈ l):t ∈ a6x l:=by
 induction l with
 | nil=>cases h
 | cons i l ih=>
   show t ∈ b8u i (a6x l)
   unfold b8u
   simp only [List.mem_cons] at h
   cases hm:a5b i (a6x l) with
   | true=>
     rcases h with rfl | h
     · exact (a8e _ _).1 hm
     · exact ih h
   | false=>
     rcases h with rfl | h
     · exact List.mem_cons_self
     · exact List.mem_cons_of_mem _ (ih h)
theorem a8M {c:Nat → List Value → M Value} (ops:List Oper):∀ (os:List Oper) (fr:List Value) (s s':S) (z:List Value × List (List Nat × List Nat)),a4y p T c ops os fr s=some (z,s') → z.1.length=fr.length ∧ ∀ t,t ∉ a0z os → z.1[t]?=fr[t]?:=by
 intro os
 induction os with
 | nil=>intro fr s s' z h; obtain ⟨rfl,rfl⟩:=J3 h; exact ⟨rfl,fun _ _=>rfl⟩
 | cons o os ih=>
   intro fr s s' z h
   have key:∀ (v:Value) (s1 s2:S) (y:List Value × List (List Nat × List Nat)),a4y p T c ops os (a0U fr o v) s1=some (y,s2) → y.1.length=fr.length ∧ ∀ t,t ∉ a0z (o :: os) → y.1[t]?=fr[t]?:=by
    intro v s1 s2 y hy
    obtain ⟨h1,h2⟩:=ih _ _ _ _ hy
    refine ⟨by rw [h1,a5K],fun t ht=>?_⟩
    rw [a7j,not_or] at ht
    rw [h2 t ht.2,a4X,if_neg (fun q=>ht.1 q.1)]
   rw [a6O] at h
   split at h
   · obtain ⟨x,s1,_,h2⟩:=M8 h
     obtain ⟨y,s2,h3,h4⟩:=M8 h2
     obtain ⟨rfl,rfl⟩:=J3 h4
     exact key _ _ _ y h3
   · obtain ⟨y,s2,h3,h4⟩:=M8 h
     obtain ⟨rfl,rfl⟩:=J3 h4
     exact key _ _ _ y h3
theorem c1h {c:Nat → List Value → M Value} (ops:List Oper) (A:Nat → Prop):∀ (os:List Oper),(∀ o ∈ os, ∀ t ∈ a5d ops o,A t) → ∀ (fr fr2:List Value),fr.length=fr2.length → (∀ t,A t → d9 fr t=d9 fr2 t) →
 ∀ s y s',a4y p T c ops os fr s=some (y,s') → ∃ fr',a4y p T c ops os fr2 s=some ((fr',y.2),s') ∧ ∀ t,A t ∨ t ∈ a0z os → d9 y.1 t=d9 fr' t:=by
 intro os
 induction os with
 | nil=>
   intro _ fr fr2 hl hA s y s' h
   obtain ⟨rfl,rfl⟩:=J3 h
   exact ⟨fr2,rfl,fun t ht=>ht.elim (hA t) (fun q=>by cases q)⟩
 | cons o os ih=>
   intro ho fr fr2 hl hA s y s' h
   obtain ⟨c1,c2⟩:=b2h (P:=p) (T:=T) (call:=c) (ops:=ops) (o:=o) (fr:=fr) (fr2:=fr2) (fun t ht=>hA t (ho o List.mem_cons_self t ht))
   have key:∀ (v:Value) (s1 s2:S) (z:List Value × List (List Nat × List Nat)),a4y p T c ops os (a0U fr o v) s1=some (z,s2) → ∃ fr',a4y p T c ops os (a0U fr2 o v) s1=some ((fr',z.2),s2) ∧
    ∀ t,A t ∨ t ∈ a0z (o :: os) → d9 z.1 t=d9 fr' t:=by
    intro v s1 s2 z hz
    have hput:∀ t,A t ∨ t ∈ a4J o → d9 (a0U fr o v) t=d9 (a0U fr2 o v) t:=by
     intro t ht
     rw [a5A,a5A,a4X,a4X,hl]
     by_cases hc:t ∈ a4J o ∧ t < fr2.length
     · rw [if_pos hc,if_pos hc]
     · rw [if_neg hc,if_neg hc]
       rcases ht with ht | ht
       · have:=hA t ht; rw [a5A,a5A] at this; exact this
       · have:¬ t < fr2.length:=fun q=>hc ⟨ht,q⟩
         rw [List.getElem?_eq_none (by omega),List.getElem?_eq_none (by omega)]
    obtain ⟨fr',e1,e4⟩:=ih (fun x hx=>ho x (List.mem_cons_of_mem _ hx)) (a0U fr o v) (a0U fr2 o v) (by rw [a5K,a5K,hl]) (fun t ht=>hput t (Or.inl ht)) s1 z s2 hz
    refine ⟨fr',e1,fun t ht=>?_⟩
    by_cases hc:A t ∨ t ∈ a0z os
    · exact e4 t hc
    · rw [not_or] at hc
      have ht:t ∈ a4J o:=by
       rcases ht with ht | ht
       · exact absurd ht hc.1
       · exact (a7j.1 ht).resolve_right hc.2
      rw [a6s ((a8M ops os _ _ _ _ hz).2 t hc.2),a6s ((a8M ops os _ _ _ _ e1).2 t hc.2)]
      exact hput t (Or.inr ht)
   rw [a6O] at h
   rw [a6O, ← c2, ← c1]
   cases hw:a3r ops fr o with
   | true=>
     rw [hw] at h
     simp only [if_true] at h ⊢
     obtain ⟨x,s1,h1,h2⟩:=M8 h
     obtain ⟨z,s2,h3,h4⟩:=M8 h2
     obtain ⟨rfl,rfl⟩:=J3 h4
     obtain ⟨fr',e1,e2⟩:=key _ _ _ z h3
     exact ⟨fr',a3o h1 (a3o e1 rfl),e2⟩
   | false=>
     rw [hw] at h
     simp only [Bool.false_eq_true,if_false] at h ⊢
     obtain ⟨z,s2,h3,h4⟩:=M8 h
     obtain ⟨rfl,rfl⟩:=J3 h4
     obtain ⟨fr',e1,e2⟩:=key _ _ _ z h3
     exact ⟨fr',a3o e1 rfl,e2⟩
theorem b2I (n:Nat):(a4l n).length=n:=by
 induction n with
 | zero=>rfl
 | succ n ih=>show (a4l n).length + 1=_; rw [ih]
theorem b9Q {β:Type} (ops:List Oper) (draw:Bool) (fr:List Value) (k k':Xc → List Value → M β) (hk:∀ x fr,Le (k x fr) (k' x fr)) :
 Le (b9k p T G8 pn call ops draw fr k) (M.bind (b1V p T call ops draw fr) fun r=>k' r.1 r.2):=by
 cases draw with
 | false=>
   obtain ⟨h1,h2⟩:=b8G ops
   have:=c4k (p:=p) (T:=T) (call:=call) (pn:=pn) (β:=β) ops (a8Y ops) h2 fr k k' hk
   rw [h1] at this
   exact this
 | true=>
   intro s r h
   have h:M.bind (b3o p T call ops (M4 fr) (a6x (a6n ops ops)) (a2K fr (a6x (a6n ops ops))) (a0z ops)) (fun x=>k .normal (a2b (a0z ops) x.2 fr)) s=some r:=h
   obtain ⟨x,s1,h1,h2⟩:=M8 (s2:=r.2) (b:=r.1) h
   unfold b3o at h1
   obtain ⟨y,s2,h3,h4⟩:=M8 h1
   obtain ⟨h5,h6⟩:=R4 h4
   obtain ⟨rfl,rfl⟩:=J3 h6
   have hlen:(a2b (a6x (a6n ops ops)) (a2K fr (a6x (a6n ops ops))) (a4l (M4 fr))).length=fr.length:=by
    rw [b5c,b2I,a0m]
   obtain ⟨fr',e1,e2⟩:=c1h (p:=p) (T:=T) ops (fun t=>t ∈ a6x (a6n ops ops)) ops (fun o ho t ht=>c1M (b7o ho ht)) _ fr hlen (fun t ht=>by
    apply a6s
    rw [b3k _ _ _ (by rw [b2I,a0m]),if_pos ht]) s y s1 h3
   show M.bind (M.bind (a4y p T (a2g call) ops ops fr) fun y=>M.guard (a1b ops (a2I ops y.2) [] [] 0) <| M.pure (Xc.normal,y.1)) (fun r=>k' r.1 r.2) s=some r
   refine a3o (a:=(Xc.normal,fr')) (s1:=s1) (a3o e1 ?_) ?_
   · show M.guard (a1b ops (a2I ops y.2) [] [] 0) (M.pure (Xc.normal,fr')) s1=_
     rw [h5]; rfl
   · have e3:a2b (a0z ops) (a2K y.1 (a0z ops)) fr=fr':=by
      have e4:a2K y.1 (a0z ops)=a2K fr' (a0z ops):=by
       rw [b4p,b4p]
       exact List.map_congr_left fun t ht=>e2 t (Or.inr ht)
      obtain ⟨f1,f2⟩:=a8M ops ops fr s s1 _ e1
      rw [e4]
      exact a5j f1 f2
     have h2:k .normal (a2b (a0z ops) (a2K y.1 (a0z ops)) fr) s1=some r:=h2
     rw [e3] at h2
     exact hk _ _ _ _ h2
theorem b5e (ops:List Oper) (draw:Bool) (fr:List Value) (s s':S) (x:Xc × List Value) (h:b1V p T call ops draw fr s=some (x,s')):x.2.length=fr.length ∧ ∀ t,t ∉ a0z ops → x.2[t]?=fr[t]?:=by
 cases draw with
 | false=>exact b2K ops ops fr s s' x h
 | true=>
   have h:M.bind (a4y p T (a2g call) ops ops fr) (fun y=>M.guard (a1b ops (a2I ops y.2) [] [] 0) <| M.pure (Xc.normal,y.1)) s=some (x,s'):=h
   obtain ⟨y,s2,h3,h4⟩:=M8 h
   obtain ⟨_,h6⟩:=R4 h4
   obtain ⟨rfl,rfl⟩:=J3 h6
   exact a8M ops ops fr s _ y h3
theorem b4T {β:Type} {v:Value} {x y:M β} {s:S} {r:β × S} (h:K3 v x y s=some r):(v=.bool true ∧ x s=some r) ∨ (v=.bool false ∧ y s=some r):=by
 cases v with
 | bool b=>cases b with
   | true=>exact Or.inl ⟨rfl,h⟩
   | false=>exact Or.inr ⟨rfl,h⟩
 | _=>cases h
theorem a4W {σ:Type} (body:σ → M (Xc × σ)) (n:Nat) (x:σ):a4d body (n + 1) x=M.bind (body x) fun r=>M5 r.1 (a4d body n r.2) (fun id=>M.pure (.exit id,r.2)) (M.pure (.ret,r.2)) (fun v=>M.pure (.pan v,r.2)):=rfl
theorem b2e (N:Nat):∀ (c:Code) (fr:List Value) (s s':S) (x:Xc × List Value),a2Q p T N call c fr s=some (x,s') → x.2.length=fr.length ∧ ∀ t,t ∉ a4n c → x.2[t]?=fr[t]?:=by
 intro c
 induction c with
 | skip=>intro fr s s' x h; obtain ⟨rfl,rfl⟩:=J3 h; exact ⟨rfl,fun _ _=>rfl⟩
 | region id ops draw=>intro fr s s' x h; exact b5e _ _ _ _ _ _ h
 | seq a b iha ihb=>
   intro fr s s' x h
   have h:M.bind (a2Q p T N call a fr) (fun r=>M5 r.1 (a2Q p T N call b r.2) (fun id=>M.pure (.exit id,r.2)) (M.pure (.ret,r.2)) (fun v=>M.pure (.pan v,r.2))) s=some (x,s'):=h
   obtain ⟨r,s1,h1,h2⟩:=M8 h
   obtain ⟨f1,f2⟩:=iha _ _ _ _ h1
   have hw:∀ t,t ∉ a4n (.seq a b) → t ∉ a4n a ∧ t ∉ a4n b:=fun t ht=>by
    have ht:t ∉ M6 (a4n a) (a4n b):=ht
    rw [M7,List.mem_append,not_or] at ht; exact ht
   obtain ⟨rx,rf⟩:=r
   cases rx with
   | normal=>
     obtain ⟨g1,g2⟩:=ihb _ _ _ _ h2
     exact ⟨g1.trans f1,fun t ht=>(g2 t (hw t ht).2).trans (f2 t (hw t ht).1)⟩
   | _=>obtain ⟨rfl,rfl⟩:=J3 h2; exact ⟨f1,fun t ht=>f2 t (hw t ht).1⟩
 | cond o a b iha ihb=>
   intro fr s s' x h
   have hw:∀ t,t ∉ a4n (.cond o a b) → t ∉ a4n a ∧ t ∉ a4n b:=fun t ht=>by
    have ht:t ∉ M6 (a4n a) (a4n b):=ht
    rw [M7,List.mem_append,not_or] at ht; exact ht
   obtain ⟨v,_,h1⟩:=U4 h
   rcases b4T h1 with ⟨_,h2⟩ | ⟨_,h2⟩
   · obtain ⟨f1,f2⟩:=iha _ _ _ _ h2; exact ⟨f1,fun t ht=>f2 t (hw t ht).1⟩
   · obtain ⟨f1,f2⟩:=ihb _ _ _ _ h2; exact ⟨f1,fun t ht=>f2 t (hw t ht).2⟩
 | block id b ih=>
   intro fr s s' x h
   obtain ⟨r,s1,h1,h2⟩:=M8 h
   obtain ⟨rfl,rfl⟩:=J3 h2
   exact ih _ _ _ r h1
 | loop b ih=>
   intro fr s s' x h
   have h:a4d (a2Q p T N call b) N fr s=some (x,s'):=h
   have key:∀ n fr s,a4d (a2Q p T N call b) n fr s=some (x,s') → x.2.length=fr.length ∧ ∀ t,t ∉ a4n b → x.2[t]?=fr[t]?:=by
    intro n
    induction n with
    | zero=>intro fr s h; cases h
    | succ n ihn=>
      intro fr s h
      rw [a4W] at h
      obtain ⟨r,s1,h1,h2⟩:=M8 h
      obtain ⟨f1,f2⟩:=ih _ _ _ _ h1
      obtain ⟨rx,rf⟩:=r
      cases rx with
      | normal=>
        obtain ⟨g1,g2⟩:=ihn _ _ h2
        exact ⟨g1.trans f1,fun t ht=>(g2 t ht).trans (f2 t ht)⟩
      | _=>obtain ⟨rfl,rfl⟩:=J3 h2; exact ⟨f1,f2⟩
   exact key N fr s h
 | exit id=>intro fr s s' x h; obtain ⟨rfl,rfl⟩:=J3 h; exact ⟨rfl,fun _ _=>rfl⟩
 | ret=>intro fr s s' x h; obtain ⟨rfl,rfl⟩:=J3 h; exact ⟨rfl,fun _ _=>rfl⟩
 | _=>intro fr s s' x h; cases h
theorem b4N {l m:List Nat} (h:c3Z l m=true) {t:Nat} (ht:t ∉ m):t ∉ l:=fun q=>ht ((a8e _ _).1 ((a1a _ _).1 h t q))
theorem c0p {β:Type} {E:List Nat} {id:Nat} {k k':Xc → M β} (h:∀ x,Le (k x) (k' x)):Le (b4a E id k) (k' (.exit id)):=by
 induction E with
 | nil=>exact Le.fail _
 | cons e E ih=>
   show Le (bcase (Nat.beq id e) (k (.exit e)) (b4a E id k)) _
   cases hb:Nat.beq id e with
   | true=>rw [Nat.eq_of_beq_eq_true hb]; exact h _
   | false=>exact ih
theorem b6r {β:Type} {E:List Nat} {n r:Bool} {ex:Xc} {k k':Xc → M β} (h:∀ x,Le (k x) (k' x)):Le (b1I pn E n r ex k) (k' ex):=by
 unfold b1I
 cases ex with
 | normal=>exact a7Q (h _)
 | exit id=>exact c0p h
 | ret=>exact a7Q (h _)
 | pan v=>exact a7Q (h _)
theorem c3k (N:Nat):∀ (c:Code) (pl:Pl) (β:Type) (fr:List Value) (k k':Xc → List Value → M β),(∀ x fr,Le (k x fr) (k' x fr)) →
 Le (a5s p T G8 pn N call c pl β fr k) (M.bind (a2Q p T N call c fr) fun r=>k' r.1 r.2):=by
 intro c
 induction c with
 | skip=>intro pl β fr k k' hk; exact hk _ _
 | region id ops draw=>intro pl β fr k k' hk; exact b9Q _ _ _ _ _ hk
 | seq a b iha ihb=>
   intro pl β fr k k' hk
   have hb:∀ fr,Le (a5s p T G8 pn N call b pl.b β fr k) (M.bind (a2Q p T N call b fr) fun r=>k' r.1 r.2):=fun fr=>ihb pl.b β fr k k' hk
   show Le _ (M.bind (M.bind (a2Q p T N call a fr) fun r=>M5 r.1 (a2Q p T N call b r.2) (fun id=>M.pure (.exit id,r.2)) (M.pure (.ret,r.2)) (fun v=>M.pure (.pan v,r.2))) fun r=>k' r.1 r.2)
   rw [a4f]
   unfold a5s
   cases hj:pl.j with
   | none=>
     refine Le.trans (iha pl.a β fr _ (fun ex fr'=>M5 ex (M.bind (a2Q p T N call b fr') fun r=>k' r.1 r.2) (fun id=>k' (.exit id) fr') (k' .ret fr') (fun v=>k' (.pan v) fr')) (fun x fr'=>?_)) ?_
     · exact a7p (fun _=>hb fr') (fun i _=>hk _ _) (fun _=>hk _ _) (fun v _=>hk _ _)
     · refine Le.bind (Le.refl _) fun r=>?_
       rw [a8D]
       exact a7p (fun _=>Le.refl _) (fun _ _=>Le.refl _) (fun _=>Le.refl _) (fun v _=>Le.refl _)
   | some W=>
     refine Le.guard fun hW=>?_
     intro s r h
     have h:M.bind (a5s p T G8 pn N call a pl.a (Xc × List Value) fr fun ex fr'=>M.pure (ex,a2K fr' W)) (fun x=>b1I pn (a6x (a6u a)) true (hasRet a) x.1 fun y=>M5 y (a5s p T G8 pn N call b pl.b β (a2b W x.2 fr) k) (fun id=>k (.exit id) (a2b W x.2 fr)) (k .ret (a2b W x.2 fr)) (fun v=>k (.pan v) (a2b W x.2 fr))) s=some r:=h
     obtain ⟨x,s1,h1,h2⟩:=M8 (s2:=r.2) (b:=r.1) h
     have h3:=iha pl.a (Xc × List Value) fr (fun ex fr'=>M.pure (ex,a2K fr' W)) (fun ex fr'=>M.pure (ex,a2K fr' W)) (fun _ _=>Le.refl _) s _ h1
     obtain ⟨y,s2,f1,f2⟩:=M8 h3
     obtain ⟨rfl,rfl⟩:=J3 f2
     obtain ⟨g1,g2⟩:=b2e N a fr s _ y f1
     refine a3o f1 ?_
     simp only [] at h2
     rw [a5j g1 (fun t ht=>g2 t (b4N hW ht))] at h2
     rw [a8D]
     exact b6r (k':=fun z=>M5 z (M.bind (a2Q p T N call b y.2) fun r=>k' r.1 r.2) (fun id=>k' (.exit id) y.2) (k' .ret y.2) (fun v=>k' (.pan v) y.2)) (fun x=>a7p (fun _=>hb _) (fun _ _=>hk _ _) (fun _=>hk _ _) (fun v _=>hk _ _)) _ _ h2
 | cond o a b iha ihb=>
   intro pl β fr k k' hk
   show Le (M.obind (a2H T fr o) fun v=>K3 v (a5s p T G8 pn N call a pl.a β fr k) (a5s p T G8 pn N call b pl.b β fr k)) (M.bind (M.obind (a2H T fr o) fun v=>K3 v (a2Q p T N call a fr) (a2Q p T N call b fr)) fun r=>k' r.1 r.2)
   refine Le.obind_bind fun v _=>?_
   cases v with
   | bool t=>cases t with
     | true=>exact iha pl.a β fr k k' hk
     | false=>exact ihb pl.b β fr k k' hk
   | _=>exact Le.fail _
 | block id b ih=>
   intro pl β fr k k' hk
   show Le (a5s p T G8 pn N call b pl.a β fr fun ex fr'=>k (a6i id ex) fr') (M.bind (M.bind (a2Q p T N call b fr) fun r=>M.pure (a6i id r.1,r.2)) fun r=>k' r.1 r.2)
   rw [a4f]
   exact ih pl.a β fr _ (fun ex fr'=>k' (a6i id ex) fr') (fun x fr=>hk _ _)
 | loop b ih=>
   intro pl β fr k k' hk
   refine Le.guard fun hW=>?_
   intro s r h
   have h:M.bind (a4d (fun xs=>a5s p T G8 pn N call b pl.a (Xc × List Value) (a2b pl.w xs fr) fun ex fr'=>M.pure (ex,a2K fr' pl.w)) N (a2K fr pl.w)) (fun x=>b1I pn (a6x (a6u b)) false (hasRet b) x.1 fun y=>k y (a2b pl.w x.2 fr)) s=some r:=h
   obtain ⟨x,s1,h1,h2⟩:=M8 (s2:=r.2) (b:=r.1) h
   have key:∀ n (fr0:List Value) (s s1:S) (x:Xc × List Value),fr0.length=fr.length → (∀ t,t ∉ pl.w → fr0[t]?=fr[t]?) →
    a4d (fun xs=>a5s p T G8 pn N call b pl.a (Xc × List Value) (a2b pl.w xs fr) fun ex fr'=>M.pure (ex,a2K fr' pl.w)) n (a2K fr0 pl.w) s=some (x,s1) →
    ∃ fr1,a4d (a2Q p T N call b) n fr0 s=some ((x.1,fr1),s1) ∧ a2b pl.w x.2 fr=fr1:=by
    intro n
    induction n with
    | zero=>intro fr0 s s1 x _ _ h; cases h
    | succ n ihn=>
      intro fr0 s s1 x hl hA h
      rw [a4W] at h
      obtain ⟨y,s2,e1,e2⟩:=M8 h
      have e3:=ih pl.a (Xc × List Value) (a2b pl.w (a2K fr0 pl.w) fr) (fun ex fr'=>M.pure (ex,a2K fr' pl.w)) (fun ex fr'=>M.pure (ex,a2K fr' pl.w)) (fun _ _=>Le.refl _) s _ e1
      rw [a5j hl hA] at e3
      obtain ⟨z,s3,f1,f2⟩:=M8 e3
      obtain ⟨rfl,rfl⟩:=J3 f2
      obtain ⟨g1,g2⟩:=b2e N b fr0 s _ z f1
      have hz1:z.2.length=fr.length:=g1.trans hl
      have hz2:∀ t,t ∉ pl.w → z.2[t]?=fr[t]?:=fun t ht=>(g2 t (b4N hW ht)).trans (hA t ht)
      obtain ⟨zx,zf⟩:=z
      cases zx with
      | normal=>
        obtain ⟨fr1,q1,q2⟩:=ihn zf _ _ x hz1 hz2 e2
        exact ⟨fr1,by rw [a4W]; exact a3o f1 q1,q2⟩
      | exit i=>
        obtain ⟨rfl,rfl⟩:=J3 e2
        exact ⟨zf,by rw [a4W]; exact a3o f1 rfl,a5j hz1 hz2⟩
      | ret=>
        obtain ⟨rfl,rfl⟩:=J3 e2
        exact ⟨zf,by rw [a4W]; exact a3o f1 rfl,a5j hz1 hz2⟩
      | pan v=>
        obtain ⟨rfl,rfl⟩:=J3 e2
        exact ⟨zf,by rw [a4W]; exact a3o f1 rfl,a5j hz1 hz2⟩
   obtain ⟨fr1,q1,q2⟩:=key N fr s s1 x rfl (fun _ _=>rfl) h1
   have h2:=b6r (k':=fun y=>k' y (a2b pl.w x.2 fr)) (fun y=>hk y _) _ _ h2
   rw [q2] at h2
   exact a3o (a:=(x.1,fr1)) q1 h2
 | exit id=>intro pl β fr k k' hk; exact hk _ _
 | ret=>intro pl β fr k k' hk; exact hk _ _
 | _=>intro pl β fr k k' hk; exact Le.fail _
end
end Go.V
end
