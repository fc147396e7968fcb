import Derived.Test.YtmomonnlmbljoaaGreatDoorRaa
import Derived.Test.YtmomonnlmbljoaaGreatDoorRai
section
noncomputable section
namespace Go.V
inductive CR where
 | ret (v:Value)
 | pan (v:Value)
inductive Xc where
 | normal
 | exit (id:Nat)
 | ret
 | pan (v:Value)
abbrev j4:=Nat→List Value→M CR
def l8 {α:Type} (b:Bool) (x y:α):α:=Bool.rec (motive:=fun _=>α) y x b
def j6 {β:Type} (v:Value) (x y:M β):M β:=match v with
 | .bool b=>l8 b x y
 | _=>M.fail
def P5 {β:Type} (r:CR) (kn kp:Value→M β):M β:=match r with
 | .ret v=>kn v
 | .pan v=>kp v
def l7 {β:Type} (x:Xc) (kn:M β) (ke:Nat→M β) (kr:M β) (kp:Value→M β):M β:=match x with
 | .normal=>kn
 | .exit id=>ke id
 | .ret=>kr
 | .pan v=>kp v
def U4 {σ:Type} (body:σ→M (Xc×σ)) (n:Nat):σ→M (Xc×σ):=
 Nat.rec (motive:=fun _=>σ→M (Xc×σ)) (fun _=>M.fail)
  (fun _ ih x=>M.bind (body x) fun r=>l7 r.1 (ih r.2) (fun id=>M.pure (.exit id,r.2)) (M.pure (.ret,r.2)) (fun v=>M.pure (.pan v,r.2))) n
def a7f {α:Type} (l:List Value):(List Value→α)→α:=
 List.rec (motive:=fun _=>(List Value→α)→α) (fun k=>k []) (fun x _ ih k=>a0R x fun x=>ih fun l=>k (x::l)) l
def c5s (body:List Value→M (Xc×List Value)) (n:Nat):List Value→M (Xc×List Value):=
 Nat.rec (motive:=fun _=>List Value→M (Xc×List Value)) (fun _=>M.fail)
  (fun _ ih x=>M.bind (body x) fun r=>a7f r.2 fun xs=>l7 r.1 (ih xs) (fun id=>M.pure (.exit id,xs)) (M.pure (.ret,xs)) (fun v=>M.pure (.pan v,xs))) n
structure Cb where
 bv:∀ β:Type,M Value→(Value→M β)→M β
 bc:∀ β:Type,M CR→(Value→M β)→(Value→M β)→M β
 lp:(List Value→M (Xc×List Value))→Nat→List Value→M (Xc×List Value)
 bj:∀ β:Type,M (Xc×List Value)→(Xc→List Value→M β)→M β
def D8:Cb:=⟨fun _ m k=>M.bind m k,fun _ m kn kp=>M.bind m fun r=>P5 r kn kp,U4,fun _ m k=>M.bind m fun r=>k r.1 r.2⟩
def C8:Cb:=⟨fun _ m k=>M.bind m fun v=>a0R v k,fun _ m kn kp=>M.bind m fun r=>P5 r (fun v=>a0R v kn) kp,c5s,fun _ m k=>M.bind m fun r=>a7f r.2 fun xs=>k r.1 xs⟩
def J9 (fr:List Value) (W:List Nat):List Value:=U8 (d9 fr) W
def a1B (vs:List Value) (W:List Nat):Nat→List Value→List Value:=
 List.rec (motive:=fun _=>Nat→List Value→List Value) (fun _ fr=>fr) (fun t _ ih i fr=>ih (Nat.succ i) (a1t fr t (d9 vs i))) W
def I6 (W:List Nat) (vs fr:List Value):List Value:=a1B vs W 0 fr
section
variable (p:Program) (T:Tab)
def b8G:Nat→List Value→M Value:=fun _ _=>M.fail
def D7 (call:j4):Nat→List Value→M Value:=fun f vs=>M.bind (call f vs) fun r=>P5 r M.pure fun _=>M.fail
def d8J (v:Value) (vs:List Value):Option (Nat×List Value):=match v with
 | .func fn first captured=>match fn with
   | .func g=>some (g,G7 first.toList (G7 vs captured.toList))
   | _=>none
 | _=>none
def a2o (fr:List Value) (f:Operand) (args:List Operand):Option (Nat×List Value):=match J8 T fr f with
 | some v=>match M0 T fr args with
   | some vs=>d8J v vs
   | none=>none
 | none=>none
def a0A:Value→Bool
 | .iface _ _=>true
 | _=>false
def X5 (cb:Cb) (call:j4) {β:Type} (fr:List Value) (o:Op) (kn kp:Value→M β):M β:=match o with
 | .move x=>M.obind (J8 T fr x) kn
 | .assign x=>M.obind (J8 T fr x) kn
 | .call c=>match c.callee with
   | .value f=>M.obind (a2o T fr f c.args.toList) fun ga=>cb.bc β (call ga.1 ga.2) kn kp
   | .builtin b=>cb.bv β (a1m p T fr b c.args c.argTypes) kn
   | _=>M.fail
 | .panic x=>M.obind (J8 T fr x) fun v=>M.guard (a0A v) (kp v)
 | o=>cb.bv β (a1e p T fr o) kn
def a2O (cb:Cb) (pn:Bool) (call:j4) {β:Type} (os:List Oper):List Value→(Xc→List Value→M β)→M β:=
 List.rec (motive:=fun _=>List Value→(Xc→List Value→M β)→M β) (fun fr k=>k .normal fr)
  (fun o _ ih fr k=>X5 p T cb call fr o.op (fun v=>ih (G5 fr o v) k) (fun v=>l8 pn (k (.pan v) fr) M.fail)) os
def b0Y:Option (Nat×Bool)→Option (Nat×Bool)→Bool
 | none,none=>true
 | some a,some b=>Nat.beq a.1 b.1 && (a.2 == b.2)
 | _,_=>false
def a1L (os:List Oper):List (Option (Nat×Bool)×List Oper):=
 List.rec (motive:=fun _=>List (Option (Nat×Bool)×List Oper)) [] (fun o _ ih=>match ih with
  | []=>[(o.guard, [o])]
  | g::gs=>match b0Y o.guard g.1 with
    | true=>(g.1,o::g.2)::gs
    | false=>(o.guard, [o])::g::gs) os
def E5 (os:List Oper):List Nat:=List.rec (motive:=fun _=>List Nat) [] (fun o _ ih=>match o.dst with
 | some t=>t::ih
 | none=>ih) os
def a5X (cb:Cb) (pn:Bool) (call:j4) {β:Type} (ops:List Oper) (gs:List (Option (Nat×Bool)×List Oper)):List Value→(Xc→List Value→M β)→M β:=
 List.rec (motive:=fun _=>List Value→(Xc→List Value→M β)→M β) (fun fr k=>k .normal fr)
  (fun g _ ih fr k=>match g.1 with
    | none=>a2O p T cb pn call g.2 fr fun ex fr'=>l7 ex (ih fr' k) (fun _=>M.fail) M.fail fun v=>k (.pan v) fr'
    | some jb=>M.obind (V7 ops jb.1) fun t=>M.guard (!(a0j t (E5 g.2))) <|
      cb.bj β (l8 (o7 jb.2 (d9 fr t)) (a2O p T cb pn call g.2 fr fun ex fr'=>M.pure (ex,J9 fr' (E5 g.2))) (M.pure (.normal,O1 (F4 (E5 g.2)))))
       fun ex vs=>l7 ex (ih (I6 (E5 g.2) vs fr) k) (fun _=>M.fail) M.fail fun v=>l8 pn (k (.pan v) (I6 (E5 g.2) vs fr)) M.fail) gs
def a5M (call:j4) (ops:List Oper) (n:Nat) (U:List Nat) (vs:List Value) (W:List Nat):M (Xc×List Value):=
 M.bind (O4 p T (D7 call) ops ops (I6 U vs (O1 n))) fun y=>M.guard (E9 ops (H9 ops y.2) [] [] 0) <| M.pure (.normal,J9 y.1 W)
def Y2 (ops os:List Oper):List Nat:=List.rec (motive:=fun _=>List Nat) [] (fun o _ ih=>G7 (Q7 ops o) ih) os
def b7l (i:Nat) (l:List Nat):List Nat:=match a0j i l with
 | true=>l
 | false=>i::l
def Z4 (l:List Nat):List Nat:=List.rec (motive:=fun _=>List Nat) [] (fun i _ ih=>b7l i ih) l
def c0d (cb:Cb) (pn:Bool) (call:j4) {β:Type} (ops:List Oper) (draw:Bool) (fr:List Value) (k:Xc→List Value→M β):M β:=match draw with
 | false=>a5X p T cb pn call ops (a1L ops) fr k
 | true=>cb.bj β (a5M p T call ops (F4 fr) (Z4 (Y2 ops ops)) (J9 fr (Z4 (Y2 ops ops))) (E5 ops)) fun _ vs=>k .normal (I6 (E5 ops) vs fr)
def Y0 (call:j4) (ops os:List Oper):List Value→M (Xc×List Value):=
 List.rec (motive:=fun _=>List Value→M (Xc×List Value)) (fun fr=>M.pure (.normal,fr))
  (fun o _ ih fr=>match M6 ops fr o with
    | true=>X5 p T D8 call fr o.op (fun v=>ih (G5 fr o v)) (fun v=>M.pure (.pan v,fr))
    | false=>ih (G5 fr o undef)) os
def a3U (call:j4) (ops:List Oper) (draw:Bool) (fr:List Value):M (Xc×List Value):=match draw with
 | false=>Y0 p T call ops ops fr
 | true=>M.bind (O4 p T (D7 call) ops ops fr) fun y=>M.guard (E9 ops (H9 ops y.2) [] [] 0) <| M.pure (.normal,y.1)
def Y3 (id:Nat) (x:Xc):Xc:=match x with
 | .exit id'=>match Nat.beq id' id with
   | true=>.normal
   | false=>.exit id'
 | x=>x
def K6 (N:Nat) (call:j4):Code→List Value→M (Xc×List Value)
 | .skip,fr=>M.pure (.normal,fr)
 | .region _ ops draw,fr=>a3U p T call ops.toList draw fr
 | .seq a b,fr=>M.bind (K6 N call a fr) fun r=>l7 r.1 (K6 N call b r.2) (fun id=>M.pure (.exit id,r.2)) (M.pure (.ret,r.2)) (fun v=>M.pure (.pan v,r.2))
 | .cond x a b,fr=>M.obind (J8 T fr x) fun v=>j6 v (K6 N call a fr) (K6 N call b fr)
 | .block id b,fr=>M.bind (K6 N call b fr) fun r=>M.pure (Y3 id r.1,r.2)
 | .loop b,fr=>U4 (K6 N call b) N fr
 | .exit id,fr=>M.pure (.exit id,fr)
 | .ret,fr=>M.pure (.ret,fr)
 | _,_=>M.fail
inductive Pl where
 | d
 | s (j:Option (List Nat)) (a b:Pl)
 | l (W:List Nat) (a:Pl)
def Pl.a:Pl→Pl
 | .d=>.d
 | .s _ a _=>a
 | .l _ a=>a
def Pl.b:Pl→Pl
 | .s _ _ b=>b
 | _=>.d
def Pl.j:Pl→Option (List Nat)
 | .s j _ _=>j
 | _=>none
def Pl.w:Pl→List Nat
 | .l W _=>W
 | _=>[]
def N9:Code→List Nat
 | .region _ ops _=>E5 ops.toList
 | .seq a b=>G7 (N9 a) (N9 b)
 | .cond _ a b=>G7 (N9 a) (N9 b)
 | .block _ b=>N9 b
 | .loop b=>N9 b
 | _=>[]
def d2Y (l m:List Nat):Bool:=L6 (fun i=>a0j i m) l
def Y7:Code→List Nat
 | .seq a b=>G7 (Y7 a) (Y7 b)
 | .cond _ a b=>G7 (Y7 a) (Y7 b)
 | .block _ b=>Y7 b
 | .loop b=>Y7 b
 | .exit id=>[id]
 | _=>[]
def hasRet:Code→Bool
 | .seq a b=>hasRet a || hasRet b
 | .cond _ a b=>hasRet a || hasRet b
 | .block _ b=>hasRet b
 | .loop b=>hasRet b
 | .ret=>true
 | _=>false
def a6w {β:Type} (E:List Nat) (id:Nat) (k:Xc→M β):M β:=List.rec (motive:=fun _=>M β) M.fail (fun e _ ih=>l8 (Nat.beq id e) (k (.exit e)) ih) E
def a3X {β:Type} (pn:Bool) (E:List Nat) (n r:Bool) (ex:Xc) (k:Xc→M β):M β:=
 l7 ex (l8 n (k .normal) M.fail) (fun id=>a6w E id k) (l8 r (k .ret) M.fail) (fun v=>l8 pn (k (.pan v)) M.fail)
def R7 (cb:Cb) (pn:Bool) (N:Nat) (call:j4):Code→Pl→(β:Type)→List Value→(Xc→List Value→M β)→M β
 | .skip,_,_,fr,k=>k .normal fr
 | .region _ ops draw,_,_,fr,k=>c0d p T cb pn call ops.toList draw fr k
 | .seq a b,pl, β,fr,k=>match pl.j with
   | none=>R7 cb pn N call a pl.a β fr fun ex fr'=>l7 ex (R7 cb pn N call b pl.b β fr' k) (fun id=>k (.exit id) fr') (k .ret fr') (fun v=>k (.pan v) fr')
   | some W=>M.guard (d2Y (N9 a) W) <| cb.bj β (R7 cb pn N call a pl.a (Xc×List Value) fr fun ex fr'=>M.pure (ex,J9 fr' W))
    fun ex vs=>a3X pn (Z4 (Y7 a)) true (hasRet a) ex fun x=>l7 x (R7 cb pn N call b pl.b β (I6 W vs fr) k) (fun id=>k (.exit id) (I6 W vs fr)) (k .ret (I6 W vs fr)) (fun v=>k (.pan v) (I6 W vs fr))
 | .cond x a b,pl, β,fr,k=>M.obind (J8 T fr x) fun v=>j6 v (R7 cb pn N call a pl.a β fr k) (R7 cb pn N call b pl.b β fr k)
 | .block id b,pl, β,fr,k=>R7 cb pn N call b pl.a β fr fun ex fr'=>k (Y3 id ex) fr'
 | .loop b,pl, β,fr,k=>M.guard (d2Y (N9 b) pl.w) <|
  cb.bj β (cb.lp (fun xs=>R7 cb pn N call b pl.a (Xc×List Value) (I6 pl.w xs fr) fun ex fr'=>M.pure (ex,J9 fr' pl.w)) N (J9 fr pl.w))
   fun ex vs=>a3X pn (Z4 (Y7 b)) false (hasRet b) ex fun x=>k x (I6 pl.w vs fr)
 | .exit id,_,_,fr,k=>k (.exit id) fr
 | .ret,_,_,fr,k=>k .ret fr
 | _,_,_,_,_=>M.fail
def a3K (cb:Cb) {β:Type} (fr:List Value) (rs:List ResultVar):(List Value→M β)→M β:=
 List.rec (motive:=fun _=>(List Value→M β)→M β) (fun k=>k []) (fun r _ ih k=>match r with
  | .tmp t=>ih fun vs=>k (d9 fr t::vs)
  | .cell a t=>K5 (d9 fr a) fun ad=>cb.bv β (a1h T t ad) fun v=>ih fun vs=>k (v::vs)) rs
def b6b (cb:Cb) (fn:Func) (ex:Xc) (fr:List Value):M CR:=
 l7 ex (a3K T cb fr fn.results.toList fun vs=>M.pure (.ret (a4z vs))) (fun _=>M.fail) (a3K T cb fr fn.results.toList fun vs=>M.pure (.ret (a4z vs))) fun v=>M.pure (.pan v)
def D5 (cb:Cb) (pn:Bool) (N:Nat) (call:j4) (fn:Func) (c:Code) (pl:Pl) (args:List Value):M CR:=
 R7 p T cb pn N call c pl CR (G7 args (O1 (fn.ntmps - F4 args))) fun ex fr=>b6b T cb fn ex fr
def a0o (N:Nat) (call:j4) (fn:Func) (f:Nat) (args:List Value):M CR:=match fn.body with
 | none=>M.bind (a9X p f args) fun v=>M.pure (.ret v)
 | some c=>M.bind (K6 p T N call c (G7 args (O1 (fn.ntmps - F4 args)))) fun r=>b6b T D8 fn r.1 r.2
def a5A (ext:Nat→Option (List Value→M Value)) (N n:Nat):j4:=
 Nat.rec (motive:=fun _=>j4) (fun _ _=>M.fail) (fun _ ih f args=>match ext f with
  | some g=>M.bind (g args) fun v=>M.pure (.ret v)
  | none=>M.obind (T.funcs.get f) fun fn=>a0o p T N ih fn f args) n
abbrev R8:=Trie (j4→List Value→M CR)
def a0L (sh:R8) (n:Nat):j4:=
 Nat.rec (motive:=fun _=>j4) (fun _ _=>M.fail) (fun _ ih f args=>M.obind (sh.get f) fun g=>g ih args) n
end
end Go.V
end
section
noncomputable section
namespace Go.V
theorem c0h {α:Type} (l:List Value):∀ k:List Value→α,a7f l k=k l:=by
 induction l with
 | nil=>intro k; rfl
 | cons x l ih=>
   intro k
   show a0R x (fun x=>a7f l fun l=>k (x::l))=_
   rw [a0V,ih]
theorem a3M:C8=D8:=by
 unfold C8 D8
 have h1:(fun (β:Type) (m:M Value) (k:Value→M β)=>M.bind m fun v=>a0R v k)=fun _ m k=>M.bind m k:=by
  funext β m k; congr 1; funext v; exact a0V v k
 have h2:(fun (β:Type) (m:M CR) (kn kp:Value→M β)=>M.bind m fun r=>P5 r (fun v=>a0R v kn) kp)=fun _ m kn kp=>M.bind m fun r=>P5 r kn kp:=by
  funext β m kn kp; congr 1; funext r; congr 1; funext v; exact a0V v kn
 have h3:c5s=U4:=by
  funext body n
  induction n with
  | zero=>rfl
  | succ n ih=>
    funext x
    show M.bind (body x) (fun r=>a7f r.2 fun xs=>l7 r.1 (c5s body n xs) (fun id=>M.pure (.exit id,xs)) (M.pure (.ret,xs)) (fun v=>M.pure (.pan v,xs)))=M.bind (body x) fun r=>l7 r.1 (U4 body n r.2) (fun id=>M.pure (.exit id,r.2)) (M.pure (.ret,r.2)) (fun v=>M.pure (.pan v,r.2))
    congr 1; funext r; rw [c0h,ih]
 have h4:(fun (β:Type) (m:M (Xc×List Value)) (k:Xc→List Value→M β)=>M.bind m fun r=>a7f r.2 fun xs=>k r.1 xs)=fun _ m k=>M.bind m fun r=>k r.1 r.2:=by
  funext β m k; congr 1; funext r; rw [c0h]
 rw [h1,h2,h3,h4]
def Le {α:Type} (m m':M α):Prop:=∀ s r,m s=some r→m' s=some r
theorem Le.refl {α:Type} (m:M α):Le m m:=fun _ _ h=>h
theorem Le.trans {α:Type} {a b c:M α} (h:Le a b) (k:Le b c):Le a c:=fun s r e=>k s r (h s r e)
theorem Le.fail {α:Type} (m:M α):Le M.fail m:=fun _ _ h=>by cases h
theorem M5 {α β:Type} {m:M α} {f:α→M β} {s s1:S} {a:α} {r:β×S} (h:m s=some (a,s1)) (h':f a s1=some r):M.bind m f s=some r:=by
 unfold M.bind; rw [h]; exact h'
theorem Le.bind {α β:Type} {m m':M α} {f f':α→M β} (h:Le m m') (k:∀ a,Le (f a) (f' a)):Le (M.bind m f) (M.bind m' f'):=fun s r e=>by
 obtain ⟨a,s1,h1,h2⟩:=w9 (s2:=r.2) (b:=r.1) e
 exact M5 (h s _ h1) (k a s1 _ h2)
theorem Le.obind {α β:Type} {o:Option α} {f f':α→M β} (k:∀ a,o=some a→Le (f a) (f' a)):Le (M.obind o f) (M.obind o f'):=by
 cases o with
 | none=>exact Le.fail _
 | some a=>exact k a rfl
theorem Le.obind_bind {α β γ:Type} {o:Option α} {f:α→M γ} {f':α→M β} {g:β→M γ} (k:∀ a,o=some a→Le (f a) (M.bind (f' a) g)):Le (M.obind o f) (M.bind (M.obind o f') g):=by
 cases o with
 | none=>exact Le.fail _
 | some a=>exact k a rfl
theorem Le.guard {α:Type} {b:Bool} {m m':M α} (h:b=true→Le m m'):Le (M.guard b m) m':=by
 cases b with
 | true=>exact h rfl
 | false=>exact Le.fail _
theorem N8 {α β γ:Type} (m:M α) (f:α→M β) (g:β→M γ):M.bind (M.bind m f) g=M.bind m fun a=>M.bind (f a) g:=by
 funext s; unfold M.bind; cases m s <;> rfl
theorem e7R {α β:Type} (a:α) (f:α→M β):M.bind (M.pure a) f=f a:=Eq.trans rfl rfl
theorem a1x {β γ:Type} (x:Xc) (a:M β) (b:Nat→M β) (c:M β) (d:Value→M β) (g:β→M γ):M.bind (l7 x a b c d) g=l7 x (M.bind a g) (fun i=>M.bind (b i) g) (M.bind c g) (fun v=>M.bind (d v) g):=by
 cases x <;> rfl
theorem a0D {β:Type} {x:Xc} {a a':M β} {b b':Nat→M β} {c c':M β} {d d':Value→M β} (h1:x=.normal→Le a a') (h2:∀ i,x=.exit i→Le (b i) (b' i)) (h3:x=.ret→Le c c') (h4:∀ v,x=.pan v→Le (d v) (d' v)) :
 Le (l7 x a b c d) (l7 x a' b' c' d'):=by
 cases x with
 | normal=>exact h1 rfl
 | exit i=>exact h2 i rfl
 | ret=>exact h3 rfl
 | pan v=>exact h4 v rfl
theorem c8F {β γ:Type} {r:CR} {kn kp:Value→M γ} {kn' kp':Value→M β} {g:β→M γ} (h1:∀ v,Le (kn v) (M.bind (kn' v) g)) (h2:∀ v,Le (kp v) (M.bind (kp' v) g)):Le (P5 r kn kp) (M.bind (P5 r kn' kp') g):=by
 cases r with
 | ret v=>exact h1 v
 | pan v=>exact h2 v
theorem b0x (fr:List Value) (W:List Nat):J9 fr W=W.map (d9 fr):=Q6 _ _
theorem b0U (v:Value) (vs:List Value) (W:List Nat):∀ (i:Nat) (fr:List Value),a1B (v::vs) W (Nat.succ i) fr=a1B vs W i fr:=by
 induction W with
 | nil=>intro i fr; rfl
 | cons t W ih=>intro i fr; exact ih (Nat.succ i) _
theorem a4n (t:Nat) (W:List Nat) (v:Value) (vs fr:List Value):I6 (t::W) (v::vs) fr=I6 W vs (a1t fr t v):=b0U v vs W 0 _
theorem a5L (W:List Nat):∀ (fr' fr:List Value),fr'.length=fr.length→∀ t,(I6 W (J9 fr' W) fr)[t]?=if t∈W then fr'[t]? else fr[t]?:=by
 induction W with
 | nil=>intro fr' fr _ t; simp [I6,a1B]
 | cons u W ih=>
   intro fr' fr hl t
   have e:J9 fr' (u::W)=d9 fr' u::J9 fr' W:=rfl
   rw [e,a4n,ih fr' (a1t fr u (d9 fr' u)) (by rw [a1D]; simpa using hl) t]
   by_cases h1:t∈W
   · rw [if_pos h1,if_pos (List.mem_cons_of_mem _ h1)]
   · rw [if_neg h1,a1D,List.getElem?_set]
     by_cases h2:u=t
     · subst h2
       rw [if_pos rfl,if_pos List.mem_cons_self,U0]
       by_cases h3:u<fr.length
       · rw [if_pos h3,List.getElem?_eq_getElem (by omega)]; rfl
       · rw [if_neg h3,List.getElem?_eq_none (by omega)]
     · rw [if_neg h2,if_neg (by simp only [List.mem_cons,not_or]; exact ⟨fun e=>h2 e.symm,h1⟩)]
theorem R4 {W:List Nat} {fr' fr:List Value} (hl:fr'.length=fr.length) (h:∀ t,t ∉ W→fr'[t]?=fr[t]?):I6 W (J9 fr' W) fr=fr':=by
 apply List.ext_getElem?
 intro t
 rw [a5L W fr' fr hl t]
 by_cases ht:t∈W
 · rw [if_pos ht]
 · rw [if_neg ht,h t ht]
theorem a9T (vs:List Value) (W:List Nat):∀ (i:Nat) (fr:List Value),(a1B vs W i fr).length=fr.length:=by
 induction W with
 | nil=>intro i fr; rfl
 | cons u W ih=>
   intro i fr
   show (a1B vs W (Nat.succ i) (a1t fr u (d9 vs i))).length=_
   rw [ih,a1D]; simp
theorem b0O (W:List Nat) (vs fr:List Value):(I6 W vs fr).length=fr.length:=a9T vs W 0 fr
theorem a0N {α:Type} {b:Bool} {m m':M α} (h:Le m m'):Le (l8 b m M.fail) m':=by
 cases b with
 | true=>exact h
 | false=>exact Le.fail _
section
variable {p:Program} {T:Tab} {call:j4} {pn:Bool}
theorem d5z {β γ:Type} {fr:List Value} {o:Op} {kn kp:Value→M γ} {kn' kp':Value→M β} {g:β→M γ} (h1:∀ v,Le (kn v) (M.bind (kn' v) g)) (h2:∀ v,Le (kp v) (M.bind (kp' v) g)) :
 Le (X5 p T D8 call fr o kn kp) (M.bind (X5 p T D8 call fr o kn' kp') g):=by
 have hs:∀ m:M Value,Le (D8.bv γ m kn) (M.bind (D8.bv β m kn') g):=fun m=>by
  show Le (M.bind m kn) (M.bind (M.bind m kn') g)
  rw [N8]
  exact Le.bind (Le.refl _) h1
 unfold X5
 split
 · exact Le.obind_bind fun v _=>h1 v
 · exact Le.obind_bind fun v _=>h1 v
 · split
   · refine Le.obind_bind fun ga _=>?_
     show Le (M.bind (call ga.1 ga.2) fun r=>P5 r kn kp) (M.bind (M.bind (call ga.1 ga.2) fun r=>P5 r kn' kp') g)
     rw [N8]
     exact Le.bind (Le.refl _) fun r=>c8F h1 h2
   · exact hs _
   · exact Le.fail _
 · refine Le.obind_bind fun v _=>?_
   cases hb:a0A v with
   | true=>exact h2 v
   | false=>exact Le.fail _
 · exact hs _
theorem V6 (ops:List Oper) (o:Oper) (os:List Oper) (fr:List Value):Y0 p T call ops (o::os) fr=match M6 ops fr o with
 | true=>X5 p T D8 call fr o.op (fun v=>Y0 p T call ops os (G5 fr o v)) (fun v=>M.pure (.pan v,fr))
 | false=>Y0 p T call ops os (G5 fr o undef):=rfl
theorem d0r (cb:Cb) {β:Type} (o:Oper) (os:List Oper) (fr:List Value) (k:Xc→List Value→M β):a2O p T cb pn call (o::os) fr k=X5 p T cb call fr o.op (fun v=>a2O p T cb pn call os (G5 fr o v) k) (fun v=>l8 pn (k (.pan v) fr) M.fail):=rfl
theorem b9X {β:Type} (ops:List Oper) (g:Option (Nat×Bool)) (hw:∀ (fr:List Value) (o:Oper),o.guard=g→(∀ jb,g=some jb→∀ t,V7 ops jb.1=some t→o7 jb.2 (d9 fr t)=true)→M6 ops fr o=true) :
 ∀ (os:List Oper),(∀ o∈os,o.guard=g)→(∀ jb,g=some jb→∃ t,V7 ops jb.1=some t∧t ∉ E5 os)→∀ (fr:List Value),(∀ jb,g=some jb→∀ t,V7 ops jb.1=some t→o7 jb.2 (d9 fr t)=true) →
   ∀ (k k':Xc→List Value→M β),(∀ x fr,Le (k x fr) (k' x fr))→Le (a2O p T D8 pn call os fr k) (M.bind (Y0 p T call ops os fr) fun r=>k' r.1 r.2):=by
 intro os
 induction os with
 | nil=>intro _ _ fr _ k k' hk; exact hk _ _
 | cons o os ih=>
   intro ho hd fr hb k k' hk
   rw [d0r,V6,hw fr o (ho o List.mem_cons_self) hb]
   refine d5z (fun v=>?_) (fun v=>a0N (hk _ _))
   refine ih (fun x hx=>ho x (List.mem_cons_of_mem _ hx)) (fun jb e=>?_) _ (fun jb e t ht=>?_) k k' hk
   · obtain ⟨t,h1,h2⟩:=hd jb e
     refine ⟨t,h1,fun q=>h2 ?_⟩
     show t∈(match o.dst with | some u=>u::E5 os | none=>E5 os)
     cases o.dst with
     | none=>exact q
     | some u=>exact List.mem_cons_of_mem _ q
   · obtain ⟨t',h1,h2⟩:=hd jb e
     rw [ht] at h1; cases h1
     have h2':t ∉ (match o.dst with | some u=>u::E5 os | none=>E5 os):=h2
     have e2:d9 (G5 fr o v) t=d9 fr t:=by
      apply Y8
      rw [P9]
      rw [if_neg]
      rintro ⟨q,_⟩
      unfold O9 at q
      cases hd:o.dst with
      | none=>rw [hd] at q; cases q
      | some u=>rw [hd] at q h2'; simp at q; exact h2' (by simp [q])
     rw [e2]
     exact hb jb e t ht
theorem d1O {ops:List Oper} {fr:List Value} {o:Oper} (h:o.guard=none):M6 ops fr o=true:=by unfold M6; rw [h]
theorem b0u {ops:List Oper} {fr:List Value} {o:Oper} {jb:Nat×Bool} {t:Nat} (h:o.guard=some jb) (ht:V7 ops jb.1=some t):M6 ops fr o=o7 jb.2 (d9 fr t):=by
 unfold M6; rw [h]; simp only; rw [ht]
theorem b8V (ops:List Oper) (r:List Oper):∀ (l:List Oper) (fr:List Value),Y0 p T call ops (l ++ r) fr=M.bind (Y0 p T call ops l fr) fun x=>l7 x.1 (Y0 p T call ops r x.2) (fun id=>M.pure (.exit id,x.2)) (M.pure (.ret,x.2)) (fun v=>M.pure (.pan v,x.2)):=by
 intro l
 induction l with
 | nil=>intro fr; rfl
 | cons o l ih=>
   intro fr
   rw [List.cons_append,V6,V6]
   cases M6 ops fr o with
   | false=>exact ih _
   | true=>
     have step:∀ (kn kp kn' kp':Value→M (Xc×List Value)) (g:(Xc×List Value)→M (Xc×List Value)),(∀ v,kn v=M.bind (kn' v) g)→(∀ v,kp v=M.bind (kp' v) g)→X5 p T D8 call fr o.op kn kp=M.bind (X5 p T D8 call fr o.op kn' kp') g:=by
      intro kn kp kn' kp' g h1 h2
      have hs:∀ m:M Value,D8.bv (Xc×List Value) m kn=M.bind (D8.bv (Xc×List Value) m kn') g:=fun m=>by
       show M.bind m kn=M.bind (M.bind m kn') g
       rw [N8]; congr 1; funext v; exact h1 v
      have ho:∀ x:Option Value,M.obind x kn=M.bind (M.obind x kn') g:=fun x=>by cases x with | none=>rfl | some v=>exact h1 v
      unfold X5
      split
      · exact ho _
      · exact ho _
      · split
        · rename_i f _
          cases a2o T fr f _ with
          | none=>rfl
          | some ga=>
            show M.bind (call ga.1 ga.2) (fun r=>P5 r kn kp)=M.bind (M.bind (call ga.1 ga.2) fun r=>P5 r kn' kp') g
            rw [N8]; congr 1; funext r
            cases r with
            | ret v=>exact h1 v
            | pan v=>exact h2 v
        · exact hs _
        · rfl
      · rename_i x _
        cases J8 T fr x with
        | none=>rfl
        | some v=>
          show M.guard (a0A v) (kp v)=M.bind (M.guard (a0A v) (kp' v)) g
          cases a0A v with
          | true=>exact h2 v
          | false=>rfl
      · exact hs _
     exact step _ _ _ _ _ (fun v=>ih _) (fun v=>rfl)
theorem b8R {β:Type} {fr:List Value} {o:Op} {kn kp:Value→M β} {s s':S} {b:β} {Q:β→Prop} (h:X5 p T D8 call fr o kn kp s=some (b,s'))
 (h1:∀ v s,kn v s=some (b,s')→Q b) (h2:∀ v s,kp v s=some (b,s')→Q b):Q b:=by
 have hs:∀ m:M Value,D8.bv β m kn s=some (b,s')→Q b:=fun m q=>by
  obtain ⟨v,s1,_,q2⟩:=w9 (f:=kn) q
  exact h1 v s1 q2
 have ho:∀ x:Option Value,M.obind x kn s=some (b,s')→Q b:=fun x q=>by
  obtain ⟨v,_,q2⟩:=C9 q
  exact h1 v s q2
 cases o with
 | move x=>exact ho _ h
 | assign x=>exact ho _ h
 | call c=>
   obtain ⟨cal,args,ts⟩:=c
   cases cal with
   | value f=>
     obtain ⟨ga,_,q⟩:=C9 h
     obtain ⟨r,s1,_,q2⟩:=w9 (f:=fun r=>P5 r kn kp) q
     cases r with
     | ret v=>exact h1 v s1 q2
     | pan v=>exact h2 v s1 q2
   | builtin b=>exact hs _ h
   | invoke r m=>cases h
 | panic x=>
   obtain ⟨v,_,q⟩:=C9 h
   obtain ⟨_,q2⟩:=A8 q
   exact h2 v s q2
 | _=>exact hs _ h
theorem a0w {o:Oper} {os:List Oper} {t:Nat}:t∈E5 (o::os) ↔ t∈O9 o∨t∈E5 os:=by
 show t∈(match o.dst with | some u=>u::E5 os | none=>E5 os) ↔ _
 unfold O9
 cases o.dst with
 | none=>simp
 | some u=>simp
theorem a5x (ops:List Oper):∀ (os:List Oper) (fr:List Value) (s s':S) (x:Xc×List Value),Y0 p T call ops os fr s=some (x,s')→x.2.length=fr.length∧∀ t,t ∉ E5 os→x.2[t]?=fr[t]?:=by
 intro os
 induction os with
 | nil=>intro fr s s' x h; obtain ⟨rfl,rfl⟩:=o9 h; exact ⟨rfl,fun _ _=>rfl⟩
 | cons o os ih=>
   intro fr s s' x h
   have next:∀ v s1,Y0 p T call ops os (G5 fr o v) s1=some (x,s')→x.2.length=fr.length∧∀ t,t ∉ E5 (o::os)→x.2[t]?=fr[t]?:=by
    intro v s1 q
    obtain ⟨h1,h2⟩:=ih _ _ _ _ q
    refine ⟨by rw [h1,U9],fun t ht=>?_⟩
    rw [a0w,not_or] at ht
    rw [h2 t ht.2,P9,if_neg (fun q=>ht.1 q.1)]
   rw [V6] at h
   cases hw:M6 ops fr o with
   | false=>rw [hw] at h; exact next _ _ h
   | true=>
     rw [hw] at h
     refine b8R (Q:=fun b=>b.2.length=fr.length∧∀ t,t ∉ E5 (o::os)→b.2[t]?=fr[t]?) h next (fun v s1 q=>?_)
     obtain ⟨rfl,rfl⟩:=o9 q
     exact ⟨rfl,fun _ _=>rfl⟩
theorem d2G (ops:List Oper) (jb:Nat×Bool) (t:Nat) (ht:V7 ops jb.1=some t):∀ (os:List Oper),(∀ o∈os,o.guard=some jb)→t ∉ E5 os→∀ (fr:List Value),o7 jb.2 (d9 fr t)=false →
 Y0 p T call ops os fr=M.pure (.normal,I6 (E5 os) (O1 (F4 (E5 os))) fr):=by
 intro os
 induction os with
 | nil=>intro _ _ fr _; rfl
 | cons o os ih=>
   intro ho hd fr hb
   rw [V6,b0u (ho o List.mem_cons_self) ht,hb]
   rw [a0w,not_or] at hd
   have e2:d9 (G5 fr o undef) t=d9 fr t:=by
    apply Y8
    rw [P9,if_neg (fun q=>hd.1 q.1)]
   simp only
   rw [ih (fun x hx=>ho x (List.mem_cons_of_mem _ hx)) hd.2 _ (by rw [e2]; exact hb)]
   congr 2
   show I6 (E5 os) (O1 (F4 (E5 os))) (G5 fr o undef)=I6 (match o.dst with | some u=>u::E5 os | none=>E5 os) (O1 (F4 (match o.dst with | some u=>u::E5 os | none=>E5 os))) fr
   unfold G5
   cases o.dst with
   | none=>rfl
   | some u=>exact (a4n u (E5 os) undef (O1 (F4 (E5 os))) fr).symm
theorem d3U {a b:Option (Nat×Bool)} (h:b0Y a b=true):a=b:=by
 cases a with
 | none=>cases b with
   | none=>rfl
   | some b=>cases h
 | some a=>cases b with
   | none=>cases h
   | some b=>
     obtain ⟨a1,a2⟩:=a
     obtain ⟨b1,b2⟩:=b
     have h:(Nat.beq a1 b1 && (a2 == b2))=true:=h
     simp only [Bool.and_eq_true,beq_iff_eq] at h
     rw [Nat.eq_of_beq_eq_true h.1,h.2]
theorem b9K (os:List Oper):(a1L os).flatMap (·.2)=os∧∀ g∈a1L os, ∀ o∈g.2,o.guard=g.1:=by
 induction os with
 | nil=>exact ⟨rfl,fun g hg=>by cases hg⟩
 | cons o os ih=>
   have e:a1L (o::os)=(match a1L os with
    | []=>[(o.guard, [o])]
    | g::gs=>match b0Y o.guard g.1 with
      | true=>(g.1,o::g.2)::gs
      | false=>(o.guard, [o])::g::gs):=rfl
   rw [e]
   cases hg:a1L os with
   | nil=>
     rw [hg] at ih
     refine ⟨by rw [← ih.1]; rfl,fun g h x hx=>?_⟩
     simp at h; subst h; simp at hx; subst hx; rfl
   | cons g gs=>
     rw [hg] at ih
     simp only
     cases hs:b0Y o.guard g.1 with
     | true=>
       refine ⟨by rw [← ih.1]; rfl,fun g' h x hx=>?_⟩
       simp only [List.mem_cons] at h
       rcases h with rfl | h
       · simp only [List.mem_cons] at hx
         rcases hx with rfl | hx
         · exact d3U hs
         · exact ih.2 g List.mem_cons_self x hx
       · exact ih.2 g' (List.mem_cons_of_mem _ h) x hx
     | false=>
       refine ⟨by rw [← ih.1]; rfl,fun g' h x hx=>?_⟩
       simp only [List.mem_cons] at h
       rcases h with rfl | rfl | h
       · simp at hx; subst hx; rfl
       · exact ih.2 _ List.mem_cons_self x hx
       · exact ih.2 g' (List.mem_cons_of_mem _ h) x hx
theorem d3o {β:Type} (ops:List Oper):∀ (gs:List (Option (Nat×Bool)×List Oper)),(∀ g∈gs, ∀ o∈g.2,o.guard=g.1)→∀ (fr:List Value) (k k':Xc→List Value→M β),(∀ x fr,Le (k x fr) (k' x fr)) →
 Le (a5X p T D8 pn call ops gs fr k) (M.bind (Y0 p T call ops (gs.flatMap (·.2)) fr) fun r=>k' r.1 r.2):=by
 intro gs
 induction gs with
 | nil=>intro _ fr k k' hk; exact hk _ _
 | cons g gs ih=>
   intro hg fr k k' hk
   obtain ⟨gd,l⟩:=g
   have hl:=hg _ List.mem_cons_self
   have ih':=fun fr=>ih (fun g h=>hg g (List.mem_cons_of_mem _ h)) fr k k' hk
   show Le (match gd with
    | none=>a2O p T D8 pn call l fr fun ex fr'=>l7 ex (a5X p T D8 pn call ops gs fr' k) (fun _=>M.fail) M.fail fun v=>k (.pan v) fr'
    | some jb=>M.obind (V7 ops jb.1) fun t=>M.guard (!(a0j t (E5 l))) <|
      D8.bj β (l8 (o7 jb.2 (d9 fr t)) (a2O p T D8 pn call l fr fun ex fr'=>M.pure (ex,J9 fr' (E5 l))) (M.pure (.normal,O1 (F4 (E5 l)))))
       fun ex vs=>l7 ex (a5X p T D8 pn call ops gs (I6 (E5 l) vs fr) k) (fun _=>M.fail) M.fail fun v=>l8 pn (k (.pan v) (I6 (E5 l) vs fr)) M.fail)
    (M.bind (Y0 p T call ops (l ++ gs.flatMap (·.2)) fr) fun r=>k' r.1 r.2)
   rw [b8V,N8]
   cases gd with
   | none=>
     refine Le.trans (b9X ops none (fun fr o h _=>d1O h) l hl (fun jb e=>by cases e) fr (fun jb e=>by cases e) _ (fun x fr'=>l7 x (M.bind (Y0 p T call ops (gs.flatMap (·.2)) fr') fun r=>k' r.1 r.2) (fun _=>M.fail) M.fail fun v=>k' (.pan v) fr') (fun x fr'=>?_)) ?_
     · exact a0D (fun _=>ih' fr') (fun _ _=>Le.fail _) (fun _=>Le.fail _) (fun v _=>hk _ _)
     · refine Le.bind (Le.refl _) fun r=>?_
       rw [a1x]
       exact a0D (fun _=>Le.refl _) (fun _ _=>Le.fail _) (fun _=>Le.fail _) (fun v _=>Le.refl _)
   | some jb=>
     dsimp only
     cases ht:V7 ops jb.1 with
     | none=>exact Le.fail _
     | some t=>
       refine Le.guard fun hm=>?_
       have hm':t ∉ E5 l:=fun q=>by rw [(a1c _ _).2 q] at hm; cases hm
       show Le (M.bind (l8 (o7 jb.2 (d9 fr t)) (a2O p T D8 pn call l fr fun ex fr'=>M.pure (ex,J9 fr' (E5 l))) (M.pure (.normal,O1 (F4 (E5 l)))))
        fun r=>l7 r.1 (a5X p T D8 pn call ops gs (I6 (E5 l) r.2 fr) k) (fun _=>M.fail) M.fail fun v=>l8 pn (k (.pan v) (I6 (E5 l) r.2 fr)) M.fail) _
       cases hb:o7 jb.2 (d9 fr t) with
       | false=>
         rw [d2G ops jb t ht l hl hm' fr hb]
         exact ih' (I6 (E5 l) (O1 (F4 (E5 l))) fr)
       | true=>
         intro s r e
         obtain ⟨x,s1,e1,e2⟩:=w9 (s2:=r.2) (b:=r.1) e
         have h1:=b9X (β:=Xc×List Value) ops (some jb) (fun fr o h hq=>by rw [b0u h ht]; exact hq jb rfl t ht) l hl (fun jb' e=>by cases e; exact ⟨t,ht,hm'⟩) fr (fun jb' e t' ht'=>by cases e; rw [ht] at ht'; cases ht'; exact hb)
          (fun ex fr'=>M.pure (ex,J9 fr' (E5 l))) (fun ex fr'=>M.pure (ex,J9 fr' (E5 l))) (fun _ _=>Le.refl _) s _ e1
         obtain ⟨y,s2,f1,f2⟩:=w9 h1
         obtain ⟨rfl,rfl⟩:=o9 f2
         obtain ⟨g1,g2⟩:=a5x ops l fr s _ y f1
         refine M5 f1 ?_
         simp only [] at e2
         rw [R4 g1 g2] at e2
         rw [a1x]
         refine a0D (fun _=>ih' _) (fun _ _=>Le.fail _) (fun _=>Le.fail _) (fun v _=>a0N (hk _ _)) _ _ e2
end
end Go.V
end
