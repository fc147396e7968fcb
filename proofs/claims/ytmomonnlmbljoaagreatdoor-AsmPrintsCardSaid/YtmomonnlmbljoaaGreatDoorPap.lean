import Derived.RangeFuncKeeps
import Derived.Test.YtmomonnlmbljoaaGreatDoorPak
import Derived.Test.YtmomonnlmbljoaaGreatDoorPao
section
noncomputable section
namespace Go.V
theorem U0 {β:Type} (m:M Value) (k:Value→M β):H8.bv β m k=M.bind m k:=Eq.trans rfl rfl
theorem U6 {β:Type} (m:M CR) (kn kp:Value→M β):H8.bc β m kn kp=M.bind m fun r=>a3L r kn kp:=Eq.trans rfl rfl
theorem V5 {β:Type} (m:M (Xc×List Value)) (k:Xc→List Value→M β):H8.bj β m k=M.bind m fun r=>k r.1 r.2:=Eq.trans rfl rfl
theorem a1P (b:List Value→M (Xc×List Value)) (n:Nat) (x:List Value):H8.lp b n x=a2S b n x:=Eq.trans rfl rfl
theorem d1h {β:Type} (v:Value) (kn kp:Value→M β):a3L (.ret v) kn kp=kn v:=Eq.trans rfl rfl
theorem K6 {β:Type} (a:M β) (b:Nat→M β) (c:M β) (d:Value→M β):O4 .normal a b c d=a:=Eq.trans rfl rfl
theorem a2N {β:Type} (i:Nat) (a:M β) (b:Nat→M β) (c:M β) (d:Value→M β):O4 (.exit i) a b c d=b i:=Eq.trans rfl rfl
theorem a5Y {β:Type} (a:M β) (b:Nat→M β) (c:M β) (d:Value→M β):O4 .ret a b c d=c:=Eq.trans rfl rfl
theorem J3 {α:Type} (x y:α):bcase true x y=x:=Eq.trans rfl rfl
theorem J2 {α:Type} (x y:α):bcase false x y=y:=Eq.trans rfl rfl
theorem a4w (b:Bool):Q5 true (.bool b)=b:=by cases b <;> rfl
theorem a1X (b:Bool):Q5 false (.bool b)=!b:=by cases b <;> rfl
theorem M6 {β:Type} (b:Bool) (x y:M β):K5 (.bool b) x y=bcase b x y:=Eq.trans rfl rfl
theorem a2M {α:Type} (b:Bool) (x y:α):bcase b (M.pure x) (M.pure y)=M.pure (bcase b x y):=by cases b <;> rfl
theorem a3P (b:Bool) (x:Xc) (l m:List Value):bcase b (x,l) (x,m)=(x,bcase b l m):=by cases b <;> rfl
theorem a3O (b:Bool) (l m:List Value) (i:Nat):j4 (bcase b l m) i=bcase b (j4 l i) (j4 m i):=by cases b <;> rfl
theorem a5y {α:Type} (b:Bool) (x y:α):bcase (!b) x y=bcase b y x:=by cases b <;> rfl
theorem a5r (b c:Bool):W9 (.bool b) (bcase b (.bool c) undef) (.bool false)=M.pure (.bool (b && c)):=by cases b <;> rfl
theorem c0B (b c:Bool):W9 (.bool b) (.bool true) (bcase b undef (.bool c))=M.pure (.bool (b || c)):=by cases b <;> rfl
theorem X4 (v:Value) (l:List Value):j4 (v::l) 0=v:=Eq.trans rfl rfl
theorem Y3 (v:Value) (l:List Value) (i:Nat):j4 (v::l) (i+1)=j4 l i:=Eq.trans rfl rfl
section
variable (p:Program) (T:Tab)
theorem a6L {op:BinOp} {t:TypeId} {x y:Operand} {k:IntKind} {n m:Int} {v:Value} (h1:a6H (a5Z op k) n m=none) (h:b2p op k n m=some v):a4c p T op t x y (.int k n) (.int k m)=M.pure v:=by
 have hk:a2G k k=true:=by cases k <;> rfl
 have:a5a op k k n m=some v:=by
  unfold a5a; rw [h1]; simp only [hk,h]
 unfold a4c; simp only [this]
theorem a6v {op:BinOp} (h:op≠.shl) (h':op≠.shr) (k:IntKind) (n m:Int):a6H (a5Z op k) n m=none:=by
 unfold a6H
 cases n with
 | ofNat n=>cases m with
   | ofNat m=>cases op <;> first | rfl | exact absurd rfl h | exact absurd rfl h'
   | negSucc m=>rfl
 | negSucc n=>rfl
theorem a0t (t:TypeId) (x y:Operand) (k:IntKind) (n m:Int):a4c p T .lss t x y (.int k n) (.int k m)=M.pure (.bool (decide (n<m))):=a6L p T (a6v (by decide) (by decide) _ _ _) rfl
theorem a7R (t:TypeId) (x y:Operand) (k:IntKind) (n m:Int):a4c p T .leq t x y (.int k n) (.int k m)=M.pure (.bool (decide (n≤m))):=a6L p T (a6v (by decide) (by decide) _ _ _) rfl
theorem a3s (t:TypeId) (x y:Operand) (k:IntKind) (n m:Int):a4c p T .gtr t x y (.int k n) (.int k m)=M.pure (.bool (decide (m<n))):=a6L p T (a6v (by decide) (by decide) _ _ _) rfl
theorem a6x (t:TypeId) (x y:Operand) (k:IntKind) (n m:Int):a4c p T .geq t x y (.int k n) (.int k m)=M.pure (.bool (decide (m≤n))):=a6L p T (a6v (by decide) (by decide) _ _ _) rfl
theorem P8 (t:TypeId) (x y:Operand) (k:IntKind) (n m:Int):a4c p T .eql t x y (.int k n) (.int k m)=M.pure (.bool (decide (n=m))):=a6L p T (a6v (by decide) (by decide) _ _ _) rfl
theorem a0v (t:TypeId) (x y:Operand) (k:IntKind) (n m:Int):a4c p T .neq t x y (.int k n) (.int k m)=M.pure (.bool (!(decide (n=m)))):=a6L p T (a6v (by decide) (by decide) _ _ _) rfl
theorem a0G (t:TypeId) (x y:Operand) (k:IntKind) (n m:Int):a4c p T .add t x y (.int k n) (.int k m)=M.pure (.int k (a0H k (n+m))):=a6L p T (a6v (by decide) (by decide) _ _ _) rfl
theorem a5F (t:TypeId) (x y:Operand) (k:IntKind) (n m:Int):a4c p T .sub t x y (.int k n) (.int k m)=M.pure (.int k (a0H k (n - m))):=a6L p T (a6v (by decide) (by decide) _ _ _) rfl
theorem R7 (b:Bool):xUn p .not (.bool b)=M.pure (.bool (!b)):=by cases b <;> rfl
end
end Go.V
end
section
noncomputable section
namespace Go.V
def ar0 (f:o8→M CR):o8→List Value→M CR:=fun call args=>match args with
 | []=>f call
 | _=>M.fail
def ar1 (f:o8→Value→M CR):o8→List Value→M CR:=fun call args=>match args with
 | [a]=>f call a
 | _=>M.fail
def ar2 (f:o8→Value→Value→M CR):o8→List Value→M CR:=fun call args=>match args with
 | [a,b]=>f call a b
 | _=>M.fail
def ar3 (f:o8→Value→Value→Value→M CR):o8→List Value→M CR:=fun call args=>match args with
 | [a,b,c]=>f call a b c
 | _=>M.fail
def arX (g:List Value→M Value):o8→List Value→M CR:=fun _ args=>M.bind (g args) fun v=>M.pure (.ret v)
section
variable {P:Program} {T:Tab} {ext:Nat→Option (List Value→M Value)} {N f:Nat} {fn:Func} {c:Code} {pn:Bool} {pl:Pl}
def Fit (P:Program) (T:Tab) (ext:Nat→Option (List Value→M Value)) (N f:Nat) (g:o8→List Value→M CR):Prop:=∀ call args,Le (g call args) (atF P T ext N f call args)
theorem b2n {sh:Cb→Nat→o8→M CR} (he:ext f=none) (hf:T.funcs.get f=some fn) (hb:fn.body=some c) (h:∀ cb N call,Y9 P T cb pn N call fn c pl []=sh cb N call):Fit P T ext N f (ar0 (sh X0 N)):=by
 intro call args
 unfold ar0
 split
 · exact b3N he hf hb pn pl (h X0 N call)
 · exact Le.fail _
theorem a1S {sh:Cb→Nat→o8→Value→M CR} (he:ext f=none) (hf:T.funcs.get f=some fn) (hb:fn.body=some c) (h:∀ cb N call a,Y9 P T cb pn N call fn c pl [a]=sh cb N call a):Fit P T ext N f (ar1 (sh X0 N)):=by
 intro call args
 unfold ar1
 split
 · exact b3N he hf hb pn pl (h X0 N call _)
 · exact Le.fail _
theorem a8I {sh:Cb→Nat→o8→Value→Value→M CR} (he:ext f=none) (hf:T.funcs.get f=some fn) (hb:fn.body=some c) (h:∀ cb N call a b,Y9 P T cb pn N call fn c pl [a,b]=sh cb N call a b):Fit P T ext N f (ar2 (sh X0 N)):=by
 intro call args
 unfold ar2
 split
 · exact b3N he hf hb pn pl (h X0 N call _ _)
 · exact Le.fail _
theorem d9Q {sh:Cb→Nat→o8→Value→Value→Value→M CR} (he:ext f=none) (hf:T.funcs.get f=some fn) (hb:fn.body=some c) (h:∀ cb N call a b d,Y9 P T cb pn N call fn c pl [a,b,d]=sh cb N call a b d):Fit P T ext N f (ar3 (sh X0 N)):=by
 intro call args
 unfold ar3
 split
 · exact b3N he hf hb pn pl (h X0 N call _ _ _)
 · exact Le.fail _
theorem a9r {g:List Value→M Value} (he:ext f=some g):Fit P T ext N f (arX g):=fun _ _=>c9t he
inductive OAll (Q:(o8→List Value→M CR)→Prop):Option (o8→List Value→M CR)→Prop
 | none:OAll Q Option.none
 | some {g:o8→List Value→M CR}:Q g→OAll Q (Option.some g)
inductive TAll:(Nat→(o8→List Value→M CR)→Prop)→a1N→Prop
 | leaf {Q:Nat→(o8→List Value→M CR)→Prop}:TAll Q .leaf
 | node {Q:Nat→(o8→List Value→M CR)→Prop} {v:Option (o8→List Value→M CR)} {l r:a1N}:OAll (Q 0) v→TAll (fun k=>Q (2 * k+1)) l→TAll (fun k=>Q (2 * k+2)) r→TAll Q (.node v l r)
theorem TAll.get {Q:Nat→(o8→List Value→M CR)→Prop} {t:a1N} (h:TAll Q t):∀ f g,t.get f=some g→Q f g:=by
 induction h with
 | leaf=>intro f g e; cases e
 | node hv _ _ ihl ihr=>
   intro f g e
   cases f with
   | zero=>cases hv with
     | none=>cases e
     | some q=>cases e; exact q
   | succ k=>
     rw [Trie.get_node_succ] at e
     split at e
     · rename_i hk
       have:_:=ihl _ _ e
       simp only [] at this
       rw [show 2 * (k / 2)+1=k+1 by omega] at this
       exact this
     · rename_i hk
       have:_:=ihr _ _ e
       simp only [] at this
       rw [show 2 * (k / 2)+2=k+1 by omega] at this
       exact this
theorem c9a {sh:a1N} (h:TAll (Fit P T ext N) sh):a7I P T ext N sh:=fun f g e=>h.get f g e
end
end Go.V
end
section
namespace Go.V
open Go.RowKit (Below)
section
variable {P:Program} {T:Tab} {w:World} {vs:a3J}
theorem a9K (hT:TabOk P T) (hM:P.follows .mixedOrders=true) (hng:T.ng≤vs.length) (hp:∀ l∈vs, ∀ v∈l,plain v=true)
 {ext:Nat→Option (List Value→M Value)} (hE:a4C P T vs ext) {N:Nat} {sh:a1N} (hs:a7I P T ext N sh) {n f:Nat} {fn:Func} {c:Code} {args:List Value} {v:Value} {s':S}
 (hPf:P.funcs[f]?=some fn) (hnum:(fn.name == "runtime.NumGoroutine")=false) (hb:fn.body=some c)
 (ha:a0o (a0e 8) args=true) (hv:a0e 8 v=true) (h:K4 sh n f args (a4P vs)=some (.ret v,s')):a6Z P vs f args v:=by
 intro w hL
 have hE':=hE w.heap.size ⟨w,fun _=>True⟩ hL hL.size
 refine ⟨a1J hPf hnum hb, ?_⟩
 rcases a9m hT hM hE' hs n f args (a4P vs) (.ret v) s' w (a6F vs) args h (a9u (fun _ _=>trivial) (fun _ _=>trivial) hL hp) (b1a hng) (fun i hi _=>by
  rw [a3r]
  have:vs.length≤i:=by have:=hi; unfold a4P at this; rw [Z5] at this; exact this
  rw [List.getElem?_eq_none this]) (b1C ha) with ⟨v1,v',w',K',_,q1,_⟩ | ⟨_,q⟩
 · rw [a1J hPf hnum hb] at q1; cases q1
 · refine q.mono fun e w' hq=>?_
   obtain ⟨v',K',e1,st,r⟩:=hq
   rw [e1,r.eq_of_noAddr 8 hv]
   exact ⟨rfl,st.sim.below⟩
end
end Go.V
end
section
namespace Go.V
open Go.RowKit (Below)
inductive VRen (c:Nat→Prop) (m:Nat→Option (Nat×Nat)):Value→Value→Prop
 | plain {v:Value}:plain v=true→VRen c m v v
 | ptrOld {b off:Nat} {g:Option Nat}:c b→VRen c m (.pointer (some ⟨b,off,g⟩)) (.pointer (some ⟨b,off,g⟩))
 | ptrNew {b b2 g2 off:Nat}:m b=some (b2,g2)→VRen c m (.pointer (some ⟨b,off,some 0⟩)) (.pointer (some ⟨b2,off,some g2⟩))
 | sliceOld {b off n e:Nat} {g:Option Nat}:c b→VRen c m (.slice (some ⟨b,off,g⟩) n e) (.slice (some ⟨b,off,g⟩) n e)
 | sliceNew {b b2 g2 off n e:Nat}:m b=some (b2,g2)→VRen c m (.slice (some ⟨b,off,some 0⟩) n e) (.slice (some ⟨b2,off,some g2⟩) n e)
 | mapOld {b:Nat}:c b→VRen c m (.map (some b)) (.map (some b))
 | agg {cs ds:Array Value}:cs.toList.length=ds.toList.length→(∀ (i:Nat) (v w:Value),cs.toList[i]?=some v→ds.toList[i]?=some w→VRen c m v w)→VRen c m (.agg cs) (.agg ds)
 | tuple {cs ds:Array Value}:cs.toList.length=ds.toList.length→(∀ (i:Nat) (v w:Value),cs.toList[i]?=some v→ds.toList[i]?=some w→VRen c m v w)→VRen c m (.tuple cs) (.tuple ds)
 | func {fn:Fn} {cs ds es fs:Array Value}:cs.toList.length=ds.toList.length→(∀ (i:Nat) (v w:Value),cs.toList[i]?=some v→ds.toList[i]?=some w→VRen c m v w) →
  es.toList.length=fs.toList.length→(∀ (i:Nat) (v w:Value),es.toList[i]?=some v→fs.toList[i]?=some w→VRen c m v w)→VRen c m (.func fn cs es) (.func fn ds fs)
 | iface {t:TypeId} {v w:Value}:VRen c m v w→VRen c m (.iface t v) (.iface t w)
open Classical in
noncomputable def KR (c:Nat→Prop) (m:Nat→Option (Nat×Nat)) (K:KM):KM:=fun b g=>if c b then K b g else match m b with
 | some x=>if g=0 then K x.1 x.2 else none
 | none=>none
theorem a6h {c:Nat→Prop} {m:Nat→Option (Nat×Nat)} {K:KM} {b:Nat} (h:c b) (g:Nat):KR c m K b g=K b g:=by unfold KR; rw [if_pos h]
theorem b7J {c:Nat→Prop} {m:Nat→Option (Nat×Nat)} {K:KM} {b b2 g2:Nat} (h:¬ c b) (hm:m b=some (b2,g2)):KR c m K b 0=K b2 g2:=by unfold KR; rw [if_neg h,hm]; rfl
theorem b1p {c:Nat→Prop} {m:Nat→Option (Nat×Nat)} {K:KM} {b g:Nat} {l:Loc} (h:KR c m K b g=some l):(c b∧K b g=some l)∨(¬ c b∧g=0∧∃ b2 g2,m b=some (b2,g2)∧K b2 g2=some l):=by
 unfold KR at h
 by_cases hb:c b
 · rw [if_pos hb] at h; exact Or.inl ⟨hb,h⟩
 · rw [if_neg hb] at h
   cases hm:m b with
   | none=>rw [hm] at h; cases h
   | some x=>
     rw [hm] at h
     simp only at h
     by_cases hg:g=0
     · rw [if_pos hg] at h; exact Or.inr ⟨hb,hg,x.1,x.2,rfl,h⟩
     · rw [if_neg hg] at h; cases h
section
variable {c:Nat→Prop} {m:Nat→Option (Nat×Nat)} {K:KM} (hn:∀ b x,m b=some x→¬ c b)
include hn
theorem VR.ren {v1 v2:Value} (r:VRen c m v1 v2):∀ {v':Value},VR K v' v2→VR (KR c m K) v' v1:=by
 induction r with
 | plain hp=>intro v' q; rw [q.eq_of_plain hp]; exact .plain hp
 | @ptrOld b off g hb=>
   intro v' q
   generalize hz:Value.pointer (some ⟨b,off,g⟩)=z at q
   cases q with
   | plain hp=>subst hz; simp [V.plain] at hp
   | ptr hk hl=>cases hz; exact .ptr (by rw [a6h hb]; exact hk) hl
   | _=>cases hz
 | @ptrNew b b2 g2 off hm=>
   intro v' q
   generalize hz:Value.pointer (some ⟨b2,off,some g2⟩)=z at q
   cases q with
   | plain hp=>subst hz; simp [V.plain] at hp
   | ptr hk hl=>cases hz; exact .ptr (by rw [b7J (hn _ _ hm) hm]; exact hk) hl
   | _=>cases hz
 | @sliceOld b off n e g hb=>
   intro v' q
   generalize hz:Value.slice (some ⟨b,off,g⟩) n e=z at q
   cases q with
   | plain hp=>subst hz; simp [V.plain] at hp
   | slice hk h1 h2 h3 h4 h5=>cases hz; exact .slice (by rw [a6h hb]; exact hk) h1 h2 h3 h4 h5
   | _=>cases hz
 | @sliceNew b b2 g2 off n e hm=>
   intro v' q
   generalize hz:Value.slice (some ⟨b2,off,some g2⟩) n e=z at q
   cases q with
   | plain hp=>subst hz; simp [V.plain] at hp
   | slice hk h1 h2 h3 h4 h5=>cases hz; exact .slice (by rw [b7J (hn _ _ hm) hm]; exact hk) h1 h2 h3 h4 h5
   | _=>cases hz
 | @mapOld b hb=>
   intro v' q
   generalize hz:Value.map (some b)=z at q
   cases q with
   | plain hp=>subst hz; simp [V.plain] at hp
   | map hk=>cases hz; exact .map (by rw [a6h hb]; exact hk)
   | _=>cases hz
 | @agg cs ds hl _ ih=>
   intro v' q
   generalize hz:Value.agg ds=z at q
   cases q with
   | plain hp=>subst hz; simp [V.plain] at hp
   | agg h1 h2=>
     cases hz
     refine .agg (h1.trans hl.symm) fun i a b ha hb=>?_
     have hi:i<ds.toList.length:=by rw [← hl]; exact (List.getElem?_eq_some_iff.1 hb).1
     exact ih i b _ hb (List.getElem?_eq_getElem hi) (h2 i a _ ha (List.getElem?_eq_getElem hi))
   | _=>cases hz
 | @tuple cs ds hl _ ih=>
   intro v' q
   generalize hz:Value.tuple ds=z at q
   cases q with
   | plain hp=>subst hz; simp [V.plain] at hp
   | tuple h1 h2=>
     cases hz
     refine .tuple (h1.trans hl.symm) fun i a b ha hb=>?_
     have hi:i<ds.toList.length:=by rw [← hl]; exact (List.getElem?_eq_some_iff.1 hb).1
     exact ih i b _ hb (List.getElem?_eq_getElem hi) (h2 i a _ ha (List.getElem?_eq_getElem hi))
   | _=>cases hz
 | @func fn cs ds es fs hl _ hl' _ ih ih'=>
   intro v' q
   generalize hz:Value.func fn ds fs=z at q
   cases q with
   | plain hp=>subst hz; simp [V.plain] at hp
   | func h1 h2 h3 h4=>
     cases hz
     refine .func (h1.trans hl.symm) (fun i a b ha hb=>?_) (h3.trans hl'.symm) fun i a b ha hb=>?_
     · have hi:i<ds.toList.length:=by rw [← hl]; exact (List.getElem?_eq_some_iff.1 hb).1
       exact ih i b _ hb (List.getElem?_eq_getElem hi) (h2 i a _ ha (List.getElem?_eq_getElem hi))
     · have hi:i<fs.toList.length:=by rw [← hl']; exact (List.getElem?_eq_some_iff.1 hb).1
       exact ih' i b _ hb (List.getElem?_eq_getElem hi) (h4 i a _ ha (List.getElem?_eq_getElem hi))
   | _=>cases hz
 | iface _ ih=>
   intro v' q
   rename_i t v w _
   generalize hz:Value.iface t w=z at q
   cases q with
   | plain hp=>subst hz; simp [V.plain] at hp
   | iface h=>cases hz; exact .iface (ih h)
   | _=>cases hz
end
inductive ORen (c:Nat→Prop) (m:Nat→Option (Nat×Nat)):Option VObj→Option VObj→Prop
 | none:ORen c m none none
 | cells {cs ds:List (Value×Nat)} {cur:Nat} {ro:Bool}:cs.length=ds.length→(∀ (i:Nat) v w st st',cs[i]?=some (v,st)→ds[i]?=some (w,st')→st=st'∧VRen c m v w)→ORen c m (some (.cells cs cur ro)) (some (.cells ds cur ro))
 | map {es fs:List (Value×Value)}:es.length=fs.length→(∀ (i:Nat) (e f:Value×Value),es[i]?=some e→fs[i]?=some f→e.1=f.1∧VRen c m e.2 f.2)→ORen c m (some (.map es)) (some (.map fs))
 | siter {s:ByteArray} {pos:Nat}:ORen c m (some (.siter s pos)) (some (.siter s pos))
structure View (c:Nat→Prop) (m:Nat→Option (Nat×Nat)) (h0 h1 h2:Trie VObj):Prop where
 old:∀ i,c i→ORen c m (h1.get i) (h2.get i)∨(h1.get i=h0.get i∧h2.get i=h0.get i)
 new:∀ b b2 g2,m b=some (b2,g2)→¬ c b∧¬ c b2∧∃ cs ds,h1.get b=some (.cells cs 0 false)∧h2.get b2=some (.cells ds g2 false)∧cs.length=ds.length ∧
  ∀ (i:Nat) v w st st',cs[i]?=some (v,st)→ds[i]?=some (w,st')→st=0∧VRen c m v w
 dom:∀ b, ¬ c b→m b=none→h1.get b=none
 inj:∀ b b' x x',m b=some x→m b'=some x'→x.1=x'.1→b=b'
theorem c3L {B0:Nat} {w0:Base} {K K2:KM} {h h2:Trie VObj} {w w':World} (S:Sim B0 w0 K h w) (S2:Sim B0 w0 K2 h2 w') (hle:K.le K2) {i:Nat} (e:h2.get i=h.get i) (g:Nat):K2 i g=K i g:=by
 cases q:K2 i g with
 | none=>
   cases q1:K i g with
   | none=>rfl
   | some l=>rw [hle _ _ _ q1] at q; cases q
 | some l=>
   have key:∀ l',K i g=some l'→some l=K i g:=fun l' h'=>by rw [h', ← q,hle _ _ _ h']
   obtain ⟨o,ho⟩:=S2.dom2 i g l q
   have ho':h.get i=some o:=by rw [← e]; exact ho
   cases o with
   | cells cs cur ro=>
     obtain ⟨l',hl'⟩:=(S.gens i cs cur ro ho').2.1 g ((S2.gens i cs cur ro ho).1 g l q).1
     exact key l' hl'
   | map es=>
     obtain rfl:=S2.gen0 i g l q fun cs cur ro h=>by rw [ho] at h; cases h
     obtain ⟨l',_,_,hl',_⟩:=S.map i es ho'
     exact key l' hl'
   | siter x pos=>
     obtain rfl:=S2.gen0 i g l q fun cs cur ro h=>by rw [ho] at h; cases h
     obtain ⟨l',hl',_⟩:=S.siter i x pos ho'
     exact key l' hl'
theorem b5m {c:Nat→Prop} {m:Nat→Option (Nat×Nat)} {K:KM} (hK:∀ b g l,K b g=some l→c b) {v' v:Value} (r:VR K v' v):VRen c m v v:=by
 induction r with
 | plain h=>exact .plain h
 | ptr hk _=>exact .ptrOld (hK _ _ _ hk)
 | slice hk _ _ _ _ _=>exact .sliceOld (hK _ _ _ hk)
 | map hk=>exact .mapOld (hK _ _ _ hk)
 | agg hl _ ih=>
   refine .agg rfl fun i v w h h'=>?_
   rw [h] at h'; cases h'
   have hi:=(List.getElem?_eq_some_iff.1 h).1
   exact ih i _ v (List.getElem?_eq_getElem (by rw [hl]; exact hi)) h
 | tuple hl _ ih=>
   refine .tuple rfl fun i v w h h'=>?_
   rw [h] at h'; cases h'
   have hi:=(List.getElem?_eq_some_iff.1 h).1
   exact ih i _ v (List.getElem?_eq_getElem (by rw [hl]; exact hi)) h
 | func hl _ hl' _ ih ih'=>
   refine .func rfl (fun i v w h h'=>?_) rfl fun i v w h h'=>?_
   · rw [h] at h'; cases h'
     have hi:=(List.getElem?_eq_some_iff.1 h).1
     exact ih i _ v (List.getElem?_eq_getElem (by rw [hl]; exact hi)) h
   · rw [h] at h'; cases h'
     have hi:=(List.getElem?_eq_some_iff.1 h).1
     exact ih' i _ v (List.getElem?_eq_getElem (by rw [hl']; exact hi)) h
 | iface _ ih=>exact .iface ih
theorem d1z {c:Nat→Prop} {m:Nat→Option (Nat×Nat)} {h0 h1 h2:Trie VObj} {B0:Nat} {w0:Base} {K0 K:KM} {wS w:World} (V:View c m h0 h1 h2) (S0:Sim B0 w0 K0 h0 wS) (hle:K0.le K) (hO:∀ b o,h0.get b=some o→c b) (S:Sim B0 w0 K h2 w):Sim B0 w0 (KR c m K) h1 w:=by
 have hn:∀ b x,m b=some x→¬ c b:=fun b x e=>(V.new b x.1 x.2 e).1
 have hK0:∀ b g l,K0 b g=some l→c b:=fun b g l q=>let ⟨o,ho⟩:=S0.dom2 b g l q; hO b o ho
 have src:∀ b g l,KR c m K b g=some l→∃ b2 g2,K b2 g2=some l∧((c b∧b2=b∧g2=g)∨(¬ c b∧g=0∧m b=some (b2,g2))):=by
  intro b g l h
  rcases b1p h with ⟨q1,q2⟩ | ⟨q1,q2,b2,g2,q3,q4⟩
  · exact ⟨b,g,q2,Or.inl ⟨q1,rfl,rfl⟩⟩
  · exact ⟨b2,g2,q4,Or.inr ⟨q1,q2,q3⟩⟩
 have cellsOf:∀ b cs cur ro,h1.get b=some (.cells cs cur ro)→(c b∧∃ ds,h2.get b=some (.cells ds cur ro)∧cs.length=ds.length∧∀ (i:Nat) v u st st',cs[i]?=some (v,st)→ds[i]?=some (u,st')→st=st'∧(VRen c m v u∨(v=u∧h0.get b=some (.cells cs cur ro)∧h2.get b=h0.get b))) ∨
  (¬ c b∧cur=0∧ro=false∧∃ b2 g2 ds,m b=some (b2,g2)∧h2.get b2=some (.cells ds g2 false)∧cs.length=ds.length∧∀ (i:Nat) v u st st',cs[i]?=some (v,st)→ds[i]?=some (u,st')→st=0∧VRen c m v u):=by
  intro b cs cur ro h
  by_cases hb:c b
  · rcases V.old b hb with this | ⟨z1,z2⟩
    · rw [h] at this
      generalize hz:h2.get b=z at this
      cases this with
      | cells q1 q2=>exact Or.inl ⟨hb,_,hz ▸ rfl,q1,fun i v u st st' a1 a2=>⟨(q2 i v u st st' a1 a2).1,Or.inl (q2 i v u st st' a1 a2).2⟩⟩
    · rw [z1] at h
      exact Or.inl ⟨hb,cs,by rw [z2]; exact h,rfl,fun i v u st st' a1 a2=>by rw [a1] at a2; cases a2; exact ⟨rfl,Or.inr ⟨rfl,h,z2⟩⟩⟩
  · cases hm:m b with
    | none=>rw [V.dom b hb hm] at h; cases h
    | some x=>
      obtain ⟨_,_,cs',ds,e1,e2,e3,e4⟩:=V.new b x.1 x.2 hm
      rw [e1] at h
      cases h
      exact Or.inr ⟨hb,rfl,rfl,x.1,x.2,ds,rfl,e2,e3,e4⟩
 refine ⟨S.size0,S.below, ?_, ?_, ?_, ?_, ?_, ?_, ?_, ?_, ?_, ?_,fun b g l h hnc=>?_⟩
 · intro b g l h
   obtain ⟨b2,g2,q,_⟩:=src b g l h
   exact S.dom' b2 g2 l q
 · intro b g l h
   obtain ⟨b2,g2,q,hor⟩:=src b g l h
   rcases hor with ⟨hb,rfl,rfl⟩ | ⟨hb,_,hm⟩
   · obtain ⟨o,ho⟩:=S.dom2 b2 g2 l q
     rcases V.old b2 hb with this | ⟨z1,z2⟩
     · rw [ho] at this
       generalize hz:h1.get b2=z at this
       cases this <;> exact ⟨_,rfl⟩
     · exact ⟨o,by rw [z1, ← z2]; exact ho⟩
   · obtain ⟨_,_,cs,ds,e1,_⟩:=V.new b b2 g2 hm
     exact ⟨_,e1⟩
 · intro b g l h ho
   obtain ⟨b2,g2,q,_⟩:=src b g l h
   exact S.own b2 g2 l q ho
 · intro b g l b' g' l' h h' hne ho
   obtain ⟨b2,g2,q,hor⟩:=src b g l h
   obtain ⟨b3,g3,q',hor'⟩:=src b' g' l' h'
   refine S.apart b2 g2 l b3 g3 l' q q' ?_ ho
   rcases hor with ⟨hb,rfl,rfl⟩ | ⟨hb,_,hm⟩ <;> rcases hor' with ⟨hb',rfl,rfl⟩ | ⟨hb',_,hm'⟩
   · exact hne
   · exact fun e=>(V.new _ _ _ hm').2.1 (e ▸ hb)
   · exact fun e=>(V.new _ _ _ hm).2.1 (e ▸ hb')
   · exact fun e=>hne (V.inj _ _ _ _ hm hm' e)
 · intro b g l g' l' h h'
   obtain ⟨b2,g2,q,hor⟩:=src b g l h
   obtain ⟨b3,g3,q',hor'⟩:=src b g' l' h'
   have e:b3=b2:=by
    rcases hor with ⟨hb,e1,_⟩ | ⟨hb,_,hm⟩ <;> rcases hor' with ⟨hb',e1',_⟩ | ⟨hb',_,hm'⟩
    · exact e1'.trans e1.symm
    · exact absurd hb hb'
    · exact absurd hb' hb
    · rw [hm] at hm'; cases hm'; rfl
   subst e
   exact S.same b3 g2 l g3 l' q q'
 · intro b g l cs cur ro h ho hc
   obtain ⟨b2,g2,q,hor⟩:=src b g l h
   rcases cellsOf b cs cur ro hc with ⟨hb,ds,e1,_⟩ | ⟨hb,_,_,b3,g3,ds,hm,e1,_⟩
   · rcases hor with ⟨_,rfl,rfl⟩ | ⟨hb',_,_⟩
     · exact S.room b2 g2 l ds cur ro q ho e1
     · exact absurd hb hb'
   · rcases hor with ⟨hb',_,_⟩ | ⟨_,_,hm'⟩
     · exact absurd hb' hb
     · rw [hm] at hm'; cases hm'
       exact S.room b2 g2 l ds g2 false q ho e1
 · intro b cs cur ro hc
   rcases cellsOf b cs cur ro hc with ⟨hb,ds,e1,e2,e3⟩ | ⟨hb,rfl,rfl,b3,g3,ds,hm,e1,e2,e3⟩
   · obtain ⟨q1,q2,q3⟩:=S.gens b ds cur ro e1
     refine ⟨fun g l' h=>?_,fun g hg=>let ⟨l,r⟩:=q2 g hg; ⟨l,by rw [a6h hb]; exact r⟩,fun x hx=>?_⟩
     · rw [a6h hb] at h; exact q1 g l' h
     · obtain ⟨i,hi⟩:=List.mem_iff_getElem?.1 hx
       have hlt:i<ds.length:=by rw [← e2]; exact (List.getElem?_eq_some_iff.1 hi).1
       have:=(e3 i x.1 _ x.2 _ hi (List.getElem?_eq_getElem hlt)).1
       rw [this]
       exact q3 _ (List.getElem_mem hlt)
   · obtain ⟨q1,q2,q3⟩:=S.gens b3 ds g3 false e1
     refine ⟨fun g l' h=>?_,fun g hg=>let ⟨l,r⟩:=q2 g3 (Nat.le_refl _); ⟨l,by rw [Nat.le_zero.1 hg,b7J hb hm]; exact r⟩,fun x hx=>?_⟩
     · rcases b1p h with ⟨hb',_⟩ | ⟨_,rfl,b4,g4,hm',hk⟩
       · exact absurd hb' hb
       · rw [hm] at hm'; cases hm'
         exact ⟨Nat.le_refl _,(q1 _ _ hk).2⟩
     · obtain ⟨i,hi⟩:=List.mem_iff_getElem?.1 hx
       have hlt:i<ds.length:=by rw [← e2]; exact (List.getElem?_eq_some_iff.1 hi).1
       have:=(e3 i x.1 _ x.2 _ hi (List.getElem?_eq_getElem hlt)).1
       omega
 · intro b cs cur ro g l hc hk off v st hv hst hlo
   rcases cellsOf b cs cur ro hc with ⟨hb,ds,e1,e2,e3⟩ | ⟨hb,rfl,rfl,b3,g3,ds,hm,e1,e2,e3⟩
   · rw [a6h hb] at hk
     have hlt:off<ds.length:=by rw [← e2]; exact (List.getElem?_eq_some_iff.1 hv).1
     obtain ⟨f1,f2⟩:=e3 off v _ st _ hv (List.getElem?_eq_getElem hlt)
     obtain ⟨v',r1,r2⟩:=S.cells b ds cur ro g l e1 hk off _ _ (List.getElem?_eq_getElem hlt) (by rw [← f1]; exact hst) hlo
     rcases f2 with f2 | ⟨e,z1,z2⟩
     · exact ⟨v',r1,VR.ren hn f2 r2⟩
     · have hk0:K0 b g=some l:=by rw [← c3L S0 S hle z2 g]; exact hk
       obtain ⟨v0,_,q⟩:=S0.cells b cs cur ro g l z1 hk0 off v st hv hst hlo
       rw [← e] at r2
       exact ⟨v',r1,VR.ren hn (b5m hK0 q) r2⟩
   · rcases b1p hk with ⟨hb',_⟩ | ⟨_,rfl,b4,g4,hm',hk'⟩
     · exact absurd hb' hb
     · rw [hm] at hm'; cases hm'
       have hlt:off<ds.length:=by rw [← e2]; exact (List.getElem?_eq_some_iff.1 hv).1
       obtain ⟨f1,f2⟩:=e3 off v _ st _ hv (List.getElem?_eq_getElem hlt)
       obtain ⟨v',r1,r2⟩:=S.cells b3 ds g3 false g3 l e1 hk' off _ _ (List.getElem?_eq_getElem hlt) ((S.gens b3 ds g3 false e1).2.2 _ (List.getElem_mem hlt)) hlo
       exact ⟨v',r1,VR.ren hn f2 r2⟩
 · intro b es hc
   have hb:c b:=by
    by_cases hb:c b
    · exact hb
    · cases hm:m b with
      | none=>rw [V.dom b hb hm] at hc; cases hc
      | some x=>
        obtain ⟨_,_,cs',ds,e1,_⟩:=V.new b x.1 x.2 hm
        rw [e1] at hc; cases hc
   rcases V.old b hb with this | ⟨z1,z2⟩
   rotate_left
   · rw [z1] at hc
     have hc2:h2.get b=some (.map es):=by rw [z2]; exact hc
     obtain ⟨l,es',clock,r1,r2,r3,r4⟩:=S.map b es hc2
     obtain ⟨_,es0,_,_,_,_,t4⟩:=S0.map b es hc
     refine ⟨l,es',clock,by rw [a6h hb]; exact r1,r2,r3,⟨r4.len,fun i e' e he' he=>?_⟩⟩
     have hlt:i<es0.toList.length:=by rw [t4.len]; exact (List.getElem?_eq_some_iff.1 he).1
     obtain ⟨k1,k2⟩:=r4.key i e' e he' he
     exact ⟨k1,VR.ren hn (b5m hK0 (t4.key i _ e (List.getElem?_eq_getElem hlt) he).2) k2⟩
   rw [hc] at this
   generalize hz:h2.get b=z at this
   cases this with
   | @map _ fs q1 q2=>
     obtain ⟨l,es',clock,r1,r2,r3,r4⟩:=S.map b fs hz
     refine ⟨l,es',clock,by rw [a6h hb]; exact r1,r2,r3,⟨by rw [r4.len,q1],fun i e' e he' he=>?_⟩⟩
     have hlt:i<fs.length:=by rw [← q1]; exact (List.getElem?_eq_some_iff.1 he).1
     obtain ⟨k1,k2⟩:=r4.key i e' _ he' (List.getElem?_eq_getElem hlt)
     obtain ⟨k3,k4⟩:=q2 i e _ he (List.getElem?_eq_getElem hlt)
     exact ⟨k1.trans k3.symm,VR.ren hn k4 k2⟩
 · intro b s pos hc
   have hb:c b:=by
    by_cases hb:c b
    · exact hb
    · cases hm:m b with
      | none=>rw [V.dom b hb hm] at hc; cases hc
      | some x=>
        obtain ⟨_,_,cs',ds,e1,_⟩:=V.new b x.1 x.2 hm
        rw [e1] at hc; cases hc
   rcases V.old b hb with this | ⟨z1,z2⟩
   rotate_left
   · rw [z1, ← z2] at hc
     obtain ⟨l,r1,r2⟩:=S.siter b s pos hc
     exact ⟨l,by rw [a6h hb]; exact r1,r2⟩
   rw [hc] at this
   generalize hz:h2.get b=z at this
   cases this with
   | siter=>
     obtain ⟨l,r1,r2⟩:=S.siter b s pos hz
     exact ⟨l,by rw [a6h hb]; exact r1,r2⟩
 · rcases b1p h with ⟨hb,q⟩ | ⟨_,e,_⟩
   · refine S.gen0 b g l q fun cs cur ro e=>?_
     rcases V.old b hb with this | ⟨z1,z2⟩
     · rw [e] at this
       generalize hz:h1.get b=z at this
       cases this with
       | cells q1 q2=>exact hnc _ _ _ hz
     · exact hnc cs cur ro (by rw [z1, ← z2]; exact e)
   · exact e
end Go.V
end
section
noncomputable section
namespace Go.V
open Go.RowKit (Below)
def b2s {β:Type} (t:Trie VObj):(Trie VObj→Option β)→Option β:=
 Trie.rec (motive:=fun _=>(Trie VObj→Option β)→Option β) (fun q=>q .leaf)
  (fun v _ _ ihl ihr q=>ihl fun l=>ihr fun r=>match v with
    | none=>q (.node none l r)
    | some o=>match o with
      | .cells cs cur _=>q (.node (some (.cells cs cur true)) l r)
      | _=>none) t
def b3H (h h':Trie VObj):Prop:=∀ i,(h.get i=none∧h'.get i=none)∨∃ cs cur ro,h.get i=some (.cells cs cur ro)∧h'.get i=some (.cells cs cur true)
theorem b9l {β:Type} (t:Trie VObj):∀ (q:Trie VObj→Option β) (x:β),b2s t q=some x→∃ t',b3H t t'∧q t'=some x:=by
 induction t with
 | leaf=>intro q x h; exact ⟨.leaf,fun i=>Or.inl ⟨Trie.get_leaf i,Trie.get_leaf i⟩,h⟩
 | node v l r ihl ihr=>
   intro q x h
   have h':b2s l (fun l=>b2s r fun r=>match v with
    | none=>q (.node none l r)
    | some o=>match o with
      | .cells cs cur _=>q (.node (some (.cells cs cur true)) l r)
      | _=>none)=some x:=h
   obtain ⟨l',hl,h1⟩:=ihl _ _ h'
   obtain ⟨r',hr,h2⟩:=ihr _ _ h1
   have key:∀ (v':Option VObj),((v=none∧v'=none)∨∃ cs cur ro,v=some (.cells cs cur ro)∧v'=some (.cells cs cur true))→b3H (.node v l r) (.node v' l' r'):=by
    intro v' hv i
    cases i with
    | zero=>rw [Trie.get_node_zero,Trie.get_node_zero]; exact hv
    | succ k=>
      rw [Trie.get_node_succ,Trie.get_node_succ]
      by_cases hk:k % 2=0
      · rw [if_pos hk,if_pos hk]; exact hl _
      · rw [if_neg hk,if_neg hk]; exact hr _
   cases v with
   | none=>exact ⟨_,key none (Or.inl ⟨rfl,rfl⟩),h2⟩
   | some o=>
     cases o with
     | cells cs cur ro=>exact ⟨_,key _ (Or.inr ⟨cs,cur,ro,rfl,rfl⟩),h2⟩
     | map es=>cases h2
     | siter x pos=>cases h2
def c0I:M Unit:=fun s=>b2s s.h fun h=>some ((),⟨s.c,h, [], []⟩)
theorem b9M {s s':S} {u:Unit} (h:c0I s=some (u,s')):s'.c=s.c∧b3H s.h s'.h:=by
 obtain ⟨t',h1,h2⟩:=b9l _ _ _ h
 cases h2
 exact ⟨rfl,h1⟩
def a9a (K:KM):KM:=fun b g=>(K b g).map fun l=>{ l with own:=false }
theorem a5E {K:KM} {b g:Nat} {l:Loc} (h:a9a K b g=some l):∃ l0,K b g=some l0∧l={ l0 with own:=false }:=by
 unfold a9a at h
 cases q:K b g with
 | none=>rw [q] at h; cases h
 | some l0=>rw [q] at h; cases h; exact ⟨l0,rfl,rfl⟩
theorem a8l {K:KM} {b g:Nat} {l:Loc} (h:K b g=some l):a9a K b g=some { l with own:=false }:=by unfold a9a; rw [h]; rfl
theorem VR.frz {K:KM} {v' v:Value} (r:VR K v' v):VR (a9a K) v' v:=by
 induction r with
 | plain h=>exact .plain h
 | @ptr b g off l hk hl=>exact VR.ptr (l:={ l with own:=false }) (a8l hk) hl
 | slice hk h1 h2 h3 h4 h5=>
   refine VR.slice (a8l hk) h1 h2 h3 h4 ?_
   rcases h5 with h5 | ⟨h6,h7,_⟩
   · exact Or.inl h5
   · exact Or.inr ⟨h6,h7,fun q=>by cases q⟩
 | @map b l hk=>exact VR.map (l:={ l with own:=false }) (a8l hk)
 | agg h1 _ ih=>exact .agg h1 ih
 | tuple h1 _ ih=>exact .tuple h1 ih
 | func h1 _ h3 _ ih1 ih2=>exact .func h1 ih1 h3 ih2
 | iface _ ih=>exact .iface ih
theorem VRL.frz {K:KM} {l' l:List Value} (h:VRL K l' l):VRL (a9a K) l' l:=⟨h.len,fun i v' v a b=>(h.at_ i v' v a b).frz⟩
theorem GK.frz {T:Tab} {K:KM} (h:GK T K):GK T (a9a K):=fun g hg=>let ⟨_,e,r1,r2,r3⟩:=h g hg; ⟨_,a8l e,r1,r2,r3⟩
structure KeepsR (R:Nat→Prop) (w w':World):Prop where
 size:w.heap.size≤w'.heap.size
 same:∀ k o,R k→w.heap[k]?=some o→o.isCells=true∨o.isWalk=true→w'.heap[k]?=some o
theorem c1C {B0:Nat} {w0:Base} {K:KM} {h h':Trie VObj} {w w':World} (S:Sim B0 w0 K h w) (F:b3H h h') (Kp:KeepsR w0.R w w') :
 Sim w'.heap.size ⟨w',w0.R⟩ (a9a K) h' w':=by
 have hB:=Nat.le_trans S.base Kp.size
 have hcs:∀ b cs cur ro,h'.get b=some (.cells cs cur ro)→ro=true∧∃ ro0,h.get b=some (.cells cs cur ro0):=by
  intro b cs cur ro q
  rcases F b with ⟨_,e⟩ | ⟨cs0,cur0,ro0,e1,e2⟩
  · rw [e] at q; cases q
  · rw [e2] at q; cases q; exact ⟨rfl,ro0,e1⟩
 refine ⟨⟨Nat.le_refl _,fun k hk=>S.size0.2 k (Nat.le_trans hB hk)⟩,Below.refl _ _, ?_, ?_, ?_, ?_, ?_, ?_, ?_, ?_, ?_, ?_,fun b g l q hnc=>by
  obtain ⟨l0,q0,rfl⟩:=a5E q
  refine S.gen0 b g l0 q0 fun cs cur ro e=>?_
  rcases F b with ⟨e',_⟩ | ⟨cs0,cur0,ro0,e1,e2⟩
  · rw [e'] at e; cases e
  · exact hnc _ _ _ e2⟩
 · intro b g l q
   obtain ⟨l0,q0,rfl⟩:=a5E q
   exact ⟨Nat.lt_of_lt_of_le (S.dom b g l0 q0) Kp.size,(S.dom' b g l0 q0).2⟩
 · intro b g l q
   obtain ⟨l0,q0,rfl⟩:=a5E q
   obtain ⟨o,ho⟩:=S.dom2 b g l0 q0
   rcases F b with ⟨e,_⟩ | ⟨cs0,cur0,ro0,e1,e2⟩
   · rw [e] at ho; cases ho
   · exact ⟨_,e2⟩
 · intro b g l q ho
   obtain ⟨l0,q0,rfl⟩:=a5E q
   cases ho
 · intro b g l b' g' l' q _ _ ho
   obtain ⟨l0,q0,rfl⟩:=a5E q
   cases ho
 · intro b g l g' l' q q'
   obtain ⟨l0,q0,rfl⟩:=a5E q
   obtain ⟨l1,q1,rfl⟩:=a5E q'
   exact ⟨rfl,(S.same b g l0 g' l1 q0 q1).2⟩
 · intro b g l cs cur ro q ho
   obtain ⟨l0,q0,rfl⟩:=a5E q
   cases ho
 · intro b cs cur ro q
   obtain ⟨rfl,ro0,q0⟩:=hcs b cs cur ro q
   obtain ⟨r1,r2,r3⟩:=S.gens b cs cur ro0 q0
   refine ⟨fun g l q=>?_,fun g hg=>let ⟨_,r⟩:=r2 g hg; ⟨_,a8l r⟩,r3⟩
   obtain ⟨l0,q0,rfl⟩:=a5E q
   exact ⟨(r1 g l0 q0).1,fun e=>by cases e⟩
 · intro b cs cur ro g l q1 q2 off v st q3 q4 q5
   obtain ⟨rfl,ro0,q0⟩:=hcs b cs cur ro q1
   obtain ⟨l0,q2',rfl⟩:=a5E q2
   obtain ⟨v',r1,r2⟩:=S.cells b cs cur ro0 g l0 q0 q2' off v st q3 q4 q5
   refine ⟨v', ?_,r2.frz⟩
   obtain ⟨o,ho,hc⟩:∃ o:Obj,w.heap[l0.blk]?=some o∧o.isCells=true:=by
    unfold World.cell? at r1
    cases hx:w.heap[l0.blk]? with
    | none=>simp [hx] at r1
    | some o=>
      cases o with
      | cells=>exact ⟨_,rfl,rfl⟩
      | _=>simp [hx] at r1
   rw [← r1]
   exact World.cell?_of_block (w:=w) (by dsimp only; rw [Kp.same _ _ (S.dom' b g l0 q2').2 ho (Or.inl hc),ho])
 · intro b es q
   rcases F b with ⟨_,e⟩ | ⟨cs0,cur0,ro0,e1,e2⟩
   · rw [e] at q; cases q
   · rw [e2] at q; cases q
 · intro b x pos q
   rcases F b with ⟨_,e⟩ | ⟨cs0,cur0,ro0,e1,e2⟩
   · rw [e] at q; cases q
   · rw [e2] at q; cases q
end Go.V
end
