import Derived.RangeFuncKeeps
import Derived.Test.YtmomonnlmbljoaaGreatDoorRaj
import Derived.Test.YtmomonnlmbljoaaGreatDoorRan
section
noncomputable section
namespace Go.V
def ar0 (f:j4→M CR):j4→List Value→M CR:=fun call args=>match args with
 | []=>f call
 | _=>M.fail
def R5 (f:j4→Value→M CR):j4→List Value→M CR:=fun call args=>match args with
 | [a]=>f call a
 | _=>M.fail
def X9 (f:j4→Value→Value→M CR):j4→List Value→M CR:=fun call args=>match args with
 | [a,b]=>f call a b
 | _=>M.fail
def ar3 (f:j4→Value→Value→Value→M CR):j4→List Value→M CR:=fun call args=>match args with
 | [a,b,c]=>f call a b c
 | _=>M.fail
def ar4 (f:j4→Value→Value→Value→Value→M CR):j4→List Value→M CR:=fun call args=>match args with
 | [a,b,c,d]=>f call a b c d
 | _=>M.fail
def ar5 (f:j4→Value→Value→Value→Value→Value→M CR):j4→List Value→M CR:=fun call args=>match args with
 | [a,b,c,d,e]=>f call a b c d e
 | _=>M.fail
def arX (g:List Value→M Value):j4→List Value→M CR:=fun _ args=>M.bind (g args) fun v=>M.pure (.ret v)
section
variable {P:Program} {T:Tab} {ext:Nat→Option (List Value→M Value)} {N f:Nat} {fn:Func} {c:Code} {pn:Bool} {pl:Pl}
def I4 (P:Program) (T:Tab) (ext:Nat→Option (List Value→M Value)) (N f:Nat) (g:j4→List Value→M CR):Prop:=∀ call args,Le (g call args) (atF P T ext N f call args)
theorem e5u {sh:Cb→Nat→j4→M CR} (he:ext f=none) (hf:T.funcs.get f=some fn) (hb:fn.body=some c) (h:∀ cb N call,D5 P T cb pn N call fn c pl []=sh cb N call):I4 P T ext N f (ar0 (sh C8 N)):=by
 intro call args
 unfold ar0
 split
 · exact a2j he hf hb pn pl (h C8 N call)
 · exact Le.fail _
theorem M4 {sh:Cb→Nat→j4→Value→M CR} (he:ext f=none) (hf:T.funcs.get f=some fn) (hb:fn.body=some c) (h:∀ cb N call a,D5 P T cb pn N call fn c pl [a]=sh cb N call a):I4 P T ext N f (R5 (sh C8 N)):=by
 intro call args
 unfold R5
 split
 · exact a2j he hf hb pn pl (h C8 N call _)
 · exact Le.fail _
theorem O6 {sh:Cb→Nat→j4→Value→Value→M CR} (he:ext f=none) (hf:T.funcs.get f=some fn) (hb:fn.body=some c) (h:∀ cb N call a b,D5 P T cb pn N call fn c pl [a,b]=sh cb N call a b):I4 P T ext N f (X9 (sh C8 N)):=by
 intro call args
 unfold X9
 split
 · exact a2j he hf hb pn pl (h C8 N call _ _)
 · exact Le.fail _
theorem a1S {sh:Cb→Nat→j4→Value→Value→Value→M CR} (he:ext f=none) (hf:T.funcs.get f=some fn) (hb:fn.body=some c) (h:∀ cb N call a b d,D5 P T cb pn N call fn c pl [a,b,d]=sh cb N call a b d):I4 P T ext N f (ar3 (sh C8 N)):=by
 intro call args
 unfold ar3
 split
 · exact a2j he hf hb pn pl (h C8 N call _ _ _)
 · exact Le.fail _
theorem d7e {sh:Cb→Nat→j4→Value→Value→Value→Value→M CR} (he:ext f=none) (hf:T.funcs.get f=some fn) (hb:fn.body=some c) (h:∀ cb N call a b d e,D5 P T cb pn N call fn c pl [a,b,d,e]=sh cb N call a b d e):I4 P T ext N f (ar4 (sh C8 N)):=by
 intro call args
 unfold ar4
 split
 · exact a2j he hf hb pn pl (h C8 N call _ _ _ _)
 · exact Le.fail _
theorem e5S {sh:Cb→Nat→j4→Value→Value→Value→Value→Value→M CR} (he:ext f=none) (hf:T.funcs.get f=some fn) (hb:fn.body=some c) (h:∀ cb N call a b d e g,D5 P T cb pn N call fn c pl [a,b,d,e,g]=sh cb N call a b d e g):I4 P T ext N f (ar5 (sh C8 N)):=by
 intro call args
 unfold ar5
 split
 · exact a2j he hf hb pn pl (h C8 N call _ _ _ _ _)
 · exact Le.fail _
theorem a1X {g:List Value→M Value} (he:ext f=some g):I4 P T ext N f (arX g):=fun _ _=>d9j he
inductive OAll (Q:(j4→List Value→M CR)→Prop):Option (j4→List Value→M CR)→Prop
 | none:OAll Q Option.none
 | some {g:j4→List Value→M CR}:Q g→OAll Q (Option.some g)
inductive TAll:(Nat→(j4→List Value→M CR)→Prop)→R8→Prop
 | leaf {Q:Nat→(j4→List Value→M CR)→Prop}:TAll Q .leaf
 | node {Q:Nat→(j4→List Value→M CR)→Prop} {v:Option (j4→List Value→M CR)} {l r:R8}:OAll (Q 0) v→TAll (fun k=>Q (2 * k+1)) l→TAll (fun k=>Q (2 * k+2)) r→TAll Q (.node v l r)
theorem TAll.get {Q:Nat→(j4→List Value→M CR)→Prop} {t:R8} (h:TAll Q t):∀ f g,t.get f=some g→Q f g:=by
 induction h with
 | leaf=>intro f g e; cases e
 | node hv _ _ ihl ihr=>
   intro f g e
   cases f with
   | zero=>cases hv with
     | none=>cases e
     | some q=>cases e; exact q
   | succ k=>
     rw [Trie.get_node_succ] at e
     split at e
     · rename_i hk
       have:_:=ihl _ _ e
       simp only [] at this
       rw [show 2 * (k / 2)+1=k+1 by omega] at this
       exact this
     · rename_i hk
       have:_:=ihr _ _ e
       simp only [] at this
       rw [show 2 * (k / 2)+2=k+1 by omega] at this
       exact this
theorem d8c {sh:R8} (h:TAll (I4 P T ext N) sh):a2V P T ext N sh:=fun f g e=>h.get f g e
end
end Go.V
end
section
namespace Go.V
open Go.RowKit (Below)
section
variable {P:Program} {T:Tab} {w:World} {vs:R3}
theorem b9q (hT:TabOk P T) (hM:P.follows .mixedOrders=true) (hng:T.ng≤vs.length) (hp:∀ l∈vs, ∀ v∈l,plain v=true)
 {ext:Nat→Option (List Value→M Value)} (hE:Y5 P T vs ext) {N:Nat} {sh:R8} (hs:a2V P T ext N sh) {n f:Nat} {fn:Func} {c:Code} {args:List Value} {v:Value} {s':S}
 (hPf:P.funcs[f]?=some fn) (hnum:(fn.name == "runtime.NumGoroutine")=false) (hb:fn.body=some c)
 (ha:L6 (G8 8) args=true) (hv:G8 8 v=true) (h:a0L sh n f args (a0v vs)=some (.ret v,s')):a0t P vs f args v:=by
 intro w hL
 have hE':=hE w.heap.size ⟨w,fun _=>True⟩ hL hL.size
 refine ⟨N7 hPf hnum hb, ?_⟩
 rcases d2d hT hM hE' hs n f args (a0v vs) (.ret v) s' w (a0m vs) args h (a3s (fun _ _=>trivial) (fun _ _=>trivial) hL hp) (a4t hng) (fun i hi _=>by
  rw [a0d]
  have:vs.length≤i:=by have:=hi; unfold a0v at this; rw [J2] at this; exact this
  rw [List.getElem?_eq_none this]) (a2X ha) with ⟨v1,v',w',K',_,q1,_⟩ | ⟨_,q⟩
 · rw [N7 hPf hnum hb] at q1; cases q1
 · refine q.mono fun e w' hq=>?_
   obtain ⟨v',K',e1,st,r⟩:=hq
   rw [e1,r.eq_of_noAddr 8 hv]
   exact ⟨rfl,st.sim.below⟩
end
end Go.V
end
section
namespace Go.V
open Go.RowKit (Below)
inductive VRen (c:Nat→Prop) (m:Nat→Option (Nat×Nat)):Value→Value→Prop
 | plain {v:Value}:plain v=true→VRen c m v v
 | ptrOld {b off:Nat} {g:Option Nat}:c b→VRen c m (.pointer (some ⟨b,off,g⟩)) (.pointer (some ⟨b,off,g⟩))
 | ptrNew {b b2 g2 off:Nat}:m b=some (b2,g2)→VRen c m (.pointer (some ⟨b,off,some 0⟩)) (.pointer (some ⟨b2,off,some g2⟩))
 | sliceOld {b off n e:Nat} {g:Option Nat}:c b→VRen c m (.slice (some ⟨b,off,g⟩) n e) (.slice (some ⟨b,off,g⟩) n e)
 | sliceNew {b b2 g2 off n e:Nat}:m b=some (b2,g2)→VRen c m (.slice (some ⟨b,off,some 0⟩) n e) (.slice (some ⟨b2,off,some g2⟩) n e)
 | mapOld {b:Nat}:c b→VRen c m (.map (some b)) (.map (some b))
 | agg {cs ds:Array Value}:cs.toList.length=ds.toList.length→(∀ (i:Nat) (v w:Value),cs.toList[i]?=some v→ds.toList[i]?=some w→VRen c m v w)→VRen c m (.agg cs) (.agg ds)
 | tuple {cs ds:Array Value}:cs.toList.length=ds.toList.length→(∀ (i:Nat) (v w:Value),cs.toList[i]?=some v→ds.toList[i]?=some w→VRen c m v w)→VRen c m (.tuple cs) (.tuple ds)
 | func {fn:Fn} {cs ds es fs:Array Value}:cs.toList.length=ds.toList.length→(∀ (i:Nat) (v w:Value),cs.toList[i]?=some v→ds.toList[i]?=some w→VRen c m v w) →
  es.toList.length=fs.toList.length→(∀ (i:Nat) (v w:Value),es.toList[i]?=some v→fs.toList[i]?=some w→VRen c m v w)→VRen c m (.func fn cs es) (.func fn ds fs)
 | iface {t:TypeId} {v w:Value}:VRen c m v w→VRen c m (.iface t v) (.iface t w)
open Classical in
section
variable {c:Nat→Prop} {m:Nat→Option (Nat×Nat)} {K:KM} (hn:∀ b x,m b=some x→¬ c b)
include hn
end
inductive ORen (c:Nat→Prop) (m:Nat→Option (Nat×Nat)):Option VObj→Option VObj→Prop
 | none:ORen c m none none
 | cells {cs ds:List (Value×Nat)} {cur:Nat} {ro:Bool}:cs.length=ds.length→(∀ (i:Nat) v w st st',cs[i]?=some (v,st)→ds[i]?=some (w,st')→st=st'∧VRen c m v w)→ORen c m (some (.cells cs cur ro)) (some (.cells ds cur ro))
 | map {es fs:List (Value×Value)}:es.length=fs.length→(∀ (i:Nat) (e f:Value×Value),es[i]?=some e→fs[i]?=some f→e.1=f.1∧VRen c m e.2 f.2)→ORen c m (some (.map es)) (some (.map fs))
 | siter {s:ByteArray} {pos:Nat}:ORen c m (some (.siter s pos)) (some (.siter s pos))
structure View (c:Nat→Prop) (m:Nat→Option (Nat×Nat)) (h0 h1 h2:Trie VObj):Prop where
 old:∀ i,c i→ORen c m (h1.get i) (h2.get i)∨(h1.get i=h0.get i∧h2.get i=h0.get i)
 new:∀ b b2 g2,m b=some (b2,g2)→¬ c b∧¬ c b2∧∃ cs ds,h1.get b=some (.cells cs 0 false)∧h2.get b2=some (.cells ds g2 false)∧cs.length=ds.length ∧
  ∀ (i:Nat) v w st st',cs[i]?=some (v,st)→ds[i]?=some (w,st')→st=0∧VRen c m v w
 dom:∀ b, ¬ c b→m b=none→h1.get b=none
 inj:∀ b b' x x',m b=some x→m b'=some x'→x.1=x'.1→b=b'
end Go.V
end
section
noncomputable section
namespace Go.V
open Go.RowKit (Below)
def a4d {β:Type} (t:Trie VObj):(Trie VObj→Option β)→Option β:=
 Trie.rec (motive:=fun _=>(Trie VObj→Option β)→Option β) (fun q=>q .leaf)
  (fun v _ _ ihl ihr q=>ihl fun l=>ihr fun r=>match v with
    | none=>q (.node none l r)
    | some o=>match o with
      | .cells cs cur _=>q (.node (some (.cells cs cur true)) l r)
      | _=>none) t
def a5s (h h':Trie VObj):Prop:=∀ i,(h.get i=none∧h'.get i=none)∨∃ cs cur ro,h.get i=some (.cells cs cur ro)∧h'.get i=some (.cells cs cur true)
theorem b6m {β:Type} (t:Trie VObj):∀ (q:Trie VObj→Option β) (x:β),a4d t q=some x→∃ t',a5s t t'∧q t'=some x:=by
 induction t with
 | leaf=>intro q x h; exact ⟨.leaf,fun i=>Or.inl ⟨Trie.get_leaf i,Trie.get_leaf i⟩,h⟩
 | node v l r ihl ihr=>
   intro q x h
   have h':a4d l (fun l=>a4d r fun r=>match v with
    | none=>q (.node none l r)
    | some o=>match o with
      | .cells cs cur _=>q (.node (some (.cells cs cur true)) l r)
      | _=>none)=some x:=h
   obtain ⟨l',hl,h1⟩:=ihl _ _ h'
   obtain ⟨r',hr,h2⟩:=ihr _ _ h1
   have key:∀ (v':Option VObj),((v=none∧v'=none)∨∃ cs cur ro,v=some (.cells cs cur ro)∧v'=some (.cells cs cur true))→a5s (.node v l r) (.node v' l' r'):=by
    intro v' hv i
    cases i with
    | zero=>rw [Trie.get_node_zero,Trie.get_node_zero]; exact hv
    | succ k=>
      rw [Trie.get_node_succ,Trie.get_node_succ]
      by_cases hk:k % 2=0
      · rw [if_pos hk,if_pos hk]; exact hl _
      · rw [if_neg hk,if_neg hk]; exact hr _
   cases v with
   | none=>exact ⟨_,key none (Or.inl ⟨rfl,rfl⟩),h2⟩
   | some o=>
     cases o with
     | cells cs cur ro=>exact ⟨_,key _ (Or.inr ⟨cs,cur,ro,rfl,rfl⟩),h2⟩
     | map es=>cases h2
     | siter x pos=>cases h2
def c0j:M Unit:=fun s=>a4d s.h fun h=>some ((),⟨s.c,h, [], []⟩)
theorem b9l {s s':S} {u:Unit} (h:c0j s=some (u,s')):s'.c=s.c∧a5s s.h s'.h:=by
 obtain ⟨t',h1,h2⟩:=b6m _ _ _ h
 cases h2
 exact ⟨rfl,h1⟩
def a1G (K:KM):KM:=fun b g=>(K b g).map fun l=>{ l with own:=false }
theorem X3 {K:KM} {b g:Nat} {l:Loc} (h:a1G K b g=some l):∃ l0,K b g=some l0∧l={ l0 with own:=false }:=by
 unfold a1G at h
 cases q:K b g with
 | none=>rw [q] at h; cases h
 | some l0=>rw [q] at h; cases h; exact ⟨l0,rfl,rfl⟩
theorem a1k {K:KM} {b g:Nat} {l:Loc} (h:K b g=some l):a1G K b g=some { l with own:=false }:=by unfold a1G; rw [h]; rfl
theorem VR.frz {K:KM} {v' v:Value} (r:VR K v' v):VR (a1G K) v' v:=by
 induction r with
 | plain h=>exact .plain h
 | @ptr b g off l hk hl=>exact VR.ptr (l:={ l with own:=false }) (a1k hk) hl
 | slice hk h1 h2 h3 h4 h5=>
   refine VR.slice (a1k hk) h1 h2 h3 h4 ?_
   rcases h5 with h5 | ⟨h6,h7,_⟩
   · exact Or.inl h5
   · exact Or.inr ⟨h6,h7,fun q=>by cases q⟩
 | @map b l hk=>exact VR.map (l:={ l with own:=false }) (a1k hk)
 | agg h1 _ ih=>exact .agg h1 ih
 | tuple h1 _ ih=>exact .tuple h1 ih
 | func h1 _ h3 _ ih1 ih2=>exact .func h1 ih1 h3 ih2
 | iface _ ih=>exact .iface ih
theorem VRL.frz {K:KM} {l' l:List Value} (h:VRL K l' l):VRL (a1G K) l' l:=⟨h.len,fun i v' v a b=>(h.at_ i v' v a b).frz⟩
theorem GK.frz {T:Tab} {K:KM} (h:GK T K):GK T (a1G K):=fun g hg=>let ⟨_,e,r1,r2,r3⟩:=h g hg; ⟨_,a1k e,r1,r2,r3⟩
structure KeepsR (R:Nat→Prop) (w w':World):Prop where
 size:w.heap.size≤w'.heap.size
 same:∀ k o,R k→w.heap[k]?=some o→o.isCells=true∨o.isWalk=true→w'.heap[k]?=some o
theorem c2B {B0:Nat} {w0:Base} {K:KM} {h h':Trie VObj} {w w':World} (S:Sim B0 w0 K h w) (F:a5s h h') (Kp:KeepsR w0.R w w') :
 Sim w'.heap.size ⟨w',w0.R⟩ (a1G K) h' w':=by
 have hB:=Nat.le_trans S.base Kp.size
 have hcs:∀ b cs cur ro,h'.get b=some (.cells cs cur ro)→ro=true∧∃ ro0,h.get b=some (.cells cs cur ro0):=by
  intro b cs cur ro q
  rcases F b with ⟨_,e⟩ | ⟨cs0,cur0,ro0,e1,e2⟩
  · rw [e] at q; cases q
  · rw [e2] at q; cases q; exact ⟨rfl,ro0,e1⟩
 refine ⟨⟨Nat.le_refl _,fun k hk=>S.size0.2 k (Nat.le_trans hB hk)⟩,Below.refl _ _, ?_, ?_, ?_, ?_, ?_, ?_, ?_, ?_, ?_, ?_,fun b g l q hnc=>by
  obtain ⟨l0,q0,rfl⟩:=X3 q
  refine S.gen0 b g l0 q0 fun cs cur ro e=>?_
  rcases F b with ⟨e',_⟩ | ⟨cs0,cur0,ro0,e1,e2⟩
  · rw [e'] at e; cases e
  · exact hnc _ _ _ e2⟩
 · intro b g l q
   obtain ⟨l0,q0,rfl⟩:=X3 q
   exact ⟨Nat.lt_of_lt_of_le (S.dom b g l0 q0) Kp.size,(S.dom' b g l0 q0).2⟩
 · intro b g l q
   obtain ⟨l0,q0,rfl⟩:=X3 q
   obtain ⟨o,ho⟩:=S.dom2 b g l0 q0
   rcases F b with ⟨e,_⟩ | ⟨cs0,cur0,ro0,e1,e2⟩
   · rw [e] at ho; cases ho
   · exact ⟨_,e2⟩
 · intro b g l q ho
   obtain ⟨l0,q0,rfl⟩:=X3 q
   cases ho
 · intro b g l b' g' l' q _ _ ho
   obtain ⟨l0,q0,rfl⟩:=X3 q
   cases ho
 · intro b g l g' l' q q'
   obtain ⟨l0,q0,rfl⟩:=X3 q
   obtain ⟨l1,q1,rfl⟩:=X3 q'
   exact ⟨rfl,(S.same b g l0 g' l1 q0 q1).2⟩
 · intro b g l cs cur ro q ho
   obtain ⟨l0,q0,rfl⟩:=X3 q
   cases ho
 · intro b cs cur ro q
   obtain ⟨rfl,ro0,q0⟩:=hcs b cs cur ro q
   obtain ⟨r1,r2,r3⟩:=S.gens b cs cur ro0 q0
   refine ⟨fun g l q=>?_,fun g hg=>let ⟨_,r⟩:=r2 g hg; ⟨_,a1k r⟩,r3⟩
   obtain ⟨l0,q0,rfl⟩:=X3 q
   exact ⟨(r1 g l0 q0).1,fun e=>by cases e⟩
 · intro b cs cur ro g l q1 q2 off v st q3 q4 q5
   obtain ⟨rfl,ro0,q0⟩:=hcs b cs cur ro q1
   obtain ⟨l0,q2',rfl⟩:=X3 q2
   obtain ⟨v',r1,r2⟩:=S.cells b cs cur ro0 g l0 q0 q2' off v st q3 q4 q5
   refine ⟨v', ?_,r2.frz⟩
   obtain ⟨o,ho,hc⟩:∃ o:Obj,w.heap[l0.blk]?=some o∧o.isCells=true:=by
    unfold World.cell? at r1
    cases hx:w.heap[l0.blk]? with
    | none=>simp [hx] at r1
    | some o=>
      cases o with
      | cells=>exact ⟨_,rfl,rfl⟩
      | _=>simp [hx] at r1
   rw [← r1]
   exact World.cell?_of_block (w:=w) (by dsimp only; rw [Kp.same _ _ (S.dom' b g l0 q2').2 ho (Or.inl hc),ho])
 · intro b es q
   rcases F b with ⟨_,e⟩ | ⟨cs0,cur0,ro0,e1,e2⟩
   · rw [e] at q; cases q
   · rw [e2] at q; cases q
 · intro b x pos q
   rcases F b with ⟨_,e⟩ | ⟨cs0,cur0,ro0,e1,e2⟩
   · rw [e] at q; cases q
   · rw [e2] at q; cases q
end Go.V
end
section
noncomputable section
namespace Go.V
open Go.RowKit (Below)
abbrev Log:=List (Nat×List Value)
structure YPat where
 ops:Array Oper
 n:Nat
 y:Oper
 c:Call
 z:Oper
 ty:Nat
 tz:Nat
def b1k:Op→Option Nat
 | .unOp op _ x=>match op with
   | .not=>match x with
     | .tmp t=>some t
     | _=>none
   | _=>none
 | _=>none
def b1a (n:Nat):Option Nat→Bool
 | some m=>Nat.beq m n
 | none=>false
def c4z (ops:Array Oper) (tz:Nat):Option YPat:=match M8 ops.toList (F4 ops.toList - 2) with
 | none=>none
 | some y=>match M8 ops.toList (F4 ops.toList - 1) with
   | none=>none
   | some z=>match a2s y.op with
     | none=>none
     | some c=>match y.dst with
       | none=>none
       | some ty=>match b1a ty (b1k z.op) && b1a tz z.dst && y.guard.isNone && z.guard.isNone && !(Nat.beq ty tz) && Nat.ble 2 (F4 ops.toList) with
         | true=>some ⟨ops,F4 ops.toList - 2,y,c,z,ty,tz⟩
         | false=>none
def d7u:Code→Bool
 | .ret=>true
 | _=>false
def d1Y:Code→Bool
 | .skip=>true
 | _=>false
def a1U (a b:Code):Option YPat:=match a with
 | .region _ ops draw=>match draw with
   | true=>none
   | false=>match b with
     | .cond x thn els=>match d7u thn && d1Y els with
       | true=>match x with
         | .tmp tz=>c4z ops tz
         | _=>none
       | false=>none
     | _=>none
 | _=>none
def a7W (T:Tab) (fr:List Value) (c:Call):Option (Nat×List Value):=match c.callee with
 | .value f=>match J8 T fr f with
   | some v=>match v with
     | .func fn first cap=>match fn with
       | .yield l=>match first.toList with
         | []=>match cap.toList with
           | []=>match M0 T fr c.args.toList with
             | some vs=>some (l,vs)
             | none=>none
           | _::_=>none
         | _::_=>none
       | _=>none
     | _=>none
   | none=>none
 | _=>none
section
variable (P:Program) (T:Tab)
def a1W (call:Nat→List Value→M Value) (p:YPat) (fr:List Value) (log:Log):M (Ex×(List Value×Log)):=
 M.bind (Z9 P T call p.ops.toList (a2x p.ops.toList p.n) fr) fun fr1=>
 M.obind (a7W T fr1 p.c) fun lv=>
 M.guard (L6 (G8 8) lv.2 && Nat.blt p.ty (F4 fr1) && Nat.blt p.tz (F4 fr1)) <|
 M.bind c0j fun _=>fList (G7 log [lv]) fun log'=>
 M.pure (.normal,(a1t (a1t fr1 p.ty (.bool true)) p.tz (.bool false),log'))
def a5t (call:Nat→List Value→M Value) (ih:Code→List Value→Log→M (Ex×(List Value×Log))) (c:Code) (fr:List Value) (log:Log):M (Ex×(List Value×Log)):=match c with
 | .skip=>M.pure (.normal,(fr,log))
 | .region _ ops draw=>M.bind (region P T call ops.toList draw fr) fun r=>M.pure (r.1,(r.2,log))
 | .seq a b=>match a1U a b with
   | some p=>a1W P T call p fr log
   | none=>M.bind (ih a fr log) fun r=>match r.1 with
     | .normal=>ih b r.2.1 r.2.2
     | .exit id=>M.pure (.exit id,r.2)
     | .ret=>M.pure (.ret,r.2)
 | .cond x a b=>M.obind (J8 T fr x) fun v=>match v with
   | .bool t=>match t with
     | true=>ih a fr log
     | false=>ih b fr log
   | _=>M.fail
 | .block id b=>M.bind (ih b fr log) fun r=>match r.1 with
   | .normal=>M.pure (.normal,r.2)
   | .exit id'=>match Nat.beq id' id with
     | true=>M.pure (.normal,r.2)
     | false=>M.pure (.exit id',r.2)
   | .ret=>M.pure (.ret,r.2)
 | .loop b=>fList fr fun fr=>M.bind (ih b fr log) fun r=>match r.1 with
   | .normal=>ih (.loop b) r.2.1 r.2.2
   | .exit id=>M.pure (.exit id,r.2)
   | .ret=>M.pure (.ret,r.2)
 | .exit id=>M.pure (.exit id,(fr,log))
 | .ret=>M.pure (.ret,(fr,log))
 | _=>M.fail
def R6 (call:Nat→List Value→M Value) (n:Nat):Code→List Value→Log→M (Ex×(List Value×Log)):=
 Nat.rec (motive:=fun _=>Code→List Value→Log→M (Ex×(List Value×Log))) (fun _ _ _=>M.fail) (fun _ ih=>a5t P T call ih) n
end
theorem d2t {ops:Array Oper} {tz:Nat} {p:YPat} (h:c4z ops tz=some p):p.ops=ops∧p.tz=tz∧ops[p.n]?=some p.y∧ops[p.n+1]?=some p.z∧p.n+2=ops.size∧p.y.op=.call p.c ∧
 p.y.guard=none∧p.z.guard=none∧p.y.dst=some p.ty∧p.z.dst=some p.tz∧(∃ t,p.z.op=.unOp .not t (.tmp p.ty))∧p.ty≠p.tz:=by
 unfold c4z at h
 cases hy:M8 ops.toList (F4 ops.toList - 2) with
 | none=>rw [hy] at h; cases h
 | some y=>
   rw [hy] at h
   dsimp only at h
   cases hz:M8 ops.toList (F4 ops.toList - 1) with
   | none=>rw [hz] at h; cases h
   | some z=>
     rw [hz] at h
     dsimp only at h
     cases hc:a2s y.op with
     | none=>rw [hc] at h; cases h
     | some c=>
       rw [hc] at h
       dsimp only at h
       cases hd:y.dst with
       | none=>rw [hd] at h; cases h
       | some ty=>
         rw [hd] at h
         dsimp only at h
         cases hb:b1a ty (b1k z.op) && b1a tz z.dst && y.guard.isNone && z.guard.isNone && !(Nat.beq ty tz) && Nat.ble 2 (F4 ops.toList) with
         | false=>rw [hb] at h; cases h
         | true=>
           rw [hb] at h
           cases h
           simp only [Bool.and_eq_true,Bool.not_eq_true'] at hb
           obtain ⟨⟨⟨⟨⟨b1,b2⟩,b3⟩,b4⟩,b5⟩,b6⟩:=hb
           rw [J2] at hy hz b6 ⊢
           rw [O7,a0g] at hy hz
           simp only [Array.length_toList] at hy hz b6 ⊢
           have b6:2≤ops.size:=by simpa using b6
           refine ⟨trivial,trivial,hy,by rw [show ops.size - 2+1=ops.size - 1 by omega]; exact hz,by omega, ?_,by simpa using b3,by simpa using b4,hd, ?_, ?_, ?_⟩
           · cases ho:y.op <;> rw [ho] at hc <;> first | (cases hc; rfl) | cases hc
           · cases q:z.dst with
             | none=>rw [q] at b2; cases b2
             | some t=>rw [q] at b2; exact congrArg some (Nat.eq_of_beq_eq_true b2)
           · cases q:b1k z.op with
             | none=>rw [q] at b1; cases b1
             | some t=>
               rw [q] at b1
               obtain rfl:t=ty:=Nat.eq_of_beq_eq_true b1
               unfold b1k at q
               split at q
               · split at q
                 · split at q
                   · cases q; rename_i e; exact ⟨_,e⟩
                   · cases q
                 · cases q
               · cases q
           · intro e
             rw [e] at b5
             simp at b5
theorem c6t {a b:Code} {p:YPat} (h:a1U a b=some p):(∃ id,a=.region id p.ops false)∧b=.cond (.tmp p.tz) .ret .skip∧p.ops[p.n]?=some p.y∧p.ops[p.n+1]?=some p.z∧p.n+2=p.ops.size∧p.y.op=.call p.c ∧
 p.y.guard=none∧p.z.guard=none∧p.y.dst=some p.ty∧p.z.dst=some p.tz∧(∃ t,p.z.op=.unOp .not t (.tmp p.ty))∧p.ty≠p.tz:=by
 cases a with
 | region id ops draw=>
   cases draw with
   | true=>cases h
   | false=>
     cases b with
     | cond x thn els=>
       unfold a1U at h
       dsimp only at h
       cases hb:d7u thn && d1Y els with
       | false=>rw [hb] at h; cases h
       | true=>
         rw [hb] at h
         simp only [Bool.and_eq_true] at hb
         have e1:thn=.ret:=by cases thn <;> first | rfl | cases hb.1
         have e2:els=.skip:=by cases els <;> first | rfl | cases hb.2
         cases x with
         | tmp tz=>
           have h:c4z ops tz=some p:=h
           obtain ⟨q1,q2,q3⟩:=d2t h
           subst q1
           subst q2
           exact ⟨⟨id,rfl⟩,by rw [e1,e2],q3⟩
         | _=>cases h
     | _=>cases h
 | _=>cases h
theorem b5B {T:Tab} {fr:List Value} {c:Call} {l:Nat} {vs:List Value} (h:a7W T fr c=some (l,vs)) :
 ∃ f,c.callee=.value f∧J8 T fr f=some (.func (.yield l) #[] #[])∧M0 T fr c.args.toList=some vs:=by
 unfold a7W at h
 split at h
 · rename_i f hf
   split at h
   · rename_i v hv
     split at h
     · rename_i fn first cap
       split at h
       · rename_i l'
         split at h
         · rename_i hfirst
           split at h
           · rename_i hcap
             split at h
             · rename_i vs' hvs
               cases h
               refine ⟨f,hf, ?_,hvs⟩
               rw [hv]
               have e1:first=#[]:=by apply Array.ext'; simpa using hfirst
               have e2:cap=#[]:=by apply Array.ext'; simpa using hcap
               rw [e1,e2]
             · cases h
           · cases h
         · cases h
       · cases h
     · cases h
   · cases h
 · cases h
end Go.V
end
section
noncomputable section
namespace Go.V
open Go.RowKit (Below)
section
variable {P:Program} {T:Tab} {B0:Nat} {w0:Base} {w:World} {K:KM} {s s':S} {a:Act} {fr:List Value} {v:Value} {m:Nat}
def a2H (s:S):Prop:=∀ i,s.c≤i→s.h.get i=none
theorem a2H.free (h:a2H s) (K:KM) (s':S):K8 K s s':=fun i hi _=>h i hi
theorem a2H.next {α:Type} {f:M α} {x:α} (h:a2H s) (hf:Fr f) (e:f s=some (x,s')):a2H s':=fun i hi=>by
 obtain ⟨dr,dw,_,_,e3,_,e5,_,e7,_⟩:=hf s x s' e
 rw [e7 i (fun q=>by have:=e5 i q; omega)]
 exact h i (Nat.le_trans e3 hi)
theorem c8b {o:Oper} {next:Act→World→Prop} {Q:Exit→Act→World→Prop} (h:o.wp P a w next Q):o.wpIn Fence.wide m P a w next Q:=by
 refine ⟨fun _ _=>trivial, ?_⟩
 show o.uponIn Fence.wide m P a next Q ((o.semAt none a.eval).run P w)
 rw [Oper.semAt_none]
 unfold Oper.wp at h
 generalize (execOp a.eval o).run P w=r at h
 have hd:Fence.wide.depth.isSome=true→1≤m:=fun q=>by cases q
 cases r with
 | ok x w'=>
   cases x with
   | value v=>exact h
   | skip=>exact h
   | defer d=>exact h
   | enter f args=>exact ⟨hd,callsIn_wide.2 h⟩
   | row r args=>exact ⟨hd,fun c cs _=>let ⟨v,w',q,st⟩:=h c cs; ⟨v,w',q,stepsIn_wide.2 st⟩⟩
   | _=>exact absurd h (fun q=>q)
 | halt x w'=>
   cases x with
   | panic v=>exact h
   | _=>exact absurd h (fun q=>q)
theorem b9m (hT:TabOk P T) {call:Nat→List Value→M Value} (hC:X8 P T B0 w0 call) (hF:∀ f vs,Fr (call f vs)) (ops:Array Oper) {Q:Exit→Act→World→Prop} {rest:List Nat} :
 ∀ (n k:Nat) (fr fr':List Value) (s s':S) (K:KM) (a:Act) (w:World),k+n≤ops.size→Z9 P T call ops.toList ((ops.toList.drop k).take n) fr s=some (fr',s')→Sim B0 w0 K s.h w→K8 K s s'→VRL K a.tmps.toList fr→GK T K →
   (∀ a' w' K',Step B0 w0 K s' w' K'→VRL K' a'.tmps.toList fr'→a'.defers=a.defers→wpOpsIn Fence.wide m P ops Q rest a' w')→wpOpsIn Fence.wide m P ops Q (List.range' k n ++ rest) a w:=by
 intro n
 induction n with
 | zero=>
   intro k fr fr' s s' K a w hk h S F hf hg hq
   rw [List.take_zero] at h
   obtain ⟨rfl,rfl⟩:=o9 h
   exact hq a w K (Step.same S rfl) hf rfl
 | succ n ih=>
   intro k fr fr' s s' K a w hk h S F hf hg hq
   have hlt:k<ops.size:=by omega
   have hd:ops.toList.drop k=ops[k]::ops.toList.drop (k+1):=by
    rw [List.drop_eq_getElem_cons (by simpa using hlt)]; simp
   rw [hd,List.take_succ_cons,a2c] at h
   rw [List.range'_succ,List.cons_append]
   simp only [wpOpsIn,Array.getElem?_eq_getElem hlt]
   rw [a1y ops a.tmps hf]
   cases hw:M6 ops.toList fr ops[k] with
   | true=>
     rw [hw] at h
     simp only [if_true] at h ⊢
     obtain ⟨v,s1,h1,h2⟩:=w9 h
     have hle2:=(Fr.runOps P T hF _ _ _).le h2
     refine c8b (a1P hT hC h1 S (F.left hle2) hf hg fun v' w' K' st r=>?_)
     refine ih (k+1) _ fr' s1 s' K' _ w' (by omega) h2 st.sim (F.right (Fr.stepOp P T hF _ _) h1) (a1a (hf.mono st.le) _ r) (hg.mono st.le) fun a2 w2 K2 st2 r2 d2=>?_
     exact hq a2 w2 K2 (st.trans st2 hle2) r2 (by rw [d2,O5])
   | false=>
     rw [hw] at h
     simp only [Bool.false_eq_true,if_false] at h ⊢
     refine ⟨fun _ _=>trivial,ih (k+1) _ fr' s s' K _ w (by omega) h S F (a1a hf _ (VR.undef K)) hg fun a2 w2 K2 st2 r2 d2=>?_⟩
     exact hq a2 w2 K2 st2 r2 (by rw [d2,O5])
structure Rounds (P:Program) (R:Nat→Prop) (l m:Nat) (J Jx:List (List Value)→World→Prop) (full:List (List Value)):Prop where
 abides:∀ pre W W',J pre W→Below W.heap.size W W'→J pre W'
 round:∀ pre x W1,J pre W1→pre ++ [x] <+: full→YieldAt Fence.wide m P l x.toArray W1 fun e W'=>
  (e=.returned (.bool true)∧J (pre ++ [x]) W'∧KeepsR R W1 W')∨(e=.returned (.bool false)∧Jx (pre ++ [x]) W')
def YAt (T:Tab) (vs:R3) (R:Nat→Prop) (J:List (List Value)→World→Prop) (ds:List Deferred) (log:Log) (fr:List Value) (s:S) (a:Act) (w:World):Prop:=
 ∃ B0 w0 K,Sim B0 w0 K s.h w∧w0.R=R∧B0=w0.w.heap.size∧J (log.map (·.2)) w0.w∧VRL K a.tmps.toList fr∧GK T K∧a.defers=ds∧a2H s∧LaidV vs w0.w∧vs.length≤B0
def e0E:Ex→Exit→Prop
 | .normal,e=>e=.normal
 | .exit id,e=>e=.exit id
 | .ret,e=>e=.ret
theorem d8K {z:Oper} {t:TypeId} {ty:Nat} {b:Bool} (hz:z.op=.unOp .not t (.tmp ty)) (he:a.eval (.tmp ty)=.bool b):(execOp a.eval z).run P w=.ok (.value (.bool (!b))) w:=by
 unfold execOp
 rw [hz]
 simp only [he]
 rfl
theorem a4L {t:Nat} {v:Value} (h:t<a.tmps.size):(a.put (some t) v).eval (.tmp t)=v:=by
 simp [Act.put,Act.eval,h]
theorem b8J {t:Option Nat} {v:Value}:(a.put t v).tmps.size=a.tmps.size:=by
 cases t <;> simp [Act.put]
theorem LaidV.keeps {vs:R3} {R:Nat→Prop} {w w':World} (h:LaidV vs w) (hR:∀ k,k<vs.length→R k) (hk:KeepsR R w w'):LaidV vs w':=
 ⟨Nat.le_trans h.size hk.size,fun g l hg off v hv=>by
  have hc:=h.cell g l hg off v hv
  obtain ⟨o,ho,hoc⟩:∃ o:Obj,w.heap[g]?=some o∧o.isCells=true:=by
   unfold World.cell? at hc
   cases hx:w.heap[g]? with
   | none=>simp [hx] at hc
   | some o=>
     cases o with
     | cells=>exact ⟨_,rfl,rfl⟩
     | _=>simp [hx] at hc
  rw [← hc]
  exact World.cell?_of_block (w:=w) (by dsimp only; rw [hk.same _ _ (hR g (List.getElem?_eq_some_iff.1 hg).1) ho (Or.inl hoc),ho]),fun g l hg hl=>by
  obtain ⟨t,fz,e⟩:=h.row g l hg hl
  exact ⟨t,fz,by rw [hk.same _ _ (hR g (List.getElem?_eq_some_iff.1 hg).1) e (Or.inl rfl)]⟩⟩
theorem b0I (hT:TabOk P T) {call:Nat→List Value→M Value} {K4:R3} (hC:∀ B0 w0,LaidV K4 w0.w→K4.length≤B0→X8 P T B0 w0 call) (hF:∀ f vs,Fr (call f vs))
 {R:Nat→Prop} {l m:Nat} {full:List (List Value)} {J Jx:List (List Value)→World→Prop} (hR:Rounds P R l m J Jx full) (hRv:∀ k,k<K4.length→R k)
 {x y:Code} {p:YPat} (hp:a1U x y=some p) {log log':Log} {ex:Ex} {fr':List Value} {Q:Exit→Act→World→Prop} {ds:List Deferred}
 (h:a1W P T call p fr log s=some ((ex,(fr',log')),s')) (hY:YAt T K4 R J ds log fr s a w) (hl:∀ e∈log',e.1=l) (hN:log'.map (·.2) <+: full)
 (hq:∀ e a' w',YAt T K4 R J ds log' fr' s' a' w'→e0E ex e→Q e a' w') (hx:∀ a' w' pre,pre <+: log'.map (·.2)→Jx pre w'→a'.defers=ds→Q .ret a' w'):(Code.seq x y).wp P Q a w:=by
 obtain ⟨⟨id,rfl⟩,rfl,p1,p2,p3,p4,p5,p6,p7,p8,⟨t,p9⟩,p10⟩:=c6t hp
 obtain ⟨B0,w0,K,S,hwR,hB0,hJ,hf,hg,hds,hfr,hL0,hLB⟩:=hY
 obtain ⟨fr1,s1,h1,h2⟩:=w9 h
 obtain ⟨⟨l',vs⟩,hyo,h3⟩:=C9 h2
 obtain ⟨hgd,h4⟩:=A8 h3
 obtain ⟨u,s2,h5,h6⟩:=w9 h4
 rw [a1j,I5] at h6
 obtain ⟨e7,rfl⟩:=o9 h6
 cases e7
 simp only [Bool.and_eq_true] at hgd
 obtain ⟨⟨g1,g2⟩,g3⟩:=hgd
 obtain ⟨f,c1,c2,c3⟩:=b5B hyo
 have hll:l'=l:=hl (l',vs) (by simp)
 subst hll
 rw [J2] at g2 g3
 have g2:p.ty<fr1.length:=by simpa using g2
 have g3:p.tz<fr1.length:=by simpa using g3
 obtain ⟨fz1,fz2⟩:=b9l h5
 have hfr1:a2H s1:=hfr.next (Fr.runOps P T hF _ _ _) h1
 have hlen:log.map (·.2) ++ [vs] <+: full:=by simpa using hN
 refine wpIn_wide (n:=m+1).1 (wpIn_seq (wpIn_region ?_))
 have hrange:List.range p.ops.size=List.range' 0 p.n ++ [p.n,p.n+1]:=by
  rw [← p3,List.range_eq_range', ← List.range'_append]
  simp [List.range'_succ]
 rw [hrange]
 refine b9m hT (hC B0 w0 hL0 hLB) hF p.ops p.n 0 fr fr1 s s1 K a w (by omega) (by rw [List.drop_zero, ← a2D]; exact h1) S (hfr.free _ _) hf hg fun a1 w1 K1 st r1 d1=>?_
 have hsz:a1.tmps.size=fr1.length:=by have:=r1.len; simpa using this
 have ef:a1.eval f=.func (.yield l') #[] #[]:=by
  have r:=F5 r1 (hg.mono st.le) c2
  obtain ⟨x1,y1,e,q1,q2⟩:=a9r r
  rw [e]
  have e1:x1=#[]:=by apply Array.ext'; have:=q1.len; simp at this; simpa using this
  have e2:y1=#[]:=by apply Array.ext'; have:=q2.len; simp at this; simpa using this
  rw [e1,e2]
 have ea:p.c.args.toList.map a1.eval=vs:=by
  have r:=a0e r1 (hg.mono st.le) c3
  apply List.ext_getElem?
  intro i
  by_cases hi:i<vs.length
  · have hi':i<(p.c.args.toList.map a1.eval).length:=by rw [r.len]; exact hi
    have q:=r.at_ i _ _ (List.getElem?_eq_getElem hi') (List.getElem?_eq_getElem hi)
    rw [List.getElem?_eq_getElem hi',List.getElem?_eq_getElem hi,q.eq_of_noAddr 8 ((K9 _ _).1 g1 vs[i] (List.getElem_mem hi))]
  · rw [List.getElem?_eq_none (by rw [r.len]; omega),List.getElem?_eq_none (by omega)]
 have hop:execOp a1.eval p.y=Instr.yield l' vs.toArray:=by
  unfold execOp
  rw [p4]
  show (do let d ← resolve a1.eval p.c p.y.type; invoke d.target d.args)=_
  unfold resolve
  rw [c1]
  show (do let d ← Deferred.ofValue (a1.eval f) (p.c.args.map a1.eval); invoke d.target d.args)=_
  rw [ef]
  show Instr.yield l' (#[] ++ p.c.args.map a1.eval)=_
  congr 1
  apply Array.ext'
  simpa using ea
 have hJ1:J (log.map (·.2)) w1:=hR.abides _ _ _ hJ (by rw [← hB0]; exact st.sim.below)
 obtain ⟨fn,tmps,assign,body,hrun,hround⟩:=hR.round (log.map (·.2)) vs w1 hJ1 hlen
 have hw:∀ (o:Oper) (ts:Array Value),o.guard=none→Region.wanted o (yielded p.ops ts)=true:=fun o ts h=>by unfold Region.wanted; rw [h]
 simp only [wpOpsIn,p1,p2]
 rw [hw _ _ p5,if_pos rfl]
 refine ⟨fun _ _=>trivial, ?_⟩
 show p.y.uponIn Fence.wide (m+1) P a1 _ _ ((p.y.semAt none a1.eval).run P w1)
 rw [Oper.semAt_none,hop,hrun,Oper.uponIn_round]
 refine ⟨fun q=>(by cases q),hround.mono fun e w2 he=>?_⟩
 have tail:∀ (b:Bool) (w2:World) (Q':Exit→Act→World→Prop),Q' .normal ((a1.put (some p.ty) (.bool b)).put (some p.tz) (.bool (!b))) w2 →
  (if Region.wanted p.z (yielded p.ops (a1.put p.y.dst (.bool b)).tmps)=true then p.z.wpIn Fence.wide (m+1) P (a1.put p.y.dst (.bool b)) w2 (fun a w=>Q' .normal a w) Q'
    else (∀ f,p.z.about P w2 (a1.put p.y.dst (.bool b)).eval=some f→Fence.wide.fn f)∧Q' .normal ((a1.put p.y.dst (.bool b)).put p.z.dst undef) w2):=by
  intro b w2 Q' hQ
  rw [hw _ _ p6,if_pos rfl]
  refine ⟨fun _ _=>trivial, ?_⟩
  show p.z.uponIn Fence.wide (m+1) P _ _ _ ((p.z.semAt none _).run P w2)
  rw [Oper.semAt_none,p7,d8K (b:=b) p9 (a4L (by omega)),Oper.uponIn_value,p8]
  exact hQ
 rcases he with ⟨rfl,hJ2,hk⟩ | ⟨rfl,hJx⟩
 · have hL1:LaidV K4 w1:=hL0.below st.sim.below hLB
   have hL2:LaidV K4 w2:=hL1.keeps hRv hk
   refine tail true w2 _ ?_
   show ((Code.cond (.tmp p.tz) .ret .skip).wpIn Fence.wide (m+1) P Q) _ w2
   refine wpIn_cond_false (a4L (by rw [b8J]; omega)) (wpIn_skip (hq _ _ _ ⟨w2.heap.size,⟨w2,R⟩,a1G K1, ?_,rfl,rfl, ?_, ?_, ?_, ?_, ?_,hL2,hL2.size⟩ rfl))
   · have:=c2B st.sim fz2 (by rw [hwR]; exact hk)
     rw [hwR] at this
     exact this
   · simpa using hJ2
   · have q1:=(r1.frz.lset p.ty (VR.plain (K:=a1G K1) (v:=.bool true) rfl)).lset p.tz (VR.plain (K:=a1G K1) (v:=.bool false) rfl)
     simpa [Act.put] using q1
   · exact (hg.mono st.le).frz
   · rw [O5,O5,d1,hds]
   · intro i hi
     rw [fz1] at hi
     rcases fz2 i with ⟨_,e⟩ | ⟨cs,cur,ro,e,_⟩
     · exact e
     · rw [hfr1 i hi] at e; cases e
 · refine tail false w2 _ ?_
   show ((Code.cond (.tmp p.tz) .ret .skip).wpIn Fence.wide (m+1) P Q) _ w2
   refine wpIn_cond_true (a4L (by rw [b8J]; omega)) (wpIn_ret (hx _ _ (log.map (·.2) ++ [vs]) (by simp) hJx ?_))
   rw [O5,O5,d1,hds]
end
end Go.V
end
