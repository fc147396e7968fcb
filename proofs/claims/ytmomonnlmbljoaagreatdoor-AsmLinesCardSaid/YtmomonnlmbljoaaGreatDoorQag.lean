import Derived.Test.YtmomonnlmbljoaaGreatDoorProg
import Derived.KernelRfl
import Derived.Test.YtmomonnlmbljoaaGreatDoorQaf
section
noncomputable section
namespace Go.V
open Go.RowKit (Below)
abbrev a4i:=List (List Value)
def b1S (vs:a4i):Nat → Trie VObj → Trie VObj:=
 List.rec (motive:=fun _=>Nat → Trie VObj → Trie VObj) (fun _ t=>t)
  (fun v _ ih i t=>Trie.putK (some (.cells (a2m (fun x=>(x, 0)) v) 0 true)) (i + 1) t i fun t=>ih (i + 1) t) vs
def a5f (vs:a4i):S:=⟨M4 vs,b1S vs 0 .leaf, [], []⟩
structure LaidV (vs:a4i) (w:World):Prop where
 size:vs.length ≤ w.heap.size
 cell:∀ (g:Nat) (l:List Value),vs[g]?=some l → ∀ (off:Nat) v,l[off]?=some v → w.cell? ⟨g,off,none⟩=some v
 row:∀ (g:Nat) (l:List Value),vs[g]?=some l → l ≠ [] → ∃ t fz,w.heap[g]?=some (.cells ⟨l⟩ t fz)
theorem LaidV.below {vs:a4i} {B:Nat} {w w':World} (h:LaidV vs w) (b:Below B w w') (hB:vs.length ≤ B):LaidV vs w':=
 ⟨Nat.le_trans h.size b.size,fun g l hg off v hv=>by
  have hlt:g < vs.length:=(List.getElem?_eq_some_iff.1 hg).1
  rw [show w'.cell? ⟨g,off,none⟩=w.cell? ⟨g,off,none⟩ from World.cell?_of_block (w:=w) (b.block g (by omega))]
  exact h.cell g l hg off v hv,fun g l hg hl=>by
  have hlt:g < vs.length:=(List.getElem?_eq_some_iff.1 hg).1
  rw [b.block g (by omega)]
  exact h.row g l hg hl⟩
theorem b8M (vs:a4i):∀ (i:Nat) (t:Trie VObj) (j:Nat),(b1S vs i t).get j =
 if i ≤ j then (match vs[j - i]? with | some l=>some (.cells (l.map fun x=>(x, 0)) 0 true) | none=>t.get j) else t.get j:=by
 induction vs with
 | nil=>intro i t j; show t.get j=_; split <;> simp
 | cons v vs ih=>
   intro i t j
   show (Trie.putK (some (.cells (a2m (fun x=>(x, 0)) v) 0 true)) (i + 1) t i fun t=>b1S vs (i + 1) t).get j=_
   rw [Trie.putK_eq,ih,a3X]
   by_cases h1:i + 1 ≤ j
   · rw [if_pos h1,if_pos (by omega),show j - i=(j - (i + 1)) + 1 by omega,List.getElem?_cons_succ]
     cases vs[j - (i + 1)]? with
     | some l=>rfl
     | none=>simp only; rw [Trie.get_put _ _ _ _ (by omega),if_neg (by omega)]
   · rw [if_neg h1]
     by_cases h2:i ≤ j
     · obtain rfl:j=i:=by omega
       rw [if_pos h2,Trie.get_put _ _ _ _ (by omega),if_pos rfl]
       simp
     · rw [if_neg h2,Trie.get_put _ _ _ _ (by omega),if_neg (by omega)]
section
variable {P:Program} {T:Tab} {w:World} {vs:a4i}
def a6L (vs:a4i):KM:=fun b g=>if b < vs.length ∧ g=0 then some ⟨b, 0, 0, 0,false⟩ else none
theorem a4U {b g:Nat} {l:Loc} (h:a6L vs b g=some l):b < vs.length ∧ g=0 ∧ l=⟨b, 0, 0, 0,false⟩:=by
 unfold a6L at h
 split at h
 · rename_i q; cases h; exact ⟨q.1,q.2,rfl⟩
 · cases h
theorem a4c (j:Nat):(a5f vs).h.get j=match vs[j]? with | some l=>some (.cells (l.map fun x=>(x, 0)) 0 true) | none=>none:=by
 show (b1S vs 0 .leaf).get j=_
 rw [b8M,if_pos (Nat.zero_le _),Nat.sub_zero]
 cases vs[j]? with
 | some l=>rfl
 | none=>exact Trie.get_leaf j
theorem a9g {R:Nat → Prop} (hR:∀ k,w.heap.size ≤ k → R k) (hR0:∀ k,k < vs.length → R k) (hL:LaidV vs w) (hp:∀ l ∈ vs, ∀ v ∈ l,plain v=true):Sim w.heap.size ⟨w,R⟩ (a6L vs) (a5f vs).h w:=by
 have hcs:∀ b cs cur ro,(a5f vs).h.get b=some (.cells cs cur ro) → ∃ l,vs[b]?=some l ∧ cs=l.map (fun x=>(x, 0)) ∧ cur=0 ∧ ro=true:=by
  intro b cs cur ro h
  rw [a4c] at h
  cases q:vs[b]? with
  | none=>rw [q] at h; cases h
  | some l=>rw [q] at h; cases h; exact ⟨l,rfl,rfl,rfl,rfl⟩
 refine ⟨⟨Nat.le_refl _,hR⟩,Below.refl _ _, ?_, ?_, ?_, ?_, ?_, ?_, ?_, ?_, ?_, ?_,fun b g l h _=>(a4U h).2.1⟩
 · intro b g l h
   obtain ⟨h1,_,rfl⟩:=a4U h
   exact ⟨Nat.lt_of_lt_of_le h1 hL.size,hR0 _ h1⟩
 · intro b g l h
   obtain ⟨h1,_,rfl⟩:=a4U h
   rw [a4c,List.getElem?_eq_getElem h1]
   exact ⟨_,rfl⟩
 · intro b g l h ho
   obtain ⟨_,_,rfl⟩:=a4U h
   cases ho
 · intro b g l b' g' l' h _ _ ho
   obtain ⟨_,_,rfl⟩:=a4U h
   cases ho
 · intro b g l g' l' h h'
   obtain ⟨_,_,rfl⟩:=a4U h
   obtain ⟨_,_,rfl⟩:=a4U h'
   exact ⟨rfl,fun _=>rfl⟩
 · intro b g l cs cur ro h ho
   obtain ⟨_,_,rfl⟩:=a4U h
   cases ho
 · intro b cs cur ro h
   obtain ⟨l,h1,rfl,rfl,rfl⟩:=hcs b cs cur ro h
   refine ⟨fun g l' q=>?_,fun g hg=>⟨⟨b, 0, 0, 0,false⟩, ?_⟩,fun c hc=>?_⟩
   · obtain ⟨_,rfl,rfl⟩:=a4U q
     exact ⟨Nat.le_refl _,fun e=>by cases e⟩
   · unfold a6L; rw [if_pos ⟨(List.getElem?_eq_some_iff.1 h1).1,Nat.le_zero.1 hg⟩]
   · obtain ⟨x,_,rfl⟩:=List.mem_map.1 hc
     exact Nat.le_refl _
 · intro b cs cur ro g l h hk off v st hv hst hlo
   obtain ⟨l',h1,rfl,rfl,rfl⟩:=hcs b cs cur ro h
   obtain ⟨_,rfl,rfl⟩:=a4U hk
   rw [List.getElem?_map] at hv
   cases q:l'[off]? with
   | none=>rw [q] at hv; cases hv
   | some x=>
     rw [q] at hv
     cases hv
     refine ⟨v, ?_,.plain (hp l' (List.mem_of_getElem? h1) v (List.mem_of_getElem? q))⟩
     show w.cell? ⟨b, 0 + (off - 0),none⟩=some v
     rw [Nat.zero_add,Nat.sub_zero]
     exact hL.cell b l' h1 off v q
 · intro b es h
   rw [a4c] at h
   cases q:vs[b]? with
   | none=>rw [q] at h; cases h
   | some l=>rw [q] at h; cases h
 · intro b x pos h
   rw [a4c] at h
   cases q:vs[b]? with
   | none=>rw [q] at h; cases h
   | some l=>rw [q] at h; cases h
theorem b0u (h:T.ng ≤ vs.length):GK T (a6L vs):=fun g hg=>
 ⟨⟨g, 0, 0, 0,false⟩,by unfold a6L; rw [if_pos ⟨by omega,rfl⟩],rfl,rfl,rfl⟩
def a4P (P:Program) (T:Tab) (vs:a4i) (ext:Nat → Option (List Value → M Value)):Prop:=
 ∀ B0 w0,LaidV vs w0.w → vs.length ≤ B0 → b5t P T B0 w0 ext
theorem b8R:a4P P T vs (fun _=>none):=fun _ _ _ _=>⟨fun _ _ h=>(by cases h),fun _ _ h=>(by cases h)⟩
def a7d (P:Program) (vs:a4i) (f:Nat) (args:List Value) (v:Value):Prop:=
 ∀ w,LaidV vs w → (callFunc f args.toArray).run P w=.ok (.enter f args.toArray) w ∧ Calls P f args.toArray w fun e w'=>e=.returned v ∧ Below w.heap.size w w'
theorem a2d {f:Nat} {fn:Func} {c:Code} {args:Array Value} (hPf:P.funcs[f]?=some fn) (hnum:(fn.name == "runtime.NumGoroutine")=false) (hb:fn.body=some c) :
 (callFunc f args).run P w=.ok (.enter f args) w:=by
 unfold callFunc
 simp [hPf,hb]
 simpa using hnum
theorem b1a {K:KM} {l:List Value} (h:a0N (a0y 8) l=true):VRL K l l:=
 ⟨rfl,fun i v' v h1 h2=>by
  rw [h1] at h2; cases h2
  exact a3h 8 _ ((a1a _ _).1 h _ (List.mem_of_getElem? h1))⟩
theorem b8J (hT:TabOk P T) (hM:P.follows .mixedOrders=true) (hng:T.ng ≤ vs.length) (hp:∀ l ∈ vs, ∀ v ∈ l,plain v=true)
 {ext:Nat → Option (List Value → M Value)} (hE:a4P P T vs ext) {n f:Nat} {fn:Func} {c:Code} {args:List Value} {v:Value} {s':S}
 (hPf:P.funcs[f]?=some fn) (hnum:(fn.name == "runtime.NumGoroutine")=false) (hb:fn.body=some c)
 (ha:a0N (a0y 8) args=true) (hv:a0y 8 v=true) (h:a7l P T ext n f args (a5f vs)=some (v,s')):a7d P vs f args v:=by
 intro w hL
 have hE':=hE w.heap.size ⟨w,fun _=>True⟩ hL hL.size
 refine ⟨a2d hPf hnum hb, ?_⟩
 rcases b1l hT hM hE' n f args (a5f vs) v s' w (a6L vs) args h (a9g (fun _ _=>trivial) (fun _ _=>trivial) hL hp) (b0u hng) (fun i hi _=>by
  rw [a4c]
  have:vs.length ≤ i:=by have:=hi; unfold a5f at this; rw [a0m] at this; exact this
  rw [List.getElem?_eq_none this]) (b1a ha) with ⟨v',w',K',q1,_⟩ | ⟨_,q⟩
 · rw [a2d hPf hnum hb] at q1; cases q1
 · refine q.mono fun e w' ⟨v',K',e1,st,r⟩=>?_
   rw [e1,r.eq_of_noAddr 8 hv]
   exact ⟨rfl,st.sim.below⟩
def a8U (ext:Nat → Option (List Value → M Value)) (f:Nat) (Q6:List Value → Option Value):Nat → Option (List Value → M Value):=fun g=>match Nat.beq g f with
 | true=>some fun args=>M.lift (Q6 args)
 | false=>ext g
theorem a8L {ext:Nat → Option (List Value → M Value)} (hE:a4P P T vs ext) {f:Nat} {Q6:List Value → Option Value}
 (ht:∀ args v,Q6 args=some v → a0N (a0y 8) args=true ∧ a0y 8 v=true ∧ a7d P vs f args v):a4P P T vs (a8U ext f Q6):=by
 intro B0 w0 hL hB
 have h0:=hE B0 w0 hL hB
 constructor
 · intro g m hm aS9
   unfold a8U at hm
   cases hb:Nat.beq g f with
   | true=>rw [hb] at hm; cases hm; exact Fr.lift _
   | false=>rw [hb] at hm; exact h0.1 g m hm aS9
 · intro g m hm aS9 s v s' w K vs' h S hg F hvs
   unfold a8U at hm
   cases hb:Nat.beq g f with
   | true=>
     rw [hb] at hm
     cases hm
     obtain rfl:=Nat.eq_of_beq_eq_true hb
     right
     obtain ⟨e1,e2⟩:=a6g h
     obtain ⟨t1,t2,t3⟩:=ht aS9 v e1
     have hvv:vs'=aS9:=by
      apply List.ext_getElem?
      intro i
      by_cases hi:i < aS9.length
      · have hi':i < vs'.length:=by rw [hvs.len]; exact hi
        have r:=hvs.at_ i _ _ (List.getElem?_eq_getElem hi') (List.getElem?_eq_getElem hi)
        rw [List.getElem?_eq_getElem hi',List.getElem?_eq_getElem hi,r.eq_of_noAddr 8 ((a1a _ _).1 t1 aS9[i] (List.getElem_mem hi))]
      · rw [List.getElem?_eq_none (by rw [hvs.len]; omega),List.getElem?_eq_none (by omega)]
     rw [hvv]
     obtain ⟨c1,c2⟩:=t3 w (hL.below S.below hB)
     refine ⟨c1,c2.mono fun e w' ⟨q1,q2⟩=>⟨v,K,q1,⟨KM.le_refl K,fun _ _ _=>rfl, ?_⟩,a3h 8 v t2⟩⟩
     subst e2
     exact a6P S ⟨q2.os,q2.tape,q2.output,q2.size,q2.block⟩
   | false=>rw [hb] at hm; exact h0.2 g m hm aS9 s v s' w K vs' h S hg F hvs
end
end Go.V
end
section
noncomputable section
namespace Go.V
def Trie.items {α:Type} (t:Trie α):List (Nat × α):=
 Trie.rec (motive:=fun _=>List (Nat × α)) [] (fun v _ _ l r=>M6 (match v with | some v=>[(0,v)] | none=>[]) (M6 (a2m (fun x=>(2 * x.1 + 1,x.2)) l) (a2m (fun x=>(2 * x.1 + 2,x.2)) r))) t
theorem Trie.mem_items {α:Type} {t:Trie α}:∀ {k:Nat} {v:α},t.get k=some v → (k,v) ∈ t.items:=by
 induction t with
 | leaf=>intro k v h; rw [Trie.get_leaf] at h; cases h
 | node o l r ihl ihr=>
   intro k v h
   show (k,v) ∈ M6 (match o with | some v=>[(0,v)] | none=>[]) (M6 (a2m (fun x=>(2 * x.1 + 1,x.2)) l.items) (a2m (fun x=>(2 * x.1 + 2,x.2)) r.items))
   simp only [M7,a3X,List.mem_append,List.mem_map]
   cases k with
   | zero=>
     rw [Trie.get_node_zero] at h
     subst h
     left; simp
   | succ k=>
     right
     rw [Trie.get_node_succ] at h
     by_cases hk:k % 2=0
     · rw [if_pos hk] at h
       exact Or.inl ⟨(k / 2,v),ihl h,by simp; omega⟩
     · rw [if_neg hk] at h
       exact Or.inr ⟨(k / 2,v),ihr h,by simp; omega⟩
theorem c3d {P:Program} {T:Tab}
 (h1:T.types.items.map (fun x=>(P.info? x.1).map fun i=>(i.size,i.bytes,i.zero))=T.types.items.map (fun x=>some (x.2.size,x.2.bytes,some x.2.zero)))
 (h2:T.types.items.map (fun x=>P.underlying x.1)=T.types.items.map (fun x=>some x.2.und))
 (h3:(T.types.items.all fun x=>x.2.zero.cells.size == x.2.size)=true)
 (h4:T.funcs.items.map (fun x=>(P.funcs[x.1]?,x.2.name == "runtime.NumGoroutine"))=T.funcs.items.map (fun x=>(some x.2,false))):TabOk P T:=by
 have inj:∀ {α β:Type} {f g:α → β} {l:List α},l.map f=l.map g → ∀ x ∈ l,f x=g x:=fun h x hx=>by
  exact List.map_inj_left.1 h x hx
 constructor
 · intro t i h
   have hm:=Trie.mem_items h
   have e1:=inj h1 _ hm
   have e2:=inj h2 _ hm
   have e3:=List.all_eq_true.1 h3 _ hm
   dsimp only at e1 e2 e3
   cases hi:P.info? t with
   | none=>rw [hi] at e1; cases e1
   | some info=>
     rw [hi] at e1
     simp only [Option.map_some,Option.some.injEq,Prod.mk.injEq] at e1
     exact ⟨info,rfl,e2,e1.1,e1.2.1,e1.2.2,by simpa using e3⟩
 · intro f fn h
   have e:=inj h4 _ (Trie.mem_items h)
   simp only [Prod.mk.injEq] at e
   exact e
end Go.V
end
section
namespace Go.Proofs.YtmomonnlmbljoaaGreatDoor
open Go.V
noncomputable def J5 (i:TypeInfo) (u:TypeDesc):TI:=⟨u,i.size,i.bytes,i.zero.getD undef⟩
noncomputable def ti0:TI:=J5 Go.Proofs.Tryz.t0 Go.Proofs.Tryz.t0.desc
noncomputable def ti1:TI:=J5 Go.Proofs.Tryz.t1 Go.Proofs.Tryz.t1.desc
noncomputable def ti2:TI:=J5 Go.Proofs.Tryz.t2 Go.Proofs.Tryz.t2.desc
noncomputable def ti3:TI:=J5 Go.Proofs.Tryz.t3 Go.Proofs.Tryz.t3.desc
noncomputable def ti4:TI:=J5 Go.Proofs.Tryz.t4 Go.Proofs.Tryz.t4.desc
noncomputable def ti5:TI:=J5 Go.Proofs.Tryz.t5 Go.Proofs.Tryz.t5.desc
noncomputable def ti6:TI:=J5 Go.Proofs.Tryz.t6 Go.Proofs.Tryz.t5.desc
noncomputable def ti7:TI:=J5 Go.Proofs.Tryz.t7 Go.Proofs.Tryz.t7.desc
noncomputable def ti8:TI:=J5 Go.Proofs.Tryz.t8 Go.Proofs.Tryz.t7.desc
noncomputable def ti9:TI:=J5 Go.Proofs.Tryz.t9 Go.Proofs.Tryz.t9.desc
noncomputable def e0J:TI:=J5 Go.Proofs.Tryz.t10 Go.Proofs.Tryz.t9.desc
noncomputable def e1Y:TI:=J5 Go.Proofs.Tryz.t11 Go.Proofs.Tryz.t9.desc
noncomputable def e1T:TI:=J5 Go.Proofs.Tryz.t12 Go.Proofs.Tryz.t12.desc
noncomputable def e0H:TI:=J5 Go.Proofs.Tryz.t13 Go.Proofs.Tryz.t13.desc
noncomputable def e0y:TI:=J5 Go.Proofs.Tryz.t14 Go.Proofs.Tryz.t13.desc
noncomputable def e0v:TI:=J5 Go.Proofs.Tryz.t15 Go.Proofs.Tryz.t15.desc
noncomputable def e3t:TI:=J5 Go.Proofs.Tryz.t16 Go.Proofs.Tryz.t16.desc
noncomputable def e2X:TI:=J5 Go.Proofs.Tryz.t17 Go.Proofs.Tryz.t17.desc
noncomputable def e2a:TI:=J5 Go.Proofs.Tryz.t18 Go.Proofs.Tryz.t18.desc
noncomputable def e0x:TI:=J5 Go.Proofs.Tryz.t19 Go.Proofs.Tryz.t18.desc
noncomputable def e2Z:TI:=J5 Go.Proofs.Tryz.t20 Go.Proofs.Tryz.t20.desc
noncomputable def e2I:TI:=J5 Go.Proofs.Tryz.t21 Go.Proofs.Tryz.t21.desc
noncomputable def e1U:TI:=J5 Go.Proofs.Tryz.t22 Go.Proofs.Tryz.t3.desc
noncomputable def e1I:TI:=J5 Go.Proofs.Tryz.t23 Go.Proofs.Tryz.t23.desc
noncomputable def e1W:TI:=J5 Go.Proofs.Tryz.t24 Go.Proofs.Tryz.t3.desc
noncomputable def e1S:TI:=J5 Go.Proofs.Tryz.t25 Go.Proofs.Tryz.t25.desc
noncomputable def c3r:TI:=J5 Go.Proofs.Tryz.t26 Go.Proofs.Tryz.t25.desc
noncomputable def e1K:TI:=J5 Go.Proofs.Tryz.t27 Go.Proofs.Tryz.t27.desc
noncomputable def e3s:TI:=J5 Go.Proofs.Tryz.t28 Go.Proofs.Tryz.t28.desc
noncomputable def e0S:TI:=J5 Go.Proofs.Tryz.t29 Go.Proofs.Tryz.t29.desc
noncomputable def e3f:TI:=J5 Go.Proofs.Tryz.t30 Go.Proofs.Tryz.t29.desc
noncomputable def e2v:TI:=J5 Go.Proofs.Tryz.t31 Go.Proofs.Tryz.t31.desc
noncomputable def e1R:TI:=J5 Go.Proofs.Tryz.t32 Go.Proofs.Tryz.t32.desc
noncomputable def e1o:TI:=J5 Go.Proofs.Tryz.t33 Go.Proofs.Tryz.t33.desc
noncomputable def e2B:TI:=J5 Go.Proofs.Tryz.t34 Go.Proofs.Tryz.t34.desc
noncomputable def e0z:TI:=J5 Go.Proofs.Tryz.t35 Go.Proofs.Tryz.t35.desc
noncomputable def e2O:TI:=J5 Go.Proofs.Tryz.t36 Go.Proofs.Tryz.t36.desc
noncomputable def e3c:TI:=J5 Go.Proofs.Tryz.t37 Go.Proofs.Tryz.t37.desc
noncomputable def e1V:TI:=J5 Go.Proofs.Tryz.t38 Go.Proofs.Tryz.t38.desc
noncomputable def e2x:TI:=J5 Go.Proofs.Tryz.t39 Go.Proofs.Tryz.t39.desc
noncomputable def e1P:TI:=J5 Go.Proofs.Tryz.t40 Go.Proofs.Tryz.t40.desc
noncomputable def e1l:TI:=J5 Go.Proofs.Tryz.t41 Go.Proofs.Tryz.t3.desc
noncomputable def e2l:TI:=J5 Go.Proofs.Tryz.t42 Go.Proofs.Tryz.t42.desc
noncomputable def e2E:TI:=J5 Go.Proofs.Tryz.t43 Go.Proofs.Tryz.t43.desc
noncomputable def e3n:TI:=J5 Go.Proofs.Tryz.t44 Go.Proofs.Tryz.t44.desc
noncomputable def e2Y:TI:=J5 Go.Proofs.Tryz.t45 Go.Proofs.Tryz.t45.desc
noncomputable def e0Q:TI:=J5 Go.Proofs.Tryz.t46 Go.Proofs.Tryz.t46.desc
noncomputable def e2n:TI:=J5 Go.Proofs.Tryz.t47 Go.Proofs.Tryz.t47.desc
noncomputable def e2i:TI:=J5 Go.Proofs.Tryz.t48 Go.Proofs.Tryz.t48.desc
noncomputable def e2r:TI:=J5 Go.Proofs.Tryz.t49 Go.Proofs.Tryz.t49.desc
noncomputable def e0I:TI:=J5 Go.Proofs.Tryz.t50 Go.Proofs.Tryz.t50.desc
noncomputable def e2d:TI:=J5 Go.Proofs.Tryz.t51 Go.Proofs.Tryz.t51.desc
noncomputable def e0V:TI:=J5 Go.Proofs.Tryz.t52 Go.Proofs.Tryz.t52.desc
noncomputable def e0F:TI:=J5 Go.Proofs.Tryz.t53 Go.Proofs.Tryz.t53.desc
noncomputable def e2P:TI:=J5 Go.Proofs.Tryz.t54 Go.Proofs.Tryz.t53.desc
noncomputable def e2h:TI:=J5 Go.Proofs.Tryz.t55 Go.Proofs.Tryz.t55.desc
noncomputable def e2q:TI:=J5 Go.Proofs.Tryz.t56 Go.Proofs.Tryz.t56.desc
noncomputable def e3g:TI:=J5 Go.Proofs.Tryz.t57 Go.Proofs.Tryz.t57.desc
noncomputable def e0P:TI:=J5 Go.Proofs.Tryz.t58 Go.Proofs.Tryz.t58.desc
noncomputable def e1C:TI:=J5 Go.Proofs.Tryz.t59 Go.Proofs.Tryz.t59.desc
noncomputable def e2c:TI:=J5 Go.Proofs.Tryz.t60 Go.Proofs.Tryz.t59.desc
noncomputable def e0R:TI:=J5 Go.Proofs.Tryz.t61 Go.Proofs.Tryz.t61.desc
noncomputable def e3h:TI:=J5 Go.Proofs.Tryz.t62 Go.Proofs.Tryz.t62.desc
noncomputable def e3o:TI:=J5 Go.Proofs.Tryz.t63 Go.Proofs.Tryz.t63.desc
noncomputable def e0W:TI:=J5 Go.Proofs.Tryz.t64 Go.Proofs.Tryz.t64.desc
noncomputable def e1z:TI:=J5 Go.Proofs.Tryz.t65 Go.Proofs.Tryz.t65.desc
noncomputable def e2R:TI:=J5 Go.Proofs.Tryz.t66 Go.Proofs.Tryz.t66.desc
noncomputable def e2z:TI:=J5 Go.Proofs.Tryz.t67 Go.Proofs.Tryz.t67.desc
noncomputable def e1n:TI:=J5 Go.Proofs.Tryz.t68 Go.Proofs.Tryz.t68.desc
noncomputable def e0O:TI:=J5 Go.Proofs.Tryz.t69 Go.Proofs.Tryz.t69.desc
noncomputable def e1F:TI:=J5 Go.Proofs.Tryz.t70 Go.Proofs.Tryz.t70.desc
noncomputable def e0C:TI:=J5 Go.Proofs.Tryz.t71 Go.Proofs.Tryz.t71.desc
noncomputable def e2u:TI:=J5 Go.Proofs.Tryz.t72 Go.Proofs.Tryz.t72.desc
noncomputable def e2t:TI:=J5 Go.Proofs.Tryz.t73 Go.Proofs.Tryz.t73.desc
noncomputable def e1Z:TI:=J5 Go.Proofs.Tryz.t74 Go.Proofs.Tryz.t74.desc
noncomputable def e3a:TI:=J5 Go.Proofs.Tryz.t75 Go.Proofs.Tryz.t75.desc
noncomputable def e2V:TI:=J5 Go.Proofs.Tryz.t76 Go.Proofs.Tryz.t3.desc
noncomputable def e3d:TI:=J5 Go.Proofs.Tryz.t77 Go.Proofs.Tryz.t77.desc
noncomputable def e2m:TI:=J5 Go.Proofs.Tryz.t78 Go.Proofs.Tryz.t78.desc
noncomputable def e1s:TI:=J5 Go.Proofs.Tryz.t79 Go.Proofs.Tryz.t79.desc
noncomputable def e1i:TI:=J5 Go.Proofs.Tryz.t80 Go.Proofs.Tryz.t80.desc
noncomputable def e0A:TI:=J5 Go.Proofs.Tryz.t81 Go.Proofs.Tryz.t81.desc
noncomputable def e2M:TI:=J5 Go.Proofs.Tryz.t82 Go.Proofs.Tryz.t82.desc
noncomputable def e2D:TI:=J5 Go.Proofs.Tryz.t83 Go.Proofs.Tryz.t83.desc
noncomputable def e2g:TI:=J5 Go.Proofs.Tryz.t84 Go.Proofs.Tryz.t84.desc
noncomputable def e2k:TI:=J5 Go.Proofs.Tryz.t85 Go.Proofs.Tryz.t85.desc
noncomputable def e2e:TI:=J5 Go.Proofs.Tryz.t86 Go.Proofs.Tryz.t86.desc
noncomputable def e3k:TI:=J5 Go.Proofs.Tryz.t87 Go.Proofs.Tryz.t87.desc
noncomputable def e1g:TI:=J5 Go.Proofs.Tryz.t88 Go.Proofs.Tryz.t88.desc
noncomputable def e3r:TI:=J5 Go.Proofs.Tryz.t89 Go.Proofs.Tryz.t89.desc
noncomputable def e0D:TI:=J5 Go.Proofs.Tryz.t90 Go.Proofs.Tryz.t90.desc
noncomputable def e1r:TI:=J5 Go.Proofs.Tryz.t91 Go.Proofs.Tryz.t91.desc
noncomputable def e2C:TI:=J5 Go.Proofs.Tryz.t92 Go.Proofs.Tryz.t91.desc
noncomputable def e2f:TI:=J5 Go.Proofs.Tryz.t93 Go.Proofs.Tryz.t93.desc
noncomputable def e1Q:TI:=J5 Go.Proofs.Tryz.t94 Go.Proofs.Tryz.t94.desc
noncomputable def e1M:TI:=J5 Go.Proofs.Tryz.t95 Go.Proofs.Tryz.t95.desc
noncomputable def e1E:TI:=J5 Go.Proofs.Tryz.t96 Go.Proofs.Tryz.t96.desc
noncomputable def e1G:TI:=J5 Go.Proofs.Tryz.t97 Go.Proofs.Tryz.t96.desc
noncomputable def e2K:TI:=J5 Go.Proofs.Tryz.t98 Go.Proofs.Tryz.t98.desc
noncomputable def e2F:TI:=J5 Go.Proofs.Tryz.t99 Go.Proofs.Tryz.t99.desc
noncomputable def d2V:TI:=J5 Go.Proofs.Tryz.t100 Go.Proofs.Tryz.t100.desc
noncomputable def d2n:TI:=J5 Go.Proofs.Tryz.t101 Go.Proofs.Tryz.t101.desc
noncomputable def d7H:TI:=J5 Go.Proofs.Tryz.t102 Go.Proofs.Tryz.t102.desc
noncomputable def d3M:TI:=J5 Go.Proofs.Tryz.t103 Go.Proofs.Tryz.t103.desc
noncomputable def d4G:TI:=J5 Go.Proofs.Tryz.t104 Go.Proofs.Tryz.t104.desc
noncomputable def d7L:TI:=J5 Go.Proofs.Tryz.t105 Go.Proofs.Tryz.t104.desc
noncomputable def d5D:TI:=J5 Go.Proofs.Tryz.t106 Go.Proofs.Tryz.t106.desc
noncomputable def d8n:TI:=J5 Go.Proofs.Tryz.t107 Go.Proofs.Tryz.t107.desc
noncomputable def d7B:TI:=J5 Go.Proofs.Tryz.t108 Go.Proofs.Tryz.t108.desc
noncomputable def d2Y:TI:=J5 Go.Proofs.Tryz.t109 Go.Proofs.Tryz.t109.desc
noncomputable def d8z:TI:=J5 Go.Proofs.Tryz.t110 Go.Proofs.Tryz.t110.desc
noncomputable def d3j:TI:=J5 Go.Proofs.Tryz.t111 Go.Proofs.Tryz.t111.desc
noncomputable def d3i:TI:=J5 Go.Proofs.Tryz.t112 Go.Proofs.Tryz.t112.desc
noncomputable def d4I:TI:=J5 Go.Proofs.Tryz.t113 Go.Proofs.Tryz.t113.desc
noncomputable def d8F:TI:=J5 Go.Proofs.Tryz.t114 Go.Proofs.Tryz.t114.desc
noncomputable def d5i:TI:=J5 Go.Proofs.Tryz.t115 Go.Proofs.Tryz.t115.desc
noncomputable def d7g:TI:=J5 Go.Proofs.Tryz.t116 Go.Proofs.Tryz.t115.desc
noncomputable def d2I:TI:=J5 Go.Proofs.Tryz.t117 Go.Proofs.Tryz.t3.desc
noncomputable def d5M:TI:=J5 Go.Proofs.Tryz.t118 Go.Proofs.Tryz.t118.desc
noncomputable def d9j:TI:=J5 Go.Proofs.Tryz.t119 Go.Proofs.Tryz.t118.desc
noncomputable def d4c:TI:=J5 Go.Proofs.Tryz.t120 Go.Proofs.Tryz.t120.desc
noncomputable def d7M:TI:=J5 Go.Proofs.Tryz.t121 Go.Proofs.Tryz.t121.desc
noncomputable def d2k:TI:=J5 Go.Proofs.Tryz.t122 Go.Proofs.Tryz.t122.desc
noncomputable def d6s:TI:=J5 Go.Proofs.Tryz.t123 Go.Proofs.Tryz.t123.desc
noncomputable def d9d:TI:=J5 Go.Proofs.Tryz.t124 Go.Proofs.Tryz.t124.desc
noncomputable def d2u:TI:=J5 Go.Proofs.Tryz.t125 Go.Proofs.Tryz.t125.desc
noncomputable def d3a:TI:=J5 Go.Proofs.Tryz.t126 Go.Proofs.Tryz.t126.desc
noncomputable def d2H:TI:=J5 Go.Proofs.Tryz.t127 Go.Proofs.Tryz.t126.desc
noncomputable def d2X:TI:=J5 Go.Proofs.Tryz.t128 Go.Proofs.Tryz.t128.desc
noncomputable def d5P:TI:=J5 Go.Proofs.Tryz.t129 Go.Proofs.Tryz.t128.desc
noncomputable def d6g:TI:=J5 Go.Proofs.Tryz.t130 Go.Proofs.Tryz.t130.desc
noncomputable def d8T:TI:=J5 Go.Proofs.Tryz.t131 Go.Proofs.Tryz.t131.desc
noncomputable def d8d:TI:=J5 Go.Proofs.Tryz.t132 Go.Proofs.Tryz.t132.desc
noncomputable def d5n:TI:=J5 Go.Proofs.Tryz.t133 Go.Proofs.Tryz.t133.desc
noncomputable def d6c:TI:=J5 Go.Proofs.Tryz.t134 Go.Proofs.Tryz.t134.desc
noncomputable def d8L:TI:=J5 Go.Proofs.Tryz.t135 Go.Proofs.Tryz.t135.desc
noncomputable def d5H:TI:=J5 Go.Proofs.Tryz.t136 Go.Proofs.Tryz.t136.desc
noncomputable def d7v:TI:=J5 Go.Proofs.Tryz.t137 Go.Proofs.Tryz.t136.desc
noncomputable def d1D:TI:=J5 Go.Proofs.Tryz.t138 Go.Proofs.Tryz.t138.desc
noncomputable def d8a:TI:=J5 Go.Proofs.Tryz.t139 Go.Proofs.Tryz.t139.desc
noncomputable def d2Z:TI:=J5 Go.Proofs.Tryz.t140 Go.Proofs.Tryz.t140.desc
noncomputable def d5O:TI:=J5 Go.Proofs.Tryz.t141 Go.Proofs.Tryz.t141.desc
noncomputable def a7D:TI:=J5 Go.Proofs.Tryz.t142 Go.Proofs.Tryz.t141.desc
noncomputable def d6e:TI:=J5 Go.Proofs.Tryz.t143 Go.Proofs.Tryz.t143.desc
noncomputable def d7k:TI:=J5 Go.Proofs.Tryz.t144 Go.Proofs.Tryz.t144.desc
noncomputable def d6a:TI:=J5 Go.Proofs.Tryz.t145 Go.Proofs.Tryz.t145.desc
noncomputable def d4V:TI:=J5 Go.Proofs.Tryz.t146 Go.Proofs.Tryz.t146.desc
noncomputable def d6P:TI:=J5 Go.Proofs.Tryz.t147 Go.Proofs.Tryz.t147.desc
noncomputable def d3n:TI:=J5 Go.Proofs.Tryz.t148 Go.Proofs.Tryz.t148.desc
noncomputable def d9r:TI:=J5 Go.Proofs.Tryz.t149 Go.Proofs.Tryz.t149.desc
noncomputable def d2j:TI:=J5 Go.Proofs.Tryz.t150 Go.Proofs.Tryz.t150.desc
noncomputable def d6L:TI:=J5 Go.Proofs.Tryz.t151 Go.Proofs.Tryz.t150.desc
noncomputable def d7y:TI:=J5 Go.Proofs.Tryz.t152 Go.Proofs.Tryz.t152.desc
noncomputable def d4K:TI:=J5 Go.Proofs.Tryz.t153 Go.Proofs.Tryz.t152.desc
noncomputable def d1s:TI:=J5 Go.Proofs.Tryz.t154 Go.Proofs.Tryz.t154.desc
noncomputable def d3v:TI:=J5 Go.Proofs.Tryz.t155 Go.Proofs.Tryz.t155.desc
noncomputable def d6S:TI:=J5 Go.Proofs.Tryz.t156 Go.Proofs.Tryz.t156.desc
noncomputable def d8s:TI:=J5 Go.Proofs.Tryz.t157 Go.Proofs.Tryz.t157.desc
noncomputable def d8E:TI:=J5 Go.Proofs.Tryz.t158 Go.Proofs.Tryz.t158.desc
noncomputable def d5o:TI:=J5 Go.Proofs.Tryz.t159 Go.Proofs.Tryz.t159.desc
noncomputable def d3m:TI:=J5 Go.Proofs.Tryz.t160 Go.Proofs.Tryz.t159.desc
noncomputable def d1T:TI:=J5 Go.Proofs.Tryz.t161 Go.Proofs.Tryz.t161.desc
noncomputable def d9m:TI:=J5 Go.Proofs.Tryz.t162 Go.Proofs.Tryz.t162.desc
noncomputable def d1R:TI:=J5 Go.Proofs.Tryz.t163 Go.Proofs.Tryz.t163.desc
noncomputable def d8J:TI:=J5 Go.Proofs.Tryz.t164 Go.Proofs.Tryz.t164.desc
noncomputable def d4j:TI:=J5 Go.Proofs.Tryz.t165 Go.Proofs.Tryz.t165.desc
noncomputable def d1L:TI:=J5 Go.Proofs.Tryz.t166 Go.Proofs.Tryz.t165.desc
noncomputable def d9s:TI:=J5 Go.Proofs.Tryz.t167 Go.Proofs.Tryz.t167.desc
noncomputable def d6J:TI:=J5 Go.Proofs.Tryz.t168 Go.Proofs.Tryz.t168.desc
noncomputable def d7q:TI:=J5 Go.Proofs.Tryz.t169 Go.Proofs.Tryz.t169.desc
noncomputable def d5t:TI:=J5 Go.Proofs.Tryz.t170 Go.Proofs.Tryz.t170.desc
noncomputable def d5I:TI:=J5 Go.Proofs.Tryz.t171 Go.Proofs.Tryz.t170.desc
noncomputable def d5R:TI:=J5 Go.Proofs.Tryz.t172 Go.Proofs.Tryz.t172.desc
noncomputable def d5x:TI:=J5 Go.Proofs.Tryz.t173 Go.Proofs.Tryz.t173.desc
noncomputable def d2b:TI:=J5 Go.Proofs.Tryz.t174 Go.Proofs.Tryz.t174.desc
noncomputable def d5p:TI:=J5 Go.Proofs.Tryz.t175 Go.Proofs.Tryz.t174.desc
noncomputable def d7A:TI:=J5 Go.Proofs.Tryz.t176 Go.Proofs.Tryz.t176.desc
noncomputable def d3B:TI:=J5 Go.Proofs.Tryz.t177 Go.Proofs.Tryz.t177.desc
noncomputable def d7J:TI:=J5 Go.Proofs.Tryz.t178 Go.Proofs.Tryz.t178.desc
noncomputable def d5B:TI:=J5 Go.Proofs.Tryz.t179 Go.Proofs.Tryz.t179.desc
noncomputable def d3T:TI:=J5 Go.Proofs.Tryz.t180 Go.Proofs.Tryz.t179.desc
noncomputable def d8P:TI:=J5 Go.Proofs.Tryz.t181 Go.Proofs.Tryz.t181.desc
noncomputable def d3g:TI:=J5 Go.Proofs.Tryz.t182 Go.Proofs.Tryz.t181.desc
noncomputable def d7F:TI:=J5 Go.Proofs.Tryz.t183 Go.Proofs.Tryz.t183.desc
noncomputable def d4s:TI:=J5 Go.Proofs.Tryz.t184 Go.Proofs.Tryz.t184.desc
noncomputable def d3N:TI:=J5 Go.Proofs.Tryz.t185 Go.Proofs.Tryz.t185.desc
noncomputable def d3f:TI:=J5 Go.Proofs.Tryz.t186 Go.Proofs.Tryz.t186.desc
noncomputable def d2U:TI:=J5 Go.Proofs.Tryz.t187 Go.Proofs.Tryz.t187.desc
noncomputable def d2s:TI:=J5 Go.Proofs.Tryz.t188 Go.Proofs.Tryz.t188.desc
noncomputable def d5v:TI:=J5 Go.Proofs.Tryz.t189 Go.Proofs.Tryz.t189.desc
noncomputable def d4Q:TI:=J5 Go.Proofs.Tryz.t190 Go.Proofs.Tryz.t189.desc
noncomputable def d5m:TI:=J5 Go.Proofs.Tryz.t191 Go.Proofs.Tryz.t191.desc
noncomputable def d6k:TI:=J5 Go.Proofs.Tryz.t192 Go.Proofs.Tryz.t192.desc
noncomputable def d3d:TI:=J5 Go.Proofs.Tryz.t193 Go.Proofs.Tryz.t193.desc
noncomputable def d3l:TI:=J5 Go.Proofs.Tryz.t194 Go.Proofs.Tryz.t194.desc
noncomputable def d5d:TI:=J5 Go.Proofs.Tryz.t195 Go.Proofs.Tryz.t195.desc
noncomputable def d3w:TI:=J5 Go.Proofs.Tryz.t196 Go.Proofs.Tryz.t196.desc
noncomputable def d8O:TI:=J5 Go.Proofs.Tryz.t197 Go.Proofs.Tryz.t197.desc
noncomputable def d1C:TI:=J5 Go.Proofs.Tryz.t198 Go.Proofs.Tryz.t198.desc
noncomputable def d5K:TI:=J5 Go.Proofs.Tryz.t199 Go.Proofs.Tryz.t199.desc
noncomputable def d4D:TI:=J5 Go.Proofs.Tryz.t200 Go.Proofs.Tryz.t200.desc
noncomputable def d2c:TI:=J5 Go.Proofs.Tryz.t201 Go.Proofs.Tryz.t201.desc
noncomputable def d7O:TI:=J5 Go.Proofs.Tryz.t202 Go.Proofs.Tryz.t202.desc
noncomputable def d9u:TI:=J5 Go.Proofs.Tryz.t203 Go.Proofs.Tryz.t203.desc
noncomputable def d8B:TI:=J5 Go.Proofs.Tryz.t204 Go.Proofs.Tryz.t204.desc
noncomputable def d1W:TI:=J5 Go.Proofs.Tryz.t205 Go.Proofs.Tryz.t205.desc
noncomputable def d7b:TI:=J5 Go.Proofs.Tryz.t206 Go.Proofs.Tryz.t206.desc
noncomputable def d4y:TI:=J5 Go.Proofs.Tryz.t207 Go.Proofs.Tryz.t207.desc
noncomputable def d5k:TI:=J5 Go.Proofs.Tryz.t208 Go.Proofs.Tryz.t208.desc
noncomputable def d3u:TI:=J5 Go.Proofs.Tryz.t209 Go.Proofs.Tryz.t209.desc
noncomputable def d3Y:TI:=J5 Go.Proofs.Tryz.t210 Go.Proofs.Tryz.t210.desc
noncomputable def d1r:TI:=J5 Go.Proofs.Tryz.t211 Go.Proofs.Tryz.t211.desc
noncomputable def d3K:TI:=J5 Go.Proofs.Tryz.t212 Go.Proofs.Tryz.t212.desc
noncomputable def d6p:TI:=J5 Go.Proofs.Tryz.t213 Go.Proofs.Tryz.t213.desc
noncomputable def d5j:TI:=J5 Go.Proofs.Tryz.t214 Go.Proofs.Tryz.t214.desc
noncomputable def d8t:TI:=J5 Go.Proofs.Tryz.t215 Go.Proofs.Tryz.t215.desc
noncomputable def d7r:TI:=J5 Go.Proofs.Tryz.t216 Go.Proofs.Tryz.t216.desc
noncomputable def d2a:TI:=J5 Go.Proofs.Tryz.t217 Go.Proofs.Tryz.t217.desc
noncomputable def d6K:TI:=J5 Go.Proofs.Tryz.t218 Go.Proofs.Tryz.t218.desc
noncomputable def d5c:TI:=J5 Go.Proofs.Tryz.t219 Go.Proofs.Tryz.t219.desc
noncomputable def d5r:TI:=J5 Go.Proofs.Tryz.t220 Go.Proofs.Tryz.t220.desc
noncomputable def d6i:TI:=J5 Go.Proofs.Tryz.t221 Go.Proofs.Tryz.t221.desc
noncomputable def d8Y:TI:=J5 Go.Proofs.Tryz.t222 Go.Proofs.Tryz.t222.desc
noncomputable def d3s:TI:=J5 Go.Proofs.Tryz.t223 Go.Proofs.Tryz.t223.desc
noncomputable def d4Y:TI:=J5 Go.Proofs.Tryz.t224 Go.Proofs.Tryz.t224.desc
noncomputable def d5g:TI:=J5 Go.Proofs.Tryz.t225 Go.Proofs.Tryz.t225.desc
noncomputable def d4C:TI:=J5 Go.Proofs.Tryz.t226 Go.Proofs.Tryz.t226.desc
noncomputable def d6C:TI:=J5 Go.Proofs.Tryz.t227 Go.Proofs.Tryz.t227.desc
noncomputable def d7I:TI:=J5 Go.Proofs.Tryz.t228 Go.Proofs.Tryz.t228.desc
noncomputable def d4S:TI:=J5 Go.Proofs.Tryz.t229 Go.Proofs.Tryz.t229.desc
noncomputable def d6l:TI:=J5 Go.Proofs.Tryz.t230 Go.Proofs.Tryz.t230.desc
noncomputable def d7C:TI:=J5 Go.Proofs.Tryz.t231 Go.Proofs.Tryz.t231.desc
noncomputable def d4E:TI:=J5 Go.Proofs.Tryz.t232 Go.Proofs.Tryz.t232.desc
noncomputable def d2O:TI:=J5 Go.Proofs.Tryz.t233 Go.Proofs.Tryz.t233.desc
noncomputable def d8i:TI:=J5 Go.Proofs.Tryz.t234 Go.Proofs.Tryz.t234.desc
noncomputable def d7h:TI:=J5 Go.Proofs.Tryz.t235 Go.Proofs.Tryz.t235.desc
noncomputable def d1H:TI:=J5 Go.Proofs.Tryz.t236 Go.Proofs.Tryz.t236.desc
noncomputable def d5q:TI:=J5 Go.Proofs.Tryz.t237 Go.Proofs.Tryz.t237.desc
noncomputable def d9b:TI:=J5 Go.Proofs.Tryz.t238 Go.Proofs.Tryz.t238.desc
noncomputable def d8f:TI:=J5 Go.Proofs.Tryz.t239 Go.Proofs.Tryz.t239.desc
noncomputable def d9n:TI:=J5 Go.Proofs.Tryz.t240 Go.Proofs.Tryz.t240.desc
noncomputable def d3z:TI:=J5 Go.Proofs.Tryz.t241 Go.Proofs.Tryz.t241.desc
noncomputable def d1j:TI:=J5 Go.Proofs.Tryz.t242 Go.Proofs.Tryz.t242.desc
noncomputable def d3h:TI:=J5 Go.Proofs.Tryz.t243 Go.Proofs.Tryz.t243.desc
noncomputable def d7l:TI:=J5 Go.Proofs.Tryz.t244 Go.Proofs.Tryz.t244.desc
noncomputable def d2f:TI:=J5 Go.Proofs.Tryz.t245 Go.Proofs.Tryz.t244.desc
noncomputable def d5z:TI:=J5 Go.Proofs.Tryz.t246 Go.Proofs.Tryz.t246.desc
noncomputable def d4o:TI:=J5 Go.Proofs.Tryz.t247 Go.Proofs.Tryz.t247.desc
noncomputable def d7N:TI:=J5 Go.Proofs.Tryz.t248 Go.Proofs.Tryz.t248.desc
noncomputable def d3q:TI:=J5 Go.Proofs.Tryz.t249 Go.Proofs.Tryz.t249.desc
noncomputable def d5J:TI:=J5 Go.Proofs.Tryz.t250 Go.Proofs.Tryz.t250.desc
noncomputable def d6h:TI:=J5 Go.Proofs.Tryz.t251 Go.Proofs.Tryz.t251.desc
noncomputable def d5Q:TI:=J5 Go.Proofs.Tryz.t252 Go.Proofs.Tryz.t252.desc
noncomputable def d1k:TI:=J5 Go.Proofs.Tryz.t253 Go.Proofs.Tryz.t253.desc
noncomputable def d6H:TI:=J5 Go.Proofs.Tryz.t254 Go.Proofs.Tryz.t254.desc
noncomputable def d3b:TI:=J5 Go.Proofs.Tryz.t255 Go.Proofs.Tryz.t255.desc
noncomputable def d9f:TI:=J5 Go.Proofs.Tryz.t256 Go.Proofs.Tryz.t256.desc
noncomputable def d2W:TI:=J5 Go.Proofs.Tryz.t257 Go.Proofs.Tryz.t257.desc
noncomputable def d7c:TI:=J5 Go.Proofs.Tryz.t258 Go.Proofs.Tryz.t258.desc
noncomputable def d4r:TI:=J5 Go.Proofs.Tryz.t259 Go.Proofs.Tryz.t258.desc
noncomputable def d6j:TI:=J5 Go.Proofs.Tryz.t260 Go.Proofs.Tryz.t260.desc
noncomputable def d4t:TI:=J5 Go.Proofs.Tryz.t261 Go.Proofs.Tryz.t261.desc
noncomputable def d9g:TI:=J5 Go.Proofs.Tryz.t262 Go.Proofs.Tryz.t261.desc
noncomputable def d8S:TI:=J5 Go.Proofs.Tryz.t263 Go.Proofs.Tryz.t263.desc
noncomputable def d5F:TI:=J5 Go.Proofs.Tryz.t264 Go.Proofs.Tryz.t264.desc
noncomputable def d6r:TI:=J5 Go.Proofs.Tryz.t265 Go.Proofs.Tryz.t264.desc
noncomputable def d1q:TI:=J5 Go.Proofs.Tryz.t266 Go.Proofs.Tryz.t266.desc
noncomputable def d1t:TI:=J5 Go.Proofs.Tryz.t267 Go.Proofs.Tryz.t267.desc
noncomputable def d4a:TI:=J5 Go.Proofs.Tryz.t268 Go.Proofs.Tryz.t268.desc
noncomputable def d1v:TI:=J5 Go.Proofs.Tryz.t269 Go.Proofs.Tryz.t269.desc
noncomputable def d6U:TI:=J5 Go.Proofs.Tryz.t270 Go.Proofs.Tryz.t270.desc
noncomputable def d7m:TI:=J5 Go.Proofs.Tryz.t271 Go.Proofs.Tryz.t271.desc
noncomputable def d4R:TI:=J5 Go.Proofs.Tryz.t272 Go.Proofs.Tryz.t272.desc
noncomputable def d2R:TI:=J5 Go.Proofs.Tryz.t273 Go.Proofs.Tryz.t273.desc
noncomputable def d8U:TI:=J5 Go.Proofs.Tryz.t274 Go.Proofs.Tryz.t273.desc
noncomputable def d2A:TI:=J5 Go.Proofs.Tryz.t275 Go.Proofs.Tryz.t275.desc
noncomputable def d6N:TI:=J5 Go.Proofs.Tryz.t276 Go.Proofs.Tryz.t276.desc
noncomputable def d7Q:TI:=J5 Go.Proofs.Tryz.t277 Go.Proofs.Tryz.t276.desc
noncomputable def d8h:TI:=J5 Go.Proofs.Tryz.t278 Go.Proofs.Tryz.t5.desc
noncomputable def d8G:TI:=J5 Go.Proofs.Tryz.t279 Go.Proofs.Tryz.t5.desc
noncomputable def d8y:TI:=J5 Go.Proofs.Tryz.t280 Go.Proofs.Tryz.t280.desc
noncomputable def d4J:TI:=J5 Go.Proofs.Tryz.t281 Go.Proofs.Tryz.t21.desc
noncomputable def d7o:TI:=J5 Go.Proofs.Tryz.t282 Go.Proofs.Tryz.t21.desc
noncomputable def d3U:TI:=J5 Go.Proofs.Tryz.t283 Go.Proofs.Tryz.t283.desc
noncomputable def d9i:TI:=J5 Go.Proofs.Tryz.t284 Go.Proofs.Tryz.t283.desc
noncomputable def c2X:Trie TI:=(.node (some ti0) (.node (some ti1) (.node (some ti3) (.node (some ti7) (.node (some e0v) (.node (some e2v) (.node (some e3o) (.node (some d2H) (.node (some d3b) .leaf .leaf) .leaf) (.node (some d5m) .leaf .leaf)) (.node (some e1M) (.node (some d5o) .leaf .leaf) (.node (some d3s) .leaf .leaf))) (.node (some e2n) (.node (some e1s) (.node (some d6e) (.node (some d7m) .leaf .leaf) .leaf) (.node (some d4y) .leaf .leaf)) (.node (some d3j) (.node (some d5p) .leaf .leaf) (.node (some d8f) .leaf .leaf)))) (.node (some e1I) (.node (some e2x) (.node (some e0C) (.node (some d8L) (.node (some d8S) .leaf .leaf) .leaf) (.node (some d5K) .leaf .leaf)) (.node (some d3M) (.node (some d9s) .leaf .leaf) (.node (some d7C) .leaf .leaf))) (.node (some e2h) (.node (some e3k) (.node (some d6L) (.node (some d8G) .leaf .leaf) .leaf) (.node (some d8t) .leaf .leaf)) (.node (some d9j) (.node (some d7F) .leaf .leaf) (.node (some d4o) .leaf .leaf))))) (.node (some e1Y) (.node (some e0x) (.node (some e0z) (.node (some e2z) (.node (some d8T) (.node (some d4r) .leaf .leaf) .leaf) (.node (some d5d) .leaf .leaf)) (.node (some e2F) (.node (some d1R) .leaf .leaf) (.node (some d6C) .leaf .leaf))) (.node (some e2d) (.node (some e2D) (.node (some d6P) (.node (some d2A) .leaf .leaf) .leaf) (.node (some d1r) .leaf .leaf)) (.node (some d5i) (.node (some d5B) .leaf .leaf) (.node (some d3h) .leaf .leaf)))) (.node (some e1K) (.node (some e2E) (.node (some e3a) (.node (some d8a) (.node (some d1t) .leaf .leaf) .leaf) (.node (some d9u) .leaf .leaf)) (.node (some d8n) (.node (some d5I) .leaf .leaf) (.node (some d7h) .leaf .leaf))) (.node (some e1C) (.node (some e1r) (.node (some d3v) (.node (some d3U) .leaf .leaf) .leaf) (.node (some d5c) .leaf .leaf)) (.node (some d6s) (.node (some d2U) .leaf .leaf) (.node (some d6h) .leaf .leaf)))))) (.node (some ti5) (.node (some ti9) (.node (some e2X) (.node (some e1o) (.node (some e1z) (.node (some d5P) (.node (some d2W) .leaf .leaf) .leaf) (.node (some d3d) .leaf .leaf)) (.node (some e1G) (.node (some d1T) .leaf .leaf) (.node (some d5g) .leaf .leaf))) (.node (some e2r) (.node (some e0A) (.node (some d6a) (.node (some d2R) .leaf .leaf) .leaf) (.node (some d3u) .leaf .leaf)) (.node (some d4I) (.node (some d3B) .leaf .leaf) (.node (some d3z) .leaf .leaf)))) (.node (some e1S) (.node (some e1l) (.node (some e2t) (.node (some d7v) (.node (some d6r) .leaf .leaf) .leaf) (.node (some d2c) .leaf .leaf)) (.node (some d7L) (.node (some d7q) .leaf .leaf) (.node (some d2O) .leaf .leaf))) (.node (some e3g) (.node (some e3r) (.node (some d4K) (.node (some d4J) .leaf .leaf) .leaf) (.node (some d2a) .leaf .leaf)) (.node (some d7M) (.node (some d3N) .leaf .leaf) (.node (some d3q) .leaf .leaf))))) (.node (some e0H) (.node (some e2I) (.node (some e3c) (.node (some e0O) (.node (some d5n) (.node (some d4t) .leaf .leaf) .leaf) (.node (some d8O) .leaf .leaf)) (.node (some d2n) (.node (some d4j) .leaf .leaf) (.node (some d4S) .leaf .leaf))) (.node (some e0F) (.node (some e2k) (.node (some d9r) (.node (some d7Q) .leaf .leaf) .leaf) (.node (some d6p) .leaf .leaf)) (.node (some d2I) (.node (some d8P) .leaf .leaf) (.node (some d2f) .leaf .leaf)))) (.node (some e0S) (.node (some e2Y) (.node (some e3d) (.node (some d5O) (.node (some d1v) .leaf .leaf) .leaf) (.node (some d1W) .leaf .leaf)) (.node (some d2Y) (.node (some d5x) .leaf .leaf) (.node (some d5q) .leaf .leaf))) (.node (some e0R) (.node (some e2f) (.node (some d8s) .leaf .leaf) (.node (some d6i) .leaf .leaf)) (.node (some d2u) (.node (some d5v) .leaf .leaf) (.node (some d1k) .leaf .leaf))))))) (.node (some ti2) (.node (some ti4) (.node (some ti8) (.node (some e3t) (.node (some e1R) (.node (some e0W) (.node (some d2X) (.node (some d9f) .leaf .leaf) .leaf) (.node (some d6k) .leaf .leaf)) (.node (some e1E) (.node (some d3m) .leaf .leaf) (.node (some d4Y) .leaf .leaf))) (.node (some e2i) (.node (some e1i) (.node (some d7k) (.node (some d4R) .leaf .leaf) .leaf) (.node (some d5k) .leaf .leaf)) (.node (some d3i) (.node (some d7A) .leaf .leaf) (.node (some d9n) .leaf .leaf)))) (.node (some e1W) (.node (some e1P) (.node (some e2u) (.node (some d5H) (.node (some d5F) .leaf .leaf) .leaf) (.node (some d4D) .leaf .leaf)) (.node (some d4G) (.node (some d6J) .leaf .leaf) (.node (some d4E) .leaf .leaf))) (.node (some e2q) (.node (some e1g) (.node (some d7y) (.node (some d8y) .leaf .leaf) .leaf) (.node (some d7r) .leaf .leaf)) (.node (some d4c) (.node (some d4s) .leaf .leaf) (.node (some d7N) .leaf .leaf))))) (.node (some e1T) (.node (some e2Z) (.node (some e2O) (.node (some e1n) (.node (some d8d) (.node (some d6j) .leaf .leaf) .leaf) (.node (some d3w) .leaf .leaf)) (.node (some d2V) (.node (some d8J) .leaf .leaf) (.node (some d7I) .leaf .leaf))) (.node (some e0V) (.node (some e2g) (.node (some d3n) (.node (some d6N) .leaf .leaf) .leaf) (.node (some d3K) .leaf .leaf)) (.node (some d7g) (.node (some d3T) .leaf .leaf) (.node (some d7l) .leaf .leaf)))) (.node (some e3s) (.node (some e3n) (.node (some e2V) (.node (some d2Z) (.node (some d4a) .leaf .leaf) .leaf) (.node (some d8B) .leaf .leaf)) (.node (some d7B) (.node (some d5R) .leaf .leaf) (.node (some d1H) .leaf .leaf))) (.node (some e2c) (.node (some e2C) (.node (some d6S) (.node (some d9i) .leaf .leaf) .leaf) (.node (some d5r) .leaf .leaf)) (.node (some d9d) (.node (some d2s) .leaf .leaf) (.node (some d5Q) .leaf .leaf)))))) (.node (some ti6) (.node (some e0J) (.node (some e2a) (.node (some e2B) (.node (some e2R) (.node (some d6g) (.node (some d7c) .leaf .leaf) .leaf) (.node (some d3l) .leaf .leaf)) (.node (some e2K) (.node (some d9m) .leaf .leaf) (.node (some d4C) .leaf .leaf))) (.node (some e0I) (.node (some e2M) (.node (some d4V) (.node (some d8U) .leaf .leaf) .leaf) (.node (some d3Y) .leaf .leaf)) (.node (some d8F) (.node (some d7J) .leaf .leaf) (.node (some d1j) .leaf .leaf)))) (.node (some c3r) (.node (some e2l) (.node (some e1Z) (.node (some d1D) (.node (some d1q) .leaf .leaf) .leaf) (.node (some d7O) .leaf .leaf)) (.node (some d5D) (.node (some d5t) .leaf .leaf) (.node (some d8i) .leaf .leaf))) (.node (some e0P) (.node (some e0D) (.node (some d1s) (.node (some d7o) .leaf .leaf) .leaf) (.node (some d6K) .leaf .leaf)) (.node (some d2k) (.node (some d3f) .leaf .leaf) (.node (some d5J) .leaf .leaf))))) (.node (some e0y) (.node (some e1U) (.node (some e1V) (.node (some e1F) (.node (some d6c) (.node (some d9g) .leaf .leaf) .leaf) (.node (some d1C) .leaf .leaf)) (.node (some d7H) (.node (some d1L) .leaf .leaf) (.node (some d6l) .leaf .leaf))) (.node (some e2P) (.node (some e2e) (.node (some d2j) (.node (some d8h) .leaf .leaf) .leaf) (.node (some d5j) .leaf .leaf)) (.node (some d5M) (.node (some d3g) .leaf .leaf) (.node (some d5z) .leaf .leaf)))) (.node (some e3f) (.node (some e0Q) (.node (some e2m) (.node (some a7D) (.node (some d6U) .leaf .leaf) .leaf) (.node (some d7b) .leaf .leaf)) (.node (some d8z) (.node (some d2b) .leaf .leaf) (.node (some d9b) .leaf .leaf))) (.node (some e3h) (.node (some e1Q) (.node (some d8E) .leaf .leaf) (.node (some d8Y) .leaf .leaf)) (.node (some d3a) (.node (some d4Q) .leaf .leaf) (.node (some d6H) .leaf .leaf))))))))
noncomputable def c4i:Trie Func:=(.node (some Go.Proofs.Tryz.f0) (.node (some Go.Proofs.Tryz.f1) (.node (some Go.Proofs.Tryz.f3) (.node (some Go.Proofs.Tryz.f7) (.node (some Go.Proofs.Tryz.f15) (.node (some Go.Proofs.Tryz.f31) (.node (some Go.Proofs.Tryz.f63) (.node (some Go.Proofs.Tryz.f127) .leaf .leaf) (.node (some Go.Proofs.Tryz.f191) .leaf .leaf)) (.node (some Go.Proofs.Tryz.f95) (.node (some Go.Proofs.Tryz.f159) .leaf .leaf) (.node (some Go.Proofs.Tryz.f223) .leaf .leaf))) (.node (some Go.Proofs.Tryz.f47) (.node (some Go.Proofs.Tryz.f79) (.node (some Go.Proofs.Tryz.f143) .leaf .leaf) (.node (some Go.Proofs.Tryz.f207) .leaf .leaf)) (.node (some Go.Proofs.Tryz.f111) (.node (some Go.Proofs.Tryz.f175) .leaf .leaf) (.node (some Go.Proofs.Tryz.f239) .leaf .leaf)))) (.node (some Go.Proofs.Tryz.f23) (.node (some Go.Proofs.Tryz.f39) (.node (some Go.Proofs.Tryz.f71) (.node (some Go.Proofs.Tryz.f135) .leaf .leaf) (.node (some Go.Proofs.Tryz.f199) .leaf .leaf)) (.node (some Go.Proofs.Tryz.f103) (.node (some Go.Proofs.Tryz.f167) .leaf .leaf) (.node (some Go.Proofs.Tryz.f231) .leaf .leaf))) (.node (some Go.Proofs.Tryz.f55) (.node (some Go.Proofs.Tryz.f87) (.node (some Go.Proofs.Tryz.f151) .leaf .leaf) (.node (some Go.Proofs.Tryz.f215) .leaf .leaf)) (.node (some Go.Proofs.Tryz.f119) (.node (some Go.Proofs.Tryz.f183) .leaf .leaf) (.node (some Go.Proofs.Tryz.f247) .leaf .leaf))))) (.node (some Go.Proofs.Tryz.f11) (.node (some Go.Proofs.Tryz.f19) (.node (some Go.Proofs.Tryz.f35) (.node (some Go.Proofs.Tryz.f67) (.node (some Go.Proofs.Tryz.f131) .leaf .leaf) (.node (some Go.Proofs.Tryz.f195) .leaf .leaf)) (.node (some Go.Proofs.Tryz.f99) (.node (some Go.Proofs.Tryz.f163) .leaf .leaf) (.node (some Go.Proofs.Tryz.f227) .leaf .leaf))) (.node (some Go.Proofs.Tryz.f51) (.node (some Go.Proofs.Tryz.f83) (.node (some Go.Proofs.Tryz.f147) .leaf .leaf) (.node (some Go.Proofs.Tryz.f211) .leaf .leaf)) (.node (some Go.Proofs.Tryz.f115) (.node (some Go.Proofs.Tryz.f179) .leaf .leaf) (.node (some Go.Proofs.Tryz.f243) .leaf .leaf)))) (.node (some Go.Proofs.Tryz.f27) (.node (some Go.Proofs.Tryz.f43) (.node (some Go.Proofs.Tryz.f75) (.node (some Go.Proofs.Tryz.f139) .leaf .leaf) (.node (some Go.Proofs.Tryz.f203) .leaf .leaf)) (.node (some Go.Proofs.Tryz.f107) (.node (some Go.Proofs.Tryz.f171) .leaf .leaf) (.node (some Go.Proofs.Tryz.f235) .leaf .leaf))) (.node (some Go.Proofs.Tryz.f59) (.node (some Go.Proofs.Tryz.f91) (.node (some Go.Proofs.Tryz.f155) .leaf .leaf) (.node (some Go.Proofs.Tryz.f219) .leaf .leaf)) (.node (some Go.Proofs.Tryz.f123) (.node (some Go.Proofs.Tryz.f187) .leaf .leaf) .leaf))))) (.node (some Go.Proofs.Tryz.f5) (.node (some Go.Proofs.Tryz.f9) (.node (some Go.Proofs.Tryz.f17) (.node (some Go.Proofs.Tryz.f33) (.node (some Go.Proofs.Tryz.f65) (.node (some Go.Proofs.Tryz.f129) .leaf .leaf) (.node (some Go.Proofs.Tryz.f193) .leaf .leaf)) (.node (some Go.Proofs.Tryz.f97) (.node (some Go.Proofs.Tryz.f161) .leaf .leaf) (.node (some Go.Proofs.Tryz.f225) .leaf .leaf))) (.node (some Go.Proofs.Tryz.f49) (.node (some Go.Proofs.Tryz.f81) (.node (some Go.Proofs.Tryz.f145) .leaf .leaf) (.node (some Go.Proofs.Tryz.f209) .leaf .leaf)) (.node (some Go.Proofs.Tryz.f113) (.node (some Go.Proofs.Tryz.f177) .leaf .leaf) (.node (some Go.Proofs.Tryz.f241) .leaf .leaf)))) (.node (some Go.Proofs.Tryz.f25) (.node (some Go.Proofs.Tryz.f41) (.node (some Go.Proofs.Tryz.f73) (.node (some Go.Proofs.Tryz.f137) .leaf .leaf) (.node (some Go.Proofs.Tryz.f201) .leaf .leaf)) (.node (some Go.Proofs.Tryz.f105) (.node (some Go.Proofs.Tryz.f169) .leaf .leaf) (.node (some Go.Proofs.Tryz.f233) .leaf .leaf))) (.node (some Go.Proofs.Tryz.f57) (.node (some Go.Proofs.Tryz.f89) (.node (some Go.Proofs.Tryz.f153) .leaf .leaf) (.node (some Go.Proofs.Tryz.f217) .leaf .leaf)) (.node (some Go.Proofs.Tryz.f121) (.node (some Go.Proofs.Tryz.f185) .leaf .leaf) .leaf)))) (.node (some Go.Proofs.Tryz.f13) (.node (some Go.Proofs.Tryz.f21) (.node (some Go.Proofs.Tryz.f37) (.node (some Go.Proofs.Tryz.f69) (.node (some Go.Proofs.Tryz.f133) .leaf .leaf) (.node (some Go.Proofs.Tryz.f197) .leaf .leaf)) (.node (some Go.Proofs.Tryz.f101) (.node (some Go.Proofs.Tryz.f165) .leaf .leaf) (.node (some Go.Proofs.Tryz.f229) .leaf .leaf))) (.node (some Go.Proofs.Tryz.f53) (.node (some Go.Proofs.Tryz.f85) (.node (some Go.Proofs.Tryz.f149) .leaf .leaf) (.node (some Go.Proofs.Tryz.f213) .leaf .leaf)) (.node (some Go.Proofs.Tryz.f117) (.node (some Go.Proofs.Tryz.f181) .leaf .leaf) (.node (some Go.Proofs.Tryz.f245) .leaf .leaf)))) (.node (some Go.Proofs.Tryz.f29) (.node (some Go.Proofs.Tryz.f45) (.node (some Go.Proofs.Tryz.f77) (.node (some Go.Proofs.Tryz.f141) .leaf .leaf) (.node (some Go.Proofs.Tryz.f205) .leaf .leaf)) (.node (some Go.Proofs.Tryz.f109) (.node (some Go.Proofs.Tryz.f173) .leaf .leaf) (.node (some Go.Proofs.Tryz.f237) .leaf .leaf))) (.node (some Go.Proofs.Tryz.f61) (.node (some Go.Proofs.Tryz.f93) (.node (some Go.Proofs.Tryz.f157) .leaf .leaf) (.node (some Go.Proofs.Tryz.f221) .leaf .leaf)) (.node (some Go.Proofs.Tryz.f125) (.node (some Go.Proofs.Tryz.f189) .leaf .leaf) .leaf)))))) (.node (some Go.Proofs.Tryz.f2) (.node (some Go.Proofs.Tryz.f4) (.node (some Go.Proofs.Tryz.f8) (.node (some Go.Proofs.Tryz.f16) (.node (some Go.Proofs.Tryz.f32) (.node (some Go.Proofs.Tryz.f64) (.node (some Go.Proofs.Tryz.f128) .leaf .leaf) (.node (some Go.Proofs.Tryz.f192) .leaf .leaf)) (.node (some Go.Proofs.Tryz.f96) (.node (some Go.Proofs.Tryz.f160) .leaf .leaf) (.node (some Go.Proofs.Tryz.f224) .leaf .leaf))) (.node (some Go.Proofs.Tryz.f48) (.node (some Go.Proofs.Tryz.f80) (.node (some Go.Proofs.Tryz.f144) .leaf .leaf) (.node (some Go.Proofs.Tryz.f208) .leaf .leaf)) (.node (some Go.Proofs.Tryz.f112) (.node (some Go.Proofs.Tryz.f176) .leaf .leaf) (.node (some Go.Proofs.Tryz.f240) .leaf .leaf)))) (.node (some Go.Proofs.Tryz.f24) (.node (some Go.Proofs.Tryz.f40) (.node (some Go.Proofs.Tryz.f72) (.node (some Go.Proofs.Tryz.f136) .leaf .leaf) (.node (some Go.Proofs.Tryz.f200) .leaf .leaf)) (.node (some Go.Proofs.Tryz.f104) (.node (some Go.Proofs.Tryz.f168) .leaf .leaf) (.node (some Go.Proofs.Tryz.f232) .leaf .leaf))) (.node (some Go.Proofs.Tryz.f56) (.node (some Go.Proofs.Tryz.f88) (.node (some Go.Proofs.Tryz.f152) .leaf .leaf) (.node (some Go.Proofs.Tryz.f216) .leaf .leaf)) (.node (some Go.Proofs.Tryz.f120) (.node (some Go.Proofs.Tryz.f184) .leaf .leaf) (.node (some Go.Proofs.Tryz.f248) .leaf .leaf))))) (.node (some Go.Proofs.Tryz.f12) (.node (some Go.Proofs.Tryz.f20) (.node (some Go.Proofs.Tryz.f36) (.node (some Go.Proofs.Tryz.f68) (.node (some Go.Proofs.Tryz.f132) .leaf .leaf) (.node (some Go.Proofs.Tryz.f196) .leaf .leaf)) (.node (some Go.Proofs.Tryz.f100) (.node (some Go.Proofs.Tryz.f164) .leaf .leaf) (.node (some Go.Proofs.Tryz.f228) .leaf .leaf))) (.node (some Go.Proofs.Tryz.f52) (.node (some Go.Proofs.Tryz.f84) (.node (some Go.Proofs.Tryz.f148) .leaf .leaf) (.node (some Go.Proofs.Tryz.f212) .leaf .leaf)) (.node (some Go.Proofs.Tryz.f116) (.node (some Go.Proofs.Tryz.f180) .leaf .leaf) (.node (some Go.Proofs.Tryz.f244) .leaf .leaf)))) (.node (some Go.Proofs.Tryz.f28) (.node (some Go.Proofs.Tryz.f44) (.node (some Go.Proofs.Tryz.f76) (.node (some Go.Proofs.Tryz.f140) .leaf .leaf) (.node (some Go.Proofs.Tryz.f204) .leaf .leaf)) (.node (some Go.Proofs.Tryz.f108) (.node (some Go.Proofs.Tryz.f172) .leaf .leaf) (.node (some Go.Proofs.Tryz.f236) .leaf .leaf))) (.node (some Go.Proofs.Tryz.f60) (.node (some Go.Proofs.Tryz.f92) (.node (some Go.Proofs.Tryz.f156) .leaf .leaf) (.node (some Go.Proofs.Tryz.f220) .leaf .leaf)) (.node (some Go.Proofs.Tryz.f124) (.node (some Go.Proofs.Tryz.f188) .leaf .leaf) .leaf))))) (.node (some Go.Proofs.Tryz.f6) (.node (some Go.Proofs.Tryz.f10) (.node (some Go.Proofs.Tryz.f18) (.node (some Go.Proofs.Tryz.f34) (.node (some Go.Proofs.Tryz.f66) (.node (some Go.Proofs.Tryz.f130) .leaf .leaf) (.node (some Go.Proofs.Tryz.f194) .leaf .leaf)) (.node (some Go.Proofs.Tryz.f98) (.node (some Go.Proofs.Tryz.f162) .leaf .leaf) (.node (some Go.Proofs.Tryz.f226) .leaf .leaf))) (.node (some Go.Proofs.Tryz.f50) (.node (some Go.Proofs.Tryz.f82) (.node (some Go.Proofs.Tryz.f146) .leaf .leaf) (.node (some Go.Proofs.Tryz.f210) .leaf .leaf)) (.node (some Go.Proofs.Tryz.f114) (.node (some Go.Proofs.Tryz.f178) .leaf .leaf) (.node (some Go.Proofs.Tryz.f242) .leaf .leaf)))) (.node (some Go.Proofs.Tryz.f26) (.node (some Go.Proofs.Tryz.f42) (.node (some Go.Proofs.Tryz.f74) (.node (some Go.Proofs.Tryz.f138) .leaf .leaf) (.node (some Go.Proofs.Tryz.f202) .leaf .leaf)) (.node (some Go.Proofs.Tryz.f106) (.node (some Go.Proofs.Tryz.f170) .leaf .leaf) (.node (some Go.Proofs.Tryz.f234) .leaf .leaf))) (.node (some Go.Proofs.Tryz.f58) (.node (some Go.Proofs.Tryz.f90) (.node (some Go.Proofs.Tryz.f154) .leaf .leaf) (.node (some Go.Proofs.Tryz.f218) .leaf .leaf)) (.node (some Go.Proofs.Tryz.f122) (.node (some Go.Proofs.Tryz.f186) .leaf .leaf) .leaf)))) (.node (some Go.Proofs.Tryz.f14) (.node (some Go.Proofs.Tryz.f22) (.node (some Go.Proofs.Tryz.f38) (.node (some Go.Proofs.Tryz.f70) (.node (some Go.Proofs.Tryz.f134) .leaf .leaf) (.node (some Go.Proofs.Tryz.f198) .leaf .leaf)) (.node (some Go.Proofs.Tryz.f102) (.node (some Go.Proofs.Tryz.f166) .leaf .leaf) (.node (some Go.Proofs.Tryz.f230) .leaf .leaf))) (.node (some Go.Proofs.Tryz.f54) (.node (some Go.Proofs.Tryz.f86) (.node (some Go.Proofs.Tryz.f150) .leaf .leaf) (.node (some Go.Proofs.Tryz.f214) .leaf .leaf)) (.node (some Go.Proofs.Tryz.f118) (.node (some Go.Proofs.Tryz.f182) .leaf .leaf) (.node (some Go.Proofs.Tryz.f246) .leaf .leaf)))) (.node (some Go.Proofs.Tryz.f30) (.node (some Go.Proofs.Tryz.f46) (.node (some Go.Proofs.Tryz.f78) (.node (some Go.Proofs.Tryz.f142) .leaf .leaf) (.node (some Go.Proofs.Tryz.f206) .leaf .leaf)) (.node (some Go.Proofs.Tryz.f110) (.node (some Go.Proofs.Tryz.f174) .leaf .leaf) (.node (some Go.Proofs.Tryz.f238) .leaf .leaf))) (.node (some Go.Proofs.Tryz.f62) (.node (some Go.Proofs.Tryz.f94) (.node (some Go.Proofs.Tryz.f158) .leaf .leaf) (.node (some Go.Proofs.Tryz.f222) .leaf .leaf)) (.node (some Go.Proofs.Tryz.f126) (.node (some Go.Proofs.Tryz.f190) .leaf .leaf) .leaf)))))))
noncomputable def Q6:Tab:=⟨c2X,c4i, 7⟩
set_option maxRecDepth 100000
theorem a2E:TabOk Go.Proofs.Tryz.prog Q6:=c3d (by kernel_rfl) (by kernel_rfl) (by kernel_rfl) (by kernel_rfl)
theorem a0O:Go.Proofs.Tryz.prog.follows .mixedOrders=true:=by kernel_rfl
end Go.Proofs.YtmomonnlmbljoaaGreatDoor
end
