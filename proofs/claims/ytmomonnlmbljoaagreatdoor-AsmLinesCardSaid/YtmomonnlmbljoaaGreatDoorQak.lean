import Derived.Lib.Fields
import Derived.Test.YtmomonnlmbljoaaGreatDoorQag
import Derived.Test.YtmomonnlmbljoaaGreatDoorQai
import Derived.Test.YtmomonnlmbljoaaGreatDoorQaj
section
noncomputable section
namespace Go.V
open Go.RowKit (Below)
section
variable {P:Program} {T:Tab} {vs:a4i}
theorem b0X {fn:Func} {tmps:Array Value} {w:World} (h:fn.results=#[]):(results fn tmps).run P w=.ok (.tuple #[]) w:=by
 unfold results
 rw [h]
 simp
def RB (vs:a4i) (B:Nat):Nat → Prop:=fun k=>k < vs.length ∨ B ≤ k
theorem b4V (hT:TabOk P T) (hM:P.follows .mixedOrders=true) (hng:T.ng ≤ vs.length) (hp:∀ l ∈ vs, ∀ v ∈ l,plain v=true) {ext:Nat → Option (List Value → M Value)} (hE:a4P P T vs ext) {n m f:Nat} {fn:Func} {c:Code} {α:Type} {enc:α → List Value} {full:List α}
 (hPf:P.funcs[f]?=some fn) (hb:fn.body=some c) (hres:fn.results=#[])
 (hrun:∀ l:Nat, ∃ ex fr' s',a5u P T (a7l P T ext n) n c (Value.func (.yield l) #[] #[] :: List.replicate (fn.ntmps - 1) undef) [] (a5f vs)=some ((ex,(fr',full.map fun x=>(l,enc x))),s') ∧ ∀ id,ex ≠ .exit id)
 {w:World} (hL:LaidV vs w) {B:Nat} (hB:B ≤ w.heap.size) (hBv:vs.length ≤ w.heap.size) :
 SeqStopsK Fence.wide m P f #[] (fun x:α=>(enc x).toArray) (KeepsR (RB vs B)) (fun xs=>xs=full) (fun pre=>pre <+: full) full.length w:=by
 intro l J Jx W hW hJ hJx hround h0
 refine callsIn_wide.2 (calls_of_wp hPf hb ?_)
 have hLW:LaidV vs W:=hL.below hW hBv
 let J0:List (List Value) → World → Prop:=fun xs W=>∃ pre,xs=pre.map enc ∧ pre <+: full ∧ J pre W
 let Jx0:List (List Value) → World → Prop:=fun xs W=>∃ pre,xs=pre.map enc ∧ pre <+: full ∧ Jx pre W
 have hR:Rounds P (RB vs B) l (m - 1) J0 Jx0 (full.map enc):=by
  refine ⟨fun xs W1 W2 h hb2=>?_,fun xs x W1 h hpre=>?_⟩
  · obtain ⟨pre,e,hp1,hj⟩:=h
    exact ⟨pre,e,hp1,hJ pre W1 W2 none hj ⟨hb2.os,hb2.tape,hb2.output,hb2.size,fun k hk _=>hb2.block k hk⟩ (fun r q=>by cases q)⟩
  · obtain ⟨pre,rfl,⟨rest,rfl⟩,hj⟩:=h
    cases rest with
    | nil=>
      have:=hpre.length_le
      simp at this
      omega
    | cons y ys=>
      have hx:x=enc y:=by
       rw [List.map_append,List.prefix_append_right_inj] at hpre
       obtain ⟨t,ht⟩:=hpre
       simp at ht
       exact ht.1
      subst hx
      obtain ⟨f0,tm,as0,bd,q1,q2⟩:=hround pre y W1 hj (by simp)
      have hp2:pre ++ [y] <+: pre ++ y :: ys:=⟨ys,by simp⟩
      refine ⟨f0,tm,as0,bd,q1,q2.mono fun e W' he=>?_⟩
      rcases he with ⟨e1,e2,e3⟩ | ⟨e1,e2⟩
      · exact Or.inl ⟨e1,⟨pre ++ [y],by simp,hp2,e2⟩,e3⟩
      · exact Or.inr ⟨e1,pre ++ [y],by simp,hp2,e2⟩
 obtain ⟨ex,fr',s',hr,hex⟩:=hrun l
 have hC:∀ B0 w0,LaidV vs w0.w → vs.length ≤ B0 → a5Z P T B0 w0 (a7l P T ext n):=fun B0 w0 h1 h2=>b1l hT hM (hE B0 w0 h1 h2) n
 have hF:∀ f aS9,Fr (a7l P T ext n f aS9):=Fr.callV P T (hE W.heap.size ⟨W,fun _=>True⟩ hLW hLW.size).1 n
 have hlen:(full.map fun x=>(l,enc x)).map (·.2)=full.map enc:=by rw [List.map_map]; rfl
 refine (c2y hT hM hC hF hR (fun k hk=>Or.inl hk) (ds:=[]) n).1 c _ [] (a5f vs) ex fr' _ s' _ W _ hr ⟨W.heap.size,⟨W,RB vs B⟩,a6L vs, ?_,rfl,rfl,⟨[],rfl,List.nil_prefix,h0⟩, ?_,b0u hng,rfl, ?_,hLW,hLW.size⟩ ?_ (by rw [hlen]; exact List.prefix_rfl) ⟨?_, ?_⟩
 · exact a9g (fun k hk=>Or.inr (Nat.le_trans hB (Nat.le_trans hW.size hk))) (fun k hk=>Or.inl hk) hLW hp
 · simp only [Array.toList_append,Array.toList_replicate]
   show VRL (a6L vs) ([Value.func (.yield l) #[] #[]] ++ List.replicate (fn.ntmps - 1) undef) ([Value.func (.yield l) #[] #[]] ++ List.replicate (fn.ntmps - 1) undef)
   refine VRL.append ⟨rfl,fun i v' v h1 h2=>?_⟩ (VRL.replicate _)
   rw [h1] at h2
   cases h2
   cases i with
   | zero=>cases h1; exact .func rfl (fun i v' v q=>by simp at q) rfl (fun i v' v q=>by simp at q)
   | succ i=>simp at h1
 · intro i hi
   rw [a4c]
   have:vs.length ≤ i:=by have:=hi; unfold a5f at this; rw [a0m] at this; exact this
   rw [List.getElem?_eq_none this]
 · intro e he
   obtain ⟨x,_,rfl⟩:=List.mem_map.1 he
   rfl
 · intro e a' w' y he
   obtain ⟨B0,w0,K,S,hwR,hB0,hJ',hf,hg,hds,hfr,_,_⟩:=y
   rw [hlen] at hJ'
   obtain ⟨pre,e1,e2,hJw⟩:=hR.abides _ _ _ hJ' (by rw [← hB0]; exact S.below)
   have e3:pre=full:=e2.eq_of_length (by have:=congrArg List.length e1; simpa using this.symm)
   subst e3
   have post:a'.defers=[] ∧ ∃ v,(results fn a'.tmps).run P w'=.ok v w' ∧ ((∃ u,Ending.returned v=.returned u) ∧ ((∃ xs,xs=pre ∧ J xs w') ∨ (∃ pre',pre' <+: pre ∧ Jx pre' w'))):=
    ⟨hds,_,b0X hres,⟨_,rfl⟩,Or.inl ⟨_,rfl,hJw⟩⟩
   cases ex with
   | exit id=>exact absurd rfl (hex id)
   | normal=>have he:e=.normal:=he; subst he; exact post
   | ret=>have he:e=.ret:=he; subst he; exact post
 · intro a' w' pre hpre hx hd
   obtain ⟨pre',_,e2,hx⟩:=hx
   exact ⟨hd,_,b0X hres,⟨_,rfl⟩,Or.inr ⟨pre',e2,hx⟩⟩
end
end Go.V
end
section
noncomputable section
namespace Go.V
open Go.RowKit (Below)
def a0H (ext:Nat → Option (List Value → M Value)) (f:Nat) (g:List Value → M Value):Nat → Option (List Value → M Value):=fun i=>match Nat.beq i f with
 | true=>some g
 | false=>ext i
section
variable {P:Program} {T:Tab} {vs:a4i}
def a0f (P:Program) (T:Tab) (vs:a4i) (f:Nat) (g:List Value → M Value):Prop:=(∀ aS9,Fr (g aS9)) ∧
 ∀ B0 w0,LaidV vs w0.w → vs.length ≤ B0 → ∀ aS9 s v s' w K as',g aS9 s=some (v,s') → Sim B0 w0 K s.h w → GK T K → a2S K s s' → VRL K as' aS9 →
   (∃ v' w' K',(callFunc f as'.toArray).run P w=.ok (.value v') w' ∧ Step B0 w0 K s' w' K' ∧ VR K' v' v) ∨
   ((callFunc f as'.toArray).run P w=.ok (.enter f as'.toArray) w ∧ Calls P f as'.toArray w fun e w'=>∃ v' K',e=.returned v' ∧ Step B0 w0 K s' w' K' ∧ VR K' v' v)
theorem a8I {ext:Nat → Option (List Value → M Value)} (hE:a4P P T vs ext) {f:Nat} {g:List Value → M Value} (hg:a0f P T vs f g):a4P P T vs (a0H ext f g):=by
 intro B0 w0 hL hB
 have h0:=hE B0 w0 hL hB
 constructor
 · intro i m hm aS9
   unfold a0H at hm
   cases hb:Nat.beq i f with
   | true=>rw [hb] at hm; cases hm; exact hg.1 aS9
   | false=>rw [hb] at hm; exact h0.1 i m hm aS9
 · intro i m hm
   unfold a0H at hm
   cases hb:Nat.beq i f with
   | true=>
     rw [hb] at hm
     cases hm
     obtain rfl:=Nat.eq_of_beq_eq_true hb
     exact hg.2 B0 w0 hL hB
   | false=>rw [hb] at hm; exact h0.2 i m hm
theorem a8C {K:KM} {as' aS9:List Value} (h:VRL K as' aS9) (hn:a0N (a0y 8) aS9=true):as'=aS9:=by
 apply List.ext_getElem?
 intro i
 by_cases hi:i < aS9.length
 · have hi':i < as'.length:=by rw [h.len]; exact hi
   have r:=h.at_ i _ _ (List.getElem?_eq_getElem hi') (List.getElem?_eq_getElem hi)
   rw [List.getElem?_eq_getElem hi',List.getElem?_eq_getElem hi,r.eq_of_noAddr 8 ((a1a _ _).1 hn aS9[i] (List.getElem_mem hi))]
 · rw [List.getElem?_eq_none (by rw [h.len]; omega),List.getElem?_eq_none (by omega)]
def b3H (f:List Value → Option (List Value)) (aS9:List Value):M Value:=
 M.obind (f aS9) fun xs=>M.bind (a2q xs) fun a=>a7U (M4 xs) fun n=>M.pure (.slice (some a) n 1)
theorem b6D {f:Nat} {g:List Value → Option (List Value)}
 (hg:∀ aS9 xs,g aS9=some xs → a0N (a0y 8) aS9=true ∧ a0N plain xs=true ∧ ∀ w,LaidV vs w →
   (callFunc f aS9.toArray).run P w=.ok (.enter f aS9.toArray) w ∧ Calls P f aS9.toArray w fun e w'=>e=.returned (.slice (some ⟨w.heap.size, 0,none⟩) xs.length xs.length) ∧ ∃ t,w'=w.alloc (.cells xs.toArray t)) :
 a0f P T vs f (b3H g):=by
 refine ⟨fun aS9=>Fr.obind _ fun xs=>Fr.bind (Fr.newCells _) fun a=>?_, ?_⟩
 · rw [a5B]; exact Fr.pure _
 · intro B0 w0 hL hB aS9 s v s' w K as' h S hG F has
   obtain ⟨xs,e1,h1⟩:=U4 h
   obtain ⟨a,s1,h2,h3⟩:=M8 h1
   rw [a5B,a0m] at h3
   obtain ⟨e2,rfl⟩:=J3 h3
   obtain ⟨g1,g2,g3⟩:=hg aS9 xs e1
   rw [a8C has g1]
   obtain ⟨c1,c2⟩:=g3 w (hL.below S.below hB)
   refine Or.inr ⟨c1,c2.mono fun e w' ⟨q1,t,q2⟩=>?_⟩
   have hblk:w'.heap[w.heap.size]?=some (.cells xs.toArray t (0, 0)):=by rw [q2]; exact World.alloc_heap_new w _
   have hx:VRL K xs xs:=⟨rfl,fun i v' v h1 h2=>by
    rw [h1] at h2; cases h2
    exact .plain ((a1a _ _).1 g2 _ (List.mem_of_getElem? h1))⟩
   obtain ⟨K',k1,k2,k3⟩:=a6B (rest:=[]) h2 S F hx (by rw [q2]; exact Grew.alloc w _) hblk (by simp) (fun o _=>by simp)
   refine ⟨_,K',q1,k1, ?_⟩
   rw [e2,k3]
   refine VR.slice (a':=⟨w.heap.size, 0,none⟩) k2 (Nat.zero_le _) (by omega) (Nat.le_refl _) rfl (Or.inr ⟨rfl,rfl,fun _=>by simp⟩)
end
def b0g (l:List UInt8):List UInt8 → List (List UInt8):=
 List.rec (motive:=fun _=>List UInt8 → List (List UInt8)) (fun cur=>match cur with
  | []=>[]
  | c :: cs=>[c :: cs])
  (fun b _ ih cur=>match Lib.isSp b with
    | true=>match cur with
      | []=>ih []
      | c :: cs=>(c :: cs) :: ih []
    | false=>ih (M6 cur [b])) l
theorem c0V (l:List UInt8):∀ cur,b0g l cur=Lib.fieldsGo cur l:=by
 induction l with
 | nil=>intro cur; cases cur <;> rfl
 | cons b l ih=>
   intro cur
   show (match Lib.isSp b with | true=>(match cur with | []=>b0g l [] | c :: cs=>(c :: cs) :: b0g l []) | false=>b0g l (M6 cur [b]))=_
   rw [Lib.fieldsGo]
   cases Lib.isSp b with
   | true=>cases cur <;> simp [ih]
   | false=>simp [ih,M7]
def b0c (aS9:List Value):Option (List Value):=match aS9 with
 | []=>none
 | v :: rest=>match rest with
   | []=>match v with
     | .string s=>match a0N (fun b=>Nat.blt b.toNat 128) s.data.toList && Nat.blt (M4 s.data.toList) 4294967281 with
       | true=>some (a2m (fun l=>Value.string ⟨⟨l⟩⟩) (b0g s.data.toList []))
       | false=>none
     | _=>none
   | _ :: _=>none
theorem b8D {aS9 xs:List Value} (h:b0c aS9=some xs):∃ s:ByteArray,aS9=[.string s] ∧ s.size < 4294967281 ∧ (∀ (j:Nat) b,s.data.toList[j]?=some b → b.toNat < 128) ∧ xs=(Lib.fields s.data.toList).map fun l=>Value.string ⟨l.toArray⟩:=by
 unfold b0c at h
 split at h
 · cases h
 · split at h
   · split at h
     · rename_i s
       cases hb:a0N (fun b=>Nat.blt b.toNat 128) s.data.toList && Nat.blt (M4 s.data.toList) 4294967281 with
       | false=>rw [hb] at h; cases h
       | true=>
         rw [hb] at h
         cases h
         simp only [Bool.and_eq_true] at hb
         refine ⟨s,rfl, ?_,fun j b hj=>?_, ?_⟩
         · have:=hb.2
           rw [a0m] at this
           have:s.data.toList.length < 4294967281:=by simpa using this
           simpa using this
         · have:=(a1a _ _).1 hb.1 b (List.mem_of_getElem? hj)
           simpa using this
         · rw [a3X,c0V]; rfl
     · cases h
   · cases h
end Go.V
end
section
namespace Go.V
open Go.RowKit (Below)
theorem Trie.bound {α:Type} (t:Trie α):∃ c, ∀ i,c ≤ i → t.get i=none:=by
 induction t with
 | leaf=>exact ⟨0,fun i _=>Trie.get_leaf i⟩
 | node v l r ihl ihr=>
   obtain ⟨a,ha⟩:=ihl
   obtain ⟨b,hb⟩:=ihr
   refine ⟨2 * a + 2 * b + 3,fun i hi=>?_⟩
   obtain ⟨k,rfl⟩:∃ k,i=k + 1:=⟨i - 1,by omega⟩
   rw [Trie.get_node_succ]
   split
   · exact ha _ (by omega)
   · exact hb _ (by omega)
def b1E (a d c:Nat):Nat → Prop:=fun i=>i < c ∧ ¬ (a ≤ i ∧ i < d)
theorem b2g {P:Program} {T:Tab} {vs:a4i} (hT:TabOk P T) (hM:P.follows .mixedOrders=true)
 {ext:Nat → Option (List Value → M Value)} (hE:a4P P T vs ext) {N:Nat} {sh:a2i} (hs:a7O P T ext N sh) {f:Nat} {fn:Func} {c:Code}
 (hPf:P.funcs[f]?=some fn) (hnum:(fn.name == "runtime.NumGoroutine")=false) (hb:fn.body=some c) {g:List Value → M Value} (hFr:∀ aS9,Fr (g aS9))
 (h:∀ aS9 s v s1,g aS9 s=some (v,s1) → ∀ c',s.c ≤ c' → s1.c ≤ c' → (∀ i,c' ≤ i → s.h.get i=none) →
   ∃ n v2 s2 m,J9 sh n f aS9 ⟨c',s.h,s.r,s.w⟩=some (.ret v2,s2) ∧ View (b1E s.c s1.c c') m s.h s1.h s2.h ∧ VRen (b1E s.c s1.c c') m v v2 ∧ ∀ i,s1.c ≤ i → i < c' → s2.h.get i=s.h.get i) :
 a0f P T vs f g:=by
 refine ⟨hFr, ?_⟩
 intro B0 w0 hL hB aS9 s v s1 w K as' hg S hG F has
 have hE':=hE B0 w0 hL hB
 obtain ⟨c0,hc0⟩:=Trie.bound s.h
 obtain ⟨dr,dw,_,_,hle1,_,hdw,_,hkeep,_⟩:=hFr aS9 s v s1 hg
 obtain ⟨n,v2,s2,m,hrun,hV,hv,hfor⟩:=h aS9 s v s1 hg (c0 + s.c + s1.c) (by omega) (by omega) (fun i hi=>hc0 i (by omega))
 generalize hc':c0 + s.c + s1.c=c' at hrun hV hv hfor
 have hbig:∀ i,c' ≤ i → s.h.get i=none:=fun i hi=>hc0 i (by omega)
 refine Or.inr ⟨a2d hPf hnum hb, ?_⟩
 rcases a9l hT hM hE' hs n f aS9 ⟨c',s.h,s.r,s.w⟩ (.ret v2) s2 w K as' hrun S hG (fun i hi _=>hbig i hi) has with ⟨v1,v',w',K',_,q1,_⟩ | ⟨_,q⟩
 · rw [a2d hPf hnum hb] at q1; cases q1
 · refine q.mono fun e w' hq=>?_
   obtain ⟨v',K2,e1,st,r⟩:=hq
   have hn:∀ b x,m b=some x → ¬ b1E s.c s1.c c' b:=fun b x e=>(hV.new b x.1 x.2 e).1
   have hob:∀ b o,s.h.get b=some o → b1E s.c s1.c c' b:=fun b o ho=>by
    refine ⟨?_,fun hx=>?_⟩
    · by_cases hlt:b < c'
      · exact hlt
      · rw [hbig b (by omega)] at ho; cases ho
    · rw [F b hx.1 hx.2] at ho; cases ho
   refine ⟨v',KR (b1E s.c s1.c c') m K2,e1,⟨fun b g' l hk=>?_,fun i g' hi=>?_,c8U hV S st.le hob st.sim⟩,VR.ren hn hv r⟩
   · obtain ⟨o,ho⟩:=S.dom2 b g' l hk
     rw [a6o (hob b o ho)]
     exact st.le b g' l hk
   · by_cases hlt:i < c'
     · rw [a6o ⟨hlt,by omega⟩]
       exact c2K S st.sim st.le (hfor i hi hlt) g'
     · have hsn:s.h.get i=none:=hbig i (by omega)
       rw [S.none hsn g']
       cases hk:KR (b1E s.c s1.c c') m K2 i g' with
       | none=>rfl
       | some l=>
         rcases b0U hk with ⟨hb',_⟩ | ⟨_,_,b2,g2,hm,_⟩
         · exact absurd hb'.1 hlt
         · obtain ⟨_,_,cs,ds,e2,_⟩:=hV.new i b2 g2 hm
           have:s1.h.get i=s.h.get i:=hkeep i (fun hx=>by have:=hdw i hx; omega)
           rw [this,hsn] at e2
           cases e2
end Go.V
end
section
noncomputable section
namespace Go.V
def upd (h:Trie VObj) (i:Nat) (o:VObj):Trie VObj:=Trie.put (some o) (i + 1) h i
theorem b9r (h:Trie VObj) (i:Nat) (o:VObj) (j:Nat):(upd h i o).get j=if j=i then some o else h.get j:=Trie.get_put _ _ _ _ (Nat.lt_succ_self _) _
theorem c1o {h:Trie VObj} {i:Nat} {o:VObj} {j:Nat} (e:j=i):(upd h i o).get j=some o:=by rw [b9r,if_pos e]
theorem E8 {h:Trie VObj} {i:Nat} {o:VObj} {j:Nat} (e:j ≠ i):(upd h i o).get j=h.get j:=by rw [b9r,if_neg e]
theorem I9 (h:Trie VObj) (i:Nat) (o:VObj):(upd h i o).get i=some o:=c1o rfl
section
variable {α β:Type} (c:Nat) (h:Trie VObj) (r w:List Nat)
theorem e1m (m:M α) (f:α → M β):M.bind m f ⟨c,h,r,w⟩=match m ⟨c,h,r,w⟩ with
 | none=>none
 | some x=>f x.1 x.2:=Eq.trans rfl rfl
theorem e0Y (a:α):M.pure a ⟨c,h,r,w⟩=some (a,⟨c,h,r,w⟩):=Eq.trans rfl rfl
theorem c1E (i:Nat):rd i ⟨c,h,r,w⟩=match Nat.blt i c with
 | true=>match h.get i with
   | some o=>some (o,⟨c,h,i :: r,w⟩)
   | none=>none
 | false=>none:=Eq.trans rfl rfl
theorem c1S (i:Nat) (o:VObj):wr i o ⟨c,h,r,w⟩=match Nat.blt i c with
 | true=>match h.get i with
   | some _=>some ((),⟨c,upd h i o,r,i :: w⟩)
   | none=>none
 | false=>none:=by
 unfold wr
 cases Nat.blt i c with
 | false=>rfl
 | true=>cases h.get i with
   | none=>rfl
   | some _=>simp only; rw [Trie.putK_eq]; rfl
theorem c6H (o:VObj):new o ⟨c,h,r,w⟩=some (c,⟨c + 1,upd h c o,r,c :: w⟩):=by rw [b1w]; rfl
end
theorem O5 {α:Type} (a:α):M.foot (M.pure a)=M.pure (a,([], [])):=Eq.trans rfl rfl
theorem P7 {α β:Type} (a:α) (f:α → M β):M.obind (some a) f=f a:=Eq.trans rfl rfl
theorem Q8 {α:Type} (m:M α):M.guard true m=m:=Eq.trans rfl rfl
theorem A9 {α:Type} (l:List α):M6 [] l=l:=Eq.trans rfl rfl
theorem o7 {α:Type} (x:α) (l m:List α):M6 (x :: l) m=x :: M6 l m:=Eq.trans rfl rfl
theorem a8y {α:Type} (cs:List (Value × Nat)) (cur:Nat) (ro:Bool) (k:List (Value × Nat) → Nat → Bool → M α):a7z (.cells cs cur ro) k=k cs cur ro:=Eq.trans rfl rfl
theorem a9h {α:Type} (a:Addr) (k:Addr → M α):a5e (.pointer (some a)) k=k a:=Eq.trans rfl rfl
theorem I5 {a b:Nat} (h:a < b):Nat.blt a b=true:=by simpa [Nat.blt_eq] using h
theorem b0l {a b:Nat} (h:a ≤ b):Nat.ble a b=true:=Nat.ble_eq_true_of_le h
theorem a9p {a b:Nat} (h:a ≠ b):Nat.beq a b=false:=by
 cases q:Nat.beq a b with
 | false=>rfl
 | true=>exact absurd (Nat.eq_of_beq_eq_true q) h
theorem j4 (a:Nat):Nat.beq a a=true:=by simp
theorem F8 (a:Nat):Nat.ble 0 a=true:=Eq.trans rfl rfl
theorem J7 (g:Nat) (cs:List (Value × Nat)):a0w g cs 0=some []:=by cases cs <;> rfl
theorem J6 (g:Nat) (v:Value) (st:Nat) (cs:List (Value × Nat)) (n:Nat):a0w g ((v,st) :: cs) (n + 1)=match Nat.ble st g with
 | true=>match a0w g cs n with
   | some vs=>some (v :: vs)
   | none=>none
 | false=>none:=Eq.trans rfl rfl
theorem O6 {α:Type} (l:List α):a3l l 0=l:=by cases l <;> rfl
theorem Q9 {α:Type} (x:α) (l:List α) (n:Nat):a3l (x :: l) (n + 1)=a3l l n:=Eq.trans rfl rfl
theorem a2e {α:Type} (l:List α):a6d l 0=[]:=by cases l <;> rfl
theorem a2f {α:Type} (x:α) (l:List α) (n:Nat):a6d (x :: l) (n + 1)=x :: a6d l n:=Eq.trans rfl rfl
theorem N8 {α β:Type} (f:α → β):a2m f []=[]:=Eq.trans rfl rfl
theorem K9 {α β:Type} (f:α → β) (x:α) (l:List α):a2m f (x :: l)=f x :: a2m f l:=Eq.trans rfl rfl
theorem D5 {α:Type}:M4 ([]:List α)=0:=Eq.trans rfl rfl
theorem r9 {α:Type} (x:α) (l:List α):M4 (x :: l)=M4 l + 1:=Eq.trans rfl rfl
theorem C8 {α:Type} (f:α → Bool):a0N f []=true:=Eq.trans rfl rfl
theorem G9 {α:Type} (x:α) (l:List α):a3s (x :: l) 0=some x:=Eq.trans rfl rfl
theorem H6 {α:Type} (x:α) (l:List α) (n:Nat):a3s (x :: l) (n + 1)=a3s l n:=Eq.trans rfl rfl
theorem P9 (g:Nat) (cs:List (Value × Nat)):a5a g [] cs=cs:=Eq.trans rfl rfl
theorem O8 (g:Nat) (v:Value) (vs:List Value) (c:Value × Nat) (cs:List (Value × Nat)):a5a g (v :: vs) (c :: cs)=(v,g) :: a5a g vs cs:=Eq.trans rfl rfl
theorem U8 (g:Nat) (vs:List Value) (c:Value × Nat) (cs:List (Value × Nat)):a5F g vs (c :: cs) 0=some (a5a g vs (c :: cs)):=Eq.trans rfl rfl
def I6 {α:Type} (r:Option (α × S)) (Q:α → S → Prop):Prop:=∃ a s,r=some (a,s) ∧ Q a s
theorem I6.mono {α:Type} {r:Option (α × S)} {Q R:α → S → Prop} (h:I6 r Q) (k:∀ a s,Q a s → R a s):I6 r R:=
 let ⟨a,s,e,q⟩:=h; ⟨a,s,e,k a s q⟩
theorem I6.pure {α:Type} {a:α} {s:S} {Q:α → S → Prop} (h:Q a s):I6 (M.pure a s) Q:=⟨a,s,rfl,h⟩
theorem I6.some {α:Type} {a:α} {s:S} {Q:α → S → Prop} (h:Q a s):I6 (Option.some (a,s)) Q:=⟨a,s,rfl,h⟩
theorem I6.bind {α β:Type} {m:M α} {f:α → M β} {s:S} {P:α → S → Prop} {Q:β → S → Prop} (h:I6 (m s) P) (k:∀ a s',P a s' → I6 (f a s') Q):I6 (M.bind m f s) Q:=by
 obtain ⟨a,s',e,p⟩:=h
 show I6 (match m s with | none=>none | Option.some x=>f x.1 x.2) Q
 rw [e]
 exact k a s' p
abbrev a3t:=List Nat × List Nat
section
variable (p:Program) (T:Tab)
def c0P (call:Nat → List Value → M Value) (ops:List Oper) (fr:List Value) (o:Oper):M (Value × a3t):=
 bcase (a3r ops fr o) (M.foot (a3E p T call fr o.op)) (M.pure (undef,([], [])))
def b5H {β:Type} (call:Nat → List Value → M Value) (ops os:List Oper):List Value → List a3t → (List Value → List a3t → M β) → M β:=
 List.rec (motive:=fun _=>List Value → List a3t → (List Value → List a3t → M β) → M β) (fun fr acc k=>k fr acc)
  (fun o _ ih fr acc k=>M.bind (c0P p T call ops fr o) fun x=>ih (a0U fr o x.1) (M6 acc [x.2]) k) os
theorem c4r {β:Type} (call:Nat → List Value → M Value) (ops:List Oper):∀ (os:List Oper) (fr:List Value) (acc:List a3t) (k:List Value → List a3t → M β),
 M.bind (a4y p T call ops os fr) (fun y=>k y.1 (acc ++ y.2))=b5H p T call ops os fr acc k:=by
 intro os
 induction os with
 | nil=>
   intro fr acc k
   show M.bind (M.pure (fr, [])) _=k fr acc
   rw [V.d9Z,List.append_nil]
 | cons o os ih=>
   intro fr acc k
   show M.bind (match a3r ops fr o with
    | true=>M.bind (M.foot (a3E p T call fr o.op)) fun x=>a7L x.1 fun v=>M.bind (a4y p T call ops os (a0U fr o v)) fun y=>M.pure (y.1,x.2 :: y.2)
    | false=>M.bind (a4y p T call ops os (a0U fr o undef)) fun y=>M.pure (y.1,([], []) :: y.2)) _=M.bind (c0P p T call ops fr o) fun x=>b5H p T call ops os (a0U fr o x.1) (M6 acc [x.2]) k
   have key:∀ (v:Value) (F:a3t),M.bind (M.bind (a4y p T call ops os (a0U fr o v)) fun y=>M.pure (y.1,F :: y.2)) (fun y=>k y.1 (acc ++ y.2))=b5H p T call ops os (a0U fr o v) (M6 acc [F]) k:=by
    intro v F
    rw [a4f, ← ih,M7]
    congr 1
    funext y
    rw [V.d9Z]
    simp
   unfold c0P
   cases a3r ops fr o with
   | true=>
     rw [K4]
     simp only
     rw [a4f]
     congr 1
     funext x
     rw [a7T]
     exact key x.1 x.2
   | false=>
     rw [J4,V.d9Z]
     exact key undef ([], [])
theorem a4Q (call:j5) (ops:List Oper) (n:Nat) (U:List Nat) (vs:List Value) (W:List Nat) :
 b3o p T call ops n U vs W=b5H p T (a2g call) ops ops (a2b U vs (a4l n)) [] fun fr F=>M.guard (a1b ops (a2I ops F) [] [] 0) (M.pure (.normal,a2K fr W)):=by
 rw [← c4r]
 rfl
end
def b3j (ops:List Oper) (pj:List Nat) (j:Nat) (y:Oper) (xs:List Oper):Nat → Option (List (Nat × Nat)):=
 List.rec (motive:=fun _=>Nat → Option (List (Nat × Nat))) (fun _=>some []) (fun x _ ih i=>match a5b i pj with
  | true=>ih (i + 1)
  | false=>match a3q (a4J x) (a5d ops y) && a3q (a4J x) (a4J y) && a3q (a4J y) (a5d ops x) with
    | true=>match ih (i + 1) with
      | some L=>some ((i,j) :: L)
      | none=>none
    | false=>none) xs
def b7s (ops:List Oper) (ys:List Oper):List Oper → List (List Nat) → Nat → Option (List (Nat × Nat)):=
 List.rec (motive:=fun _=>List Oper → List (List Nat) → Nat → Option (List (Nat × Nat))) (fun _ _ _=>some [])
  (fun y _ ih xs ps n=>match a7t n y.after.toList with
    | true=>match b3j ops (a6k (a6V ps) y.after.toList) n y xs 0 with
      | some L=>match ih (M6 xs [y]) (M6 ps [a6k (a6V ps) y.after.toList]) (n + 1) with
        | some L'=>some (M6 L L')
        | none=>none
      | none=>none
    | false=>none) ys
def b0O (x y:a3t):Bool:=a3q x.2 y.1 && a3q x.2 y.2 && a3q y.2 x.1
def a4e (L:List (Nat × Nat)) (F:List a3t):Bool:=a0N (fun ij=>match a3s F ij.1 with
 | some x=>match a3s F ij.2 with
   | some y=>b0O x y
   | none=>false
 | none=>false) L
theorem c4s {ops:List Oper} {pj:List Nat} {j:Nat} {y:Oper × a3t} {F:List a3t} (hy:F[j]?=some y.2):∀ (xs:List (Oper × a3t)) (i:Nat) (L:List (Nat × Nat)),
 b3j ops pj j y.1 (xs.map (·.1)) i=some L → (∀ (k:Nat) (x:Oper × a3t),xs[k]?=some x → F[i + k]?=some x.2) → a4e L F=true → a7w ops pj y xs i=true:=by
 intro xs
 induction xs with
 | nil=>intro i L _ _ _; rfl
 | cons x xs ih=>
   intro i L h hF hL
   have h':(match a5b i pj with
    | true=>b3j ops pj j y.1 (xs.map (·.1)) (i + 1)
    | false=>match a3q (a4J x.1) (a5d ops y.1) && a3q (a4J x.1) (a4J y.1) && a3q (a4J y.1) (a5d ops x.1) with
      | true=>match b3j ops pj j y.1 (xs.map (·.1)) (i + 1) with
        | some L=>some ((i,j) :: L)
        | none=>none
      | false=>none)=some L:=h
   show (match a5b i pj || free2 ops x y with | true=>a7w ops pj y xs (i + 1) | false=>false)=true
   have hF':∀ (k:Nat) (x:Oper × a3t),xs[k]?=some x → F[i + 1 + k]?=some x.2:=fun k z hz=>by
    have:=hF (k + 1) z (by simpa using hz)
    rw [show i + 1 + k=i + (k + 1) by omega]; exact this
   cases hm:a5b i pj with
   | true=>
     rw [hm] at h'
     rw [Bool.true_or]
     exact ih (i + 1) L h' hF' hL
   | false=>
     rw [hm] at h'
     simp only at h'
     split at h'
     · rename_i hst
       split at h'
       · rename_i L' hL'
         cases h'
         have hL2:a4e ((i,j) :: L') F=true:=hL
         unfold a4e at hL2
         rw [q9,Bool.and_eq_true] at hL2
         have hx:=hF 0 x rfl
         rw [Nat.add_zero] at hx
         have ha:b0O x.2 y.2=true:=by
          have:=hL2.1
          rw [a4H,a4H,hx,hy] at this
          exact this
         have hfr:free2 ops x y=true:=by
          unfold free2
          unfold b0O at ha
          simp only [Bool.and_eq_true] at hst ha ⊢
          exact ⟨⟨⟨⟨⟨ha.1.1,ha.1.2⟩,ha.2⟩,hst.1.1⟩,hst.1.2⟩,hst.2⟩
         rw [hfr,Bool.or_true]
         exact ih (i + 1) L' hL' hF' hL2.2
       · cases h'
     · cases h'
theorem c2d {L L':List (Nat × Nat)} {F:List a3t} (h:a4e (M6 L L') F=true):a4e L F=true ∧ a4e L' F=true:=by
 unfold a4e at h ⊢
 rw [M7,b1O,List.all_append] at h
 rw [b1O,b1O]
 simpa using h
theorem c6w {ops:List Oper} {F:List a3t}:∀ (ys xs:List (Oper × a3t)) (ps:List (List Nat)) (n:Nat) (L:List (Nat × Nat)),xs.length=n → (∀ (k:Nat) (x:Oper × a3t),(xs ++ ys)[k]?=some x → F[k]?=some x.2) →
 b7s ops (ys.map (·.1)) (xs.map (·.1)) ps n=some L → a4e L F=true → a1b ops ys xs ps n=true:=by
 intro ys
 induction ys with
 | nil=>intro xs ps n L _ _ _ _; rfl
 | cons y ys ih=>
   intro xs ps n L hn hF h hL
   have h':(match a7t n y.1.after.toList with
    | true=>match b3j ops (a6k (a6V ps) y.1.after.toList) n y.1 (xs.map (·.1)) 0 with
      | some L=>match b7s ops (ys.map (·.1)) (M6 (xs.map (·.1)) [y.1]) (M6 ps [a6k (a6V ps) y.1.after.toList]) (n + 1) with
        | some L'=>some (M6 L L')
        | none=>none
      | none=>none
    | false=>none)=some L:=h
   show (match a7t n y.1.after.toList && a7w ops (a6k (a6V ps) y.1.after.toList) y xs 0 with | true=>a1b ops ys (M6 xs [y]) (M6 ps [a6k (a6V ps) y.1.after.toList]) (n + 1) | false=>false)=true
   split at h'
   · rename_i he
     split at h'
     · rename_i L1 h1
       split at h'
       · rename_i L2 h2
         cases h'
         obtain ⟨f1,f2⟩:=c2d hL
         have hy:F[n]?=some y.2:=hF n y (by rw [List.getElem?_append_right (by omega),hn]; simp)
         have hp:=c4s hy xs 0 L1 h1 (fun k x hx=>by
          rw [Nat.zero_add]
          exact hF k x (by rw [List.getElem?_append_left (List.getElem?_eq_some_iff.1 hx).1]; exact hx)) f1
         rw [he,hp]
         refine ih (M6 xs [y]) _ (n + 1) L2 (by rw [M7]; simp [hn]) (fun k x hx=>hF k x (by rw [M7] at hx; simpa using hx)) ?_ f2
         rw [M7 xs,List.map_append]
         rw [M7 (xs.map _)] at h2
         exact h2
       · cases h'
     · cases h'
   · cases h'
theorem c2l {α β:Type}:∀ (l:List α) (m:List β),M4 m=M4 l → (a2I l m).map (·.1)=l ∧ (∀ (k:Nat) x,(a2I l m)[k]?=some x → m[k]?=some x.2):=by
 intro l
 induction l with
 | nil=>intro m _; exact ⟨rfl,fun k x h=>by simp [a2I] at h⟩
 | cons a l ih=>
   intro m hm
   cases m with
   | nil=>simp [a0m] at hm
   | cons b m=>
     obtain ⟨h1,h2⟩:=ih m (by simpa [a0m] using hm)
     refine ⟨by show a :: (a2I l m).map (·.1)=_; rw [h1],fun k x hx=>?_⟩
     cases k with
     | zero=>
       have:some (a,b)=some x:=hx
       cases this; rfl
     | succ k=>exact h2 k x hx
theorem a5C {ops:List Oper} {L:List (Nat × Nat)} {n:Nat} (h:b7s ops ops [] [] 0=some L) (hn:M4 ops=n) {F:List a3t} (hl:M4 F=n) (hF:a4e L F=true):a1b ops (a2I ops F) [] [] 0=true:=by
 obtain ⟨h1,h2⟩:=c2l ops F (hl.trans hn.symm)
 exact c6w (a2I ops F) [] [] 0 L rfl (fun k x hx=>h2 k x hx) (by rw [h1]; exact h) hF
end Go.V
end
section
namespace Go.Proofs.YtmomonnlmbljoaaGreatDoor
open Go.V Go.Proofs
set_option maxRecDepth 100000
set_option linter.unusedVariables false
noncomputable def bn (op:BinOp) (t:TypeId) (x y:Operand) (a b:Value):M Value:=a4r Tryz.prog Q6 op t x y a b
noncomputable def un (op:UnOp) (a:Value):M Value:=xUn Tryz.prog op a
noncomputable def mx (ts:Array TypeId) (vs:List Value):M Value:=e2s Tryz.prog ts vs
noncomputable def dr (call:j5) (ops:List Oper) (n:Nat) (U:List Nat) (vs:List Value) (W:List Nat):M (Xc × List Value):=b3o Tryz.prog Q6 call ops n U vs W
end Go.Proofs.YtmomonnlmbljoaaGreatDoor
end
