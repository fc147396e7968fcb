import Derived.Lib.Fields
import Derived.Test.YtmomonnlmbljoaaGreatDoorPal
import Derived.Test.YtmomonnlmbljoaaGreatDoorPap
import Derived.Test.YtmomonnlmbljoaaGreatDoorPaq
section
noncomputable section
namespace Go.V
open Go.RowKit (Below)
def a0m (ext:Nat→Option (List Value→M Value)) (f:Nat) (g:List Value→M Value):Nat→Option (List Value→M Value):=fun i=>match Nat.beq i f with
 | true=>some g
 | false=>ext i
section
variable {P:Program} {T:Tab} {vs:a3J}
def Y4 (P:Program) (T:Tab) (vs:a3J) (f:Nat) (g:List Value→M Value):Prop:=(∀ aS9,Fr (g aS9)) ∧
 ∀ B0 w0,LaidV vs w0.w→vs.length≤B0→∀ aS9 s v s' w K as',g aS9 s=some (v,s')→Sim B0 w0 K s.h w→GK T K→a2C K s s'→VRL K as' aS9 →
   (∃ v' w' K',(callFunc f as'.toArray).run P w=.ok (.value v') w'∧Step B0 w0 K s' w' K'∧VR K' v' v) ∨
   ((callFunc f as'.toArray).run P w=.ok (.enter f as'.toArray) w∧Calls P f as'.toArray w fun e w'=>∃ v' K',e=.returned v'∧Step B0 w0 K s' w' K'∧VR K' v' v)
theorem a8L {ext:Nat→Option (List Value→M Value)} (hE:a4C P T vs ext) {f:Nat} {g:List Value→M Value} (hg:Y4 P T vs f g):a4C P T vs (a0m ext f g):=by
 intro B0 w0 hL hB
 have h0:=hE B0 w0 hL hB
 constructor
 · intro i m hm aS9
   unfold a0m at hm
   cases hb:Nat.beq i f with
   | true=>rw [hb] at hm; cases hm; exact hg.1 aS9
   | false=>rw [hb] at hm; exact h0.1 i m hm aS9
 · intro i m hm
   unfold a0m at hm
   cases hb:Nat.beq i f with
   | true=>
     rw [hb] at hm
     cases hm
     obtain rfl:=Nat.eq_of_beq_eq_true hb
     exact hg.2 B0 w0 hL hB
   | false=>rw [hb] at hm; exact h0.2 i m hm
theorem a8A {K:KM} {as' aS9:List Value} (h:VRL K as' aS9) (hn:a0o (a0e 8) aS9=true):as'=aS9:=by
 apply List.ext_getElem?
 intro i
 by_cases hi:i<aS9.length
 · have hi':i<as'.length:=by rw [h.len]; exact hi
   have r:=h.at_ i _ _ (List.getElem?_eq_getElem hi') (List.getElem?_eq_getElem hi)
   rw [List.getElem?_eq_getElem hi',List.getElem?_eq_getElem hi,r.eq_of_noAddr 8 ((a0y _ _).1 hn aS9[i] (List.getElem_mem hi))]
 · rw [List.getElem?_eq_none (by rw [h.len]; omega),List.getElem?_eq_none (by omega)]
def b3C (f:List Value→Option (List Value)) (aS9:List Value):M Value:=
 M.obind (f aS9) fun xs=>M.bind (a1U xs) fun a=>a8a (L9 xs) fun n=>M.pure (.slice (some a) n 1)
theorem b9i {f:Nat} {g:List Value→Option (List Value)}
 (hg:∀ aS9 xs,g aS9=some xs→a0o (a0e 8) aS9=true∧a0o plain xs=true∧∀ w,LaidV vs w →
   (callFunc f aS9.toArray).run P w=.ok (.enter f aS9.toArray) w∧Calls P f aS9.toArray w fun e w'=>e=.returned (.slice (some ⟨w.heap.size, 0,none⟩) xs.length xs.length)∧∃ t,w'=w.alloc (.cells xs.toArray t)) :
 Y4 P T vs f (b3C g):=by
 refine ⟨fun aS9=>Fr.obind _ fun xs=>Fr.bind (Fr.newCells _) fun a=>?_, ?_⟩
 · rw [a5m]; exact Fr.pure _
 · intro B0 w0 hL hB aS9 s v s' w K as' h S hG F has
   obtain ⟨xs,e1,h1⟩:=U2 h
   obtain ⟨a,s1,h2,h3⟩:=O7 h1
   rw [a5m,Z5] at h3
   obtain ⟨e2,rfl⟩:=J8 h3
   obtain ⟨g1,g2,g3⟩:=hg aS9 xs e1
   rw [a8A has g1]
   obtain ⟨c1,c2⟩:=g3 w (hL.below S.below hB)
   refine Or.inr ⟨c1,c2.mono fun e w' ⟨q1,t,q2⟩=>?_⟩
   have hblk:w'.heap[w.heap.size]?=some (.cells xs.toArray t (0, 0)):=by rw [q2]; exact World.alloc_heap_new w _
   have hx:VRL K xs xs:=⟨rfl,fun i v' v h1 h2=>by
    rw [h1] at h2; cases h2
    exact .plain ((a0y _ _).1 g2 _ (List.mem_of_getElem? h1))⟩
   obtain ⟨K',k1,k2,k3⟩:=a6A (rest:=[]) h2 S F hx (by rw [q2]; exact Grew.alloc w _) hblk (by simp) (fun o _=>by simp)
   refine ⟨_,K',q1,k1, ?_⟩
   rw [e2,k3]
   refine VR.slice (a':=⟨w.heap.size, 0,none⟩) k2 (Nat.zero_le _) (by omega) (Nat.le_refl _) (Or.inr rfl) (Or.inr ⟨rfl,rfl,fun _=>by simp⟩)
end
def b0e (l:List UInt8):List UInt8→List (List UInt8):=
 List.rec (motive:=fun _=>List UInt8→List (List UInt8)) (fun cur=>match cur with
  | []=>[]
  | c::cs=>[c::cs])
  (fun b _ ih cur=>match Lib.isSp b with
    | true=>match cur with
      | []=>ih []
      | c::cs=>(c::cs)::ih []
    | false=>ih (M4 cur [b])) l
theorem c2H (l:List UInt8):∀ cur,b0e l cur=Lib.fieldsGo cur l:=by
 induction l with
 | nil=>intro cur; cases cur <;> rfl
 | cons b l ih=>
   intro cur
   show (match Lib.isSp b with | true=>(match cur with | []=>b0e l [] | c::cs=>(c::cs)::b0e l []) | false=>b0e l (M4 cur [b]))=_
   rw [Lib.fieldsGo]
   cases Lib.isSp b with
   | true=>cases cur <;> simp [ih]
   | false=>simp [ih,N9]
def b0f (aS9:List Value):Option (List Value):=match aS9 with
 | []=>none
 | v::rest=>match rest with
   | []=>match v with
     | .string s=>match a0o (fun b=>Nat.blt b.toNat 128) s.data.toList && Nat.blt (L9 s.data.toList) 4294967281 with
       | true=>some (a1R (fun l=>Value.string ⟨⟨l⟩⟩) (b0e s.data.toList []))
       | false=>none
     | _=>none
   | _::_=>none
theorem b9x {aS9 xs:List Value} (h:b0f aS9=some xs):∃ s:ByteArray,aS9=[.string s]∧s.size<4294967281∧(∀ (j:Nat) b,s.data.toList[j]?=some b→b.toNat<128)∧xs=(Lib.fields s.data.toList).map fun l=>Value.string ⟨l.toArray⟩:=by
 unfold b0f at h
 split at h
 · cases h
 · split at h
   · split at h
     · rename_i s
       cases hb:a0o (fun b=>Nat.blt b.toNat 128) s.data.toList && Nat.blt (L9 s.data.toList) 4294967281 with
       | false=>rw [hb] at h; cases h
       | true=>
         rw [hb] at h
         cases h
         simp only [Bool.and_eq_true] at hb
         refine ⟨s,rfl, ?_,fun j b hj=>?_, ?_⟩
         · have:=hb.2
           rw [Z5] at this
           have:s.data.toList.length<4294967281:=by simpa using this
           simpa using this
         · have:=(a0y _ _).1 hb.1 b (List.mem_of_getElem? hj)
           simpa using this
         · rw [a3I,c2H]; rfl
     · cases h
   · cases h
end Go.V
end
section
namespace Go.V
open Go.RowKit (Below)
theorem Trie.bound {α:Type} (t:Trie α):∃ c, ∀ i,c≤i→t.get i=none:=by
 induction t with
 | leaf=>exact ⟨0,fun i _=>Trie.get_leaf i⟩
 | node v l r ihl ihr=>
   obtain ⟨a,ha⟩:=ihl
   obtain ⟨b,hb⟩:=ihr
   refine ⟨2 * a+2 * b+3,fun i hi=>?_⟩
   obtain ⟨k,rfl⟩:∃ k,i=k+1:=⟨i - 1,by omega⟩
   rw [Trie.get_node_succ]
   split
   · exact ha _ (by omega)
   · exact hb _ (by omega)
def b2h (a d c:Nat):Nat→Prop:=fun i=>i<c∧¬ (a≤i∧i<d)
theorem b2x {P:Program} {T:Tab} {vs:a3J} (hT:TabOk P T) (hM:P.follows .mixedOrders=true)
 {ext:Nat→Option (List Value→M Value)} (hE:a4C P T vs ext) {N:Nat} {sh:a1N} (hs:a7I P T ext N sh) {f:Nat} {fn:Func} {c:Code}
 (hPf:P.funcs[f]?=some fn) (hnum:(fn.name == "runtime.NumGoroutine")=false) (hb:fn.body=some c) {g:List Value→M Value} (hFr:∀ aS9,Fr (g aS9))
 (h:∀ aS9 s v s1,g aS9 s=some (v,s1)→∀ c',s.c≤c'→s1.c≤c'→(∀ i,c'≤i→s.h.get i=none) →
   ∃ n v2 s2 m,K4 sh n f aS9 ⟨c',s.h,s.r,s.w⟩=some (.ret v2,s2)∧View (b2h s.c s1.c c') m s.h s1.h s2.h∧VRen (b2h s.c s1.c c') m v v2∧∀ i,s1.c≤i→i<c'→s2.h.get i=s.h.get i) :
 Y4 P T vs f g:=by
 refine ⟨hFr, ?_⟩
 intro B0 w0 hL hB aS9 s v s1 w K as' hg S hG F has
 have hE':=hE B0 w0 hL hB
 obtain ⟨c0,hc0⟩:=Trie.bound s.h
 obtain ⟨dr,dw,_,_,hle1,_,hdw,_,hkeep,_⟩:=hFr aS9 s v s1 hg
 obtain ⟨n,v2,s2,m,hrun,hV,hv,hfor⟩:=h aS9 s v s1 hg (c0+s.c+s1.c) (by omega) (by omega) (fun i hi=>hc0 i (by omega))
 generalize hc':c0+s.c+s1.c=c' at hrun hV hv hfor
 have hbig:∀ i,c'≤i→s.h.get i=none:=fun i hi=>hc0 i (by omega)
 refine Or.inr ⟨a1J hPf hnum hb, ?_⟩
 rcases a9m hT hM hE' hs n f aS9 ⟨c',s.h,s.r,s.w⟩ (.ret v2) s2 w K as' hrun S hG (fun i hi _=>hbig i hi) has with ⟨v1,v',w',K',_,q1,_⟩ | ⟨_,q⟩
 · rw [a1J hPf hnum hb] at q1; cases q1
 · refine q.mono fun e w' hq=>?_
   obtain ⟨v',K2,e1,st,r⟩:=hq
   have hn:∀ b x,m b=some x→¬ b2h s.c s1.c c' b:=fun b x e=>(hV.new b x.1 x.2 e).1
   have hob:∀ b o,s.h.get b=some o→b2h s.c s1.c c' b:=fun b o ho=>by
    refine ⟨?_,fun hx=>?_⟩
    · by_cases hlt:b<c'
      · exact hlt
      · rw [hbig b (by omega)] at ho; cases ho
    · rw [F b hx.1 hx.2] at ho; cases ho
   refine ⟨v',KR (b2h s.c s1.c c') m K2,e1,⟨fun b g' l hk=>?_,fun i g' hi=>?_,d1z hV S st.le hob st.sim⟩,VR.ren hn hv r⟩
   · obtain ⟨o,ho⟩:=S.dom2 b g' l hk
     rw [a6h (hob b o ho)]
     exact st.le b g' l hk
   · by_cases hlt:i<c'
     · rw [a6h ⟨hlt,by omega⟩]
       exact c3L S st.sim st.le (hfor i hi hlt) g'
     · have hsn:s.h.get i=none:=hbig i (by omega)
       rw [S.none hsn g']
       cases hk:KR (b2h s.c s1.c c') m K2 i g' with
       | none=>rfl
       | some l=>
         rcases b1p hk with ⟨hb',_⟩ | ⟨_,_,b2,g2,hm,_⟩
         · exact absurd hb'.1 hlt
         · obtain ⟨_,_,cs,ds,e2,_⟩:=hV.new i b2 g2 hm
           have:s1.h.get i=s.h.get i:=hkeep i (fun hx=>by have:=hdw i hx; omega)
           rw [this,hsn] at e2
           cases e2
end Go.V
end
section
noncomputable section
namespace Go.V
def upd (h:Trie VObj) (i:Nat) (o:VObj):Trie VObj:=Trie.put (some o) (i+1) h i
theorem c0M (h:Trie VObj) (i:Nat) (o:VObj) (j:Nat):(upd h i o).get j=if j=i then some o else h.get j:=Trie.get_put _ _ _ _ (Nat.lt_succ_self _) _
theorem c3c {h:Trie VObj} {i:Nat} {o:VObj} {j:Nat} (e:j=i):(upd h i o).get j=some o:=by rw [c0M,if_pos e]
theorem F6 {h:Trie VObj} {i:Nat} {o:VObj} {j:Nat} (e:j≠i):(upd h i o).get j=h.get j:=by rw [c0M,if_neg e]
theorem I6 (h:Trie VObj) (i:Nat) (o:VObj):(upd h i o).get i=some o:=c3c rfl
section
variable {α β:Type} (c:Nat) (h:Trie VObj) (r w:List Nat)
theorem e3S (m:M α) (f:α→M β):M.bind m f ⟨c,h,r,w⟩=match m ⟨c,h,r,w⟩ with
 | none=>none
 | some x=>f x.1 x.2:=Eq.trans rfl rfl
theorem e3U (a:α):M.pure a ⟨c,h,r,w⟩=some (a,⟨c,h,r,w⟩):=Eq.trans rfl rfl
theorem c3v (i:Nat):rd i ⟨c,h,r,w⟩=match Nat.blt i c with
 | true=>match h.get i with
   | some o=>some (o,⟨c,h,i::r,w⟩)
   | none=>none
 | false=>none:=Eq.trans rfl rfl
theorem c3F (i:Nat) (o:VObj):wr i o ⟨c,h,r,w⟩=match Nat.blt i c with
 | true=>match h.get i with
   | some _=>some ((),⟨c,upd h i o,r,i::w⟩)
   | none=>none
 | false=>none:=by
 unfold wr
 cases Nat.blt i c with
 | false=>rfl
 | true=>cases h.get i with
   | none=>rfl
   | some _=>simp only; rw [Trie.putK_eq]; rfl
theorem c9k (o:VObj):new o ⟨c,h,r,w⟩=some (c,⟨c+1,upd h c o,r,c::w⟩):=by rw [b1B]; rfl
end
theorem P7 {α:Type} (a:α):M.foot (M.pure a)=M.pure (a,([], [])):=Eq.trans rfl rfl
theorem Q9 {α β:Type} (a:α) (f:α→M β):M.obind (some a) f=f a:=Eq.trans rfl rfl
theorem R5 {α:Type} (m:M α):M.guard true m=m:=Eq.trans rfl rfl
theorem r9 {α:Type} (l:List α):M4 [] l=l:=Eq.trans rfl rfl
theorem o7 {α:Type} (x:α) (l m:List α):M4 (x::l) m=x::M4 l m:=Eq.trans rfl rfl
theorem a8y {α:Type} (cs:List (Value×Nat)) (cur:Nat) (ro:Bool) (k:List (Value×Nat)→Nat→Bool→M α):a7v (.cells cs cur ro) k=k cs cur ro:=Eq.trans rfl rfl
theorem a9t {α:Type} (a:Addr) (k:Addr→M α):a4T (.pointer (some a)) k=k a:=Eq.trans rfl rfl
theorem H9 {a b:Nat} (h:a<b):Nat.blt a b=true:=by simpa [Nat.blt_eq] using h
theorem b0V {a b:Nat} (h:a≤b):Nat.ble a b=true:=Nat.ble_eq_true_of_le h
theorem a9o {a b:Nat} (h:a≠b):Nat.beq a b=false:=by
 cases q:Nat.beq a b with
 | false=>rfl
 | true=>exact absurd (Nat.eq_of_beq_eq_true q) h
theorem D7 (a:Nat):Nat.beq a a=true:=by simp
theorem E9 (a:Nat):Nat.ble 0 a=true:=Eq.trans rfl rfl
theorem J7 (g:Nat) (cs:List (Value×Nat)):Y0 g cs 0=some []:=by cases cs <;> rfl
theorem J5 (g:Nat) (v:Value) (st:Nat) (cs:List (Value×Nat)) (n:Nat):Y0 g ((v,st)::cs) (n+1)=match Nat.ble st g with
 | true=>match Y0 g cs n with
   | some vs=>some (v::vs)
   | none=>none
 | false=>none:=Eq.trans rfl rfl
theorem O6 {α:Type} (l:List α):a2I l 0=l:=by cases l <;> rfl
theorem S9 {α:Type} (x:α) (l:List α) (n:Nat):a2I (x::l) (n+1)=a2I l n:=Eq.trans rfl rfl
theorem a1L {α:Type} (l:List α):a5W l 0=[]:=by cases l <;> rfl
theorem a1K {α:Type} (x:α) (l:List α) (n:Nat):a5W (x::l) (n+1)=x::a5W l n:=Eq.trans rfl rfl
theorem M0 {α β:Type} (f:α→β):a1R f []=[]:=Eq.trans rfl rfl
theorem K9 {α β:Type} (f:α→β) (x:α) (l:List α):a1R f (x::l)=f x::a1R f l:=Eq.trans rfl rfl
theorem D5 {α:Type}:L9 ([]:List α)=0:=Eq.trans rfl rfl
theorem o9 {α:Type} (x:α) (l:List α):L9 (x::l)=L9 l+1:=Eq.trans rfl rfl
theorem w9 {α:Type} (f:α→Bool):a0o f []=true:=Eq.trans rfl rfl
theorem G5 {α:Type} (x:α) (l:List α):a3b (x::l) 0=some x:=Eq.trans rfl rfl
theorem F9 {α:Type} (x:α) (l:List α) (n:Nat):a3b (x::l) (n+1)=a3b l n:=Eq.trans rfl rfl
theorem R3 (g:Nat) (cs:List (Value×Nat)):a4N g [] cs=cs:=Eq.trans rfl rfl
theorem Q0 (g:Nat) (v:Value) (vs:List Value) (c:Value×Nat) (cs:List (Value×Nat)):a4N g (v::vs) (c::cs)=(v,g)::a4N g vs cs:=Eq.trans rfl rfl
theorem U5 (g:Nat) (vs:List Value) (c:Value×Nat) (cs:List (Value×Nat)):a5o g vs (c::cs) 0=some (a4N g vs (c::cs)):=Eq.trans rfl rfl
def H6 {α:Type} (r:Option (α×S)) (Q:α→S→Prop):Prop:=∃ a s,r=some (a,s)∧Q a s
theorem H6.mono {α:Type} {r:Option (α×S)} {Q R:α→S→Prop} (h:H6 r Q) (k:∀ a s,Q a s→R a s):H6 r R:=
 let ⟨a,s,e,q⟩:=h; ⟨a,s,e,k a s q⟩
theorem H6.pure {α:Type} {a:α} {s:S} {Q:α→S→Prop} (h:Q a s):H6 (M.pure a s) Q:=⟨a,s,rfl,h⟩
theorem H6.some {α:Type} {a:α} {s:S} {Q:α→S→Prop} (h:Q a s):H6 (Option.some (a,s)) Q:=⟨a,s,rfl,h⟩
theorem H6.bind {α β:Type} {m:M α} {f:α→M β} {s:S} {P:α→S→Prop} {Q:β→S→Prop} (h:H6 (m s) P) (k:∀ a s',P a s'→H6 (f a s') Q):H6 (M.bind m f s) Q:=by
 obtain ⟨a,s',e,p⟩:=h
 show H6 (match m s with | none=>none | Option.some x=>f x.1 x.2) Q
 rw [e]
 exact k a s' p
abbrev a2X:=List Nat×List Nat
section
variable (p:Program) (T:Tab)
def c1p (call:Nat→List Value→M Value) (ops:List Oper) (fr:List Value) (o:Oper):M (Value×a2X):=
 bcase (a3c ops fr o) (M.foot (a3v p T call fr o.op)) (M.pure (undef,([], [])))
def b6i {β:Type} (call:Nat→List Value→M Value) (ops os:List Oper):List Value→List a2X→(List Value→List a2X→M β)→M β:=
 List.rec (motive:=fun _=>List Value→List a2X→(List Value→List a2X→M β)→M β) (fun fr acc k=>k fr acc)
  (fun o _ ih fr acc k=>M.bind (c1p p T call ops fr o) fun x=>ih (a0B fr o x.1) (M4 acc [x.2]) k) os
theorem c6l {β:Type} (call:Nat→List Value→M Value) (ops:List Oper):∀ (os:List Oper) (fr:List Value) (acc:List a2X) (k:List Value→List a2X→M β),
 M.bind (a4e p T call ops os fr) (fun y=>k y.1 (acc ++ y.2))=b6i p T call ops os fr acc k:=by
 intro os
 induction os with
 | nil=>
   intro fr acc k
   show M.bind (M.pure (fr, [])) _=k fr acc
   rw [V.e1g,List.append_nil]
 | cons o os ih=>
   intro fr acc k
   show M.bind (match a3c ops fr o with
    | true=>M.bind (M.foot (a3v p T call fr o.op)) fun x=>a7C x.1 fun v=>M.bind (a4e p T call ops os (a0B fr o v)) fun y=>M.pure (y.1,x.2::y.2)
    | false=>M.bind (a4e p T call ops os (a0B fr o undef)) fun y=>M.pure (y.1,([], [])::y.2)) _=M.bind (c1p p T call ops fr o) fun x=>b6i p T call ops os (a0B fr o x.1) (M4 acc [x.2]) k
   have key:∀ (v:Value) (F:a2X),M.bind (M.bind (a4e p T call ops os (a0B fr o v)) fun y=>M.pure (y.1,F::y.2)) (fun y=>k y.1 (acc ++ y.2))=b6i p T call ops os (a0B fr o v) (M4 acc [F]) k:=by
    intro v F
    rw [a3T, ← ih,N9]
    congr 1
    funext y
    rw [V.e1g]
    simp
   unfold c1p
   cases a3c ops fr o with
   | true=>
     rw [J3]
     simp only
     rw [a3T]
     congr 1
     funext x
     rw [a7Y]
     exact key x.1 x.2
   | false=>
     rw [J2,V.e1g]
     exact key undef ([], [])
theorem a4l (call:o8) (ops:List Oper) (n:Nat) (U:List Nat) (vs:List Value) (W:List Nat) :
 b3z p T call ops n U vs W=b6i p T (a1M call) ops ops (a1I U vs (a3Y n)) [] fun fr F=>M.guard (a0A ops (a1Y ops F) [] [] 0) (M.pure (.normal,a2s fr W)):=by
 rw [← c6l]
 rfl
end
def b3U (ops:List Oper) (pj:List Nat) (j:Nat) (y:Oper) (xs:List Oper):Nat→Option (List (Nat×Nat)):=
 List.rec (motive:=fun _=>Nat→Option (List (Nat×Nat))) (fun _=>some []) (fun x _ ih i=>match a4O i pj with
  | true=>ih (i+1)
  | false=>match a2Y (a4z x) (a4U ops y) && a2Y (a4z x) (a4z y) && a2Y (a4z y) (a4U ops x) with
    | true=>match ih (i+1) with
      | some L=>some ((i,j)::L)
      | none=>none
    | false=>none) xs
def b7v (ops:List Oper) (ys:List Oper):List Oper→List (List Nat)→Nat→Option (List (Nat×Nat)):=
 List.rec (motive:=fun _=>List Oper→List (List Nat)→Nat→Option (List (Nat×Nat))) (fun _ _ _=>some [])
  (fun y _ ih xs ps n=>match a7s n y.after.toList with
    | true=>match b3U ops (a5V (a6P ps) y.after.toList) n y xs 0 with
      | some L=>match ih (M4 xs [y]) (M4 ps [a5V (a6P ps) y.after.toList]) (n+1) with
        | some L'=>some (M4 L L')
        | none=>none
      | none=>none
    | false=>none) ys
def b1v (x y:a2X):Bool:=a2Y x.2 y.1 && a2Y x.2 y.2 && a2Y y.2 x.1
def a3R (L:List (Nat×Nat)) (F:List a2X):Bool:=a0o (fun ij=>match a3b F ij.1 with
 | some x=>match a3b F ij.2 with
   | some y=>b1v x y
   | none=>false
 | none=>false) L
theorem c6j {ops:List Oper} {pj:List Nat} {j:Nat} {y:Oper×a2X} {F:List a2X} (hy:F[j]?=some y.2):∀ (xs:List (Oper×a2X)) (i:Nat) (L:List (Nat×Nat)),
 b3U ops pj j y.1 (xs.map (·.1)) i=some L→(∀ (k:Nat) (x:Oper×a2X),xs[k]?=some x→F[i+k]?=some x.2)→a3R L F=true→a7w ops pj y xs i=true:=by
 intro xs
 induction xs with
 | nil=>intro i L _ _ _; rfl
 | cons x xs ih=>
   intro i L h hF hL
   have h':(match a4O i pj with
    | true=>b3U ops pj j y.1 (xs.map (·.1)) (i+1)
    | false=>match a2Y (a4z x.1) (a4U ops y.1) && a2Y (a4z x.1) (a4z y.1) && a2Y (a4z y.1) (a4U ops x.1) with
      | true=>match b3U ops pj j y.1 (xs.map (·.1)) (i+1) with
        | some L=>some ((i,j)::L)
        | none=>none
      | false=>none)=some L:=h
   show (match a4O i pj || free2 ops x y with | true=>a7w ops pj y xs (i+1) | false=>false)=true
   have hF':∀ (k:Nat) (x:Oper×a2X),xs[k]?=some x→F[i+1+k]?=some x.2:=fun k z hz=>by
    have:=hF (k+1) z (by simpa using hz)
    rw [show i+1+k=i+(k+1) by omega]; exact this
   cases hm:a4O i pj with
   | true=>
     rw [hm] at h'
     rw [Bool.true_or]
     exact ih (i+1) L h' hF' hL
   | false=>
     rw [hm] at h'
     simp only at h'
     split at h'
     · rename_i hst
       split at h'
       · rename_i L' hL'
         cases h'
         have hL2:a3R ((i,j)::L') F=true:=hL
         unfold a3R at hL2
         rw [l9,Bool.and_eq_true] at hL2
         have hx:=hF 0 x rfl
         rw [Nat.add_zero] at hx
         have ha:b1v x.2 y.2=true:=by
          have:=hL2.1
          rw [a4v,a4v,hx,hy] at this
          exact this
         have hfr:free2 ops x y=true:=by
          unfold free2
          unfold b1v at ha
          simp only [Bool.and_eq_true] at hst ha ⊢
          exact ⟨⟨⟨⟨⟨ha.1.1,ha.1.2⟩,ha.2⟩,hst.1.1⟩,hst.1.2⟩,hst.2⟩
         rw [hfr,Bool.or_true]
         exact ih (i+1) L' hL' hF' hL2.2
       · cases h'
     · cases h'
theorem c3P {L L':List (Nat×Nat)} {F:List a2X} (h:a3R (M4 L L') F=true):a3R L F=true∧a3R L' F=true:=by
 unfold a3R at h ⊢
 rw [N9,b2c,List.all_append] at h
 rw [b2c,b2c]
 simpa using h
theorem c8X {ops:List Oper} {F:List a2X}:∀ (ys xs:List (Oper×a2X)) (ps:List (List Nat)) (n:Nat) (L:List (Nat×Nat)),xs.length=n→(∀ (k:Nat) (x:Oper×a2X),(xs ++ ys)[k]?=some x→F[k]?=some x.2) →
 b7v ops (ys.map (·.1)) (xs.map (·.1)) ps n=some L→a3R L F=true→a0A ops ys xs ps n=true:=by
 intro ys
 induction ys with
 | nil=>intro xs ps n L _ _ _ _; rfl
 | cons y ys ih=>
   intro xs ps n L hn hF h hL
   have h':(match a7s n y.1.after.toList with
    | true=>match b3U ops (a5V (a6P ps) y.1.after.toList) n y.1 (xs.map (·.1)) 0 with
      | some L=>match b7v ops (ys.map (·.1)) (M4 (xs.map (·.1)) [y.1]) (M4 ps [a5V (a6P ps) y.1.after.toList]) (n+1) with
        | some L'=>some (M4 L L')
        | none=>none
      | none=>none
    | false=>none)=some L:=h
   show (match a7s n y.1.after.toList && a7w ops (a5V (a6P ps) y.1.after.toList) y xs 0 with | true=>a0A ops ys (M4 xs [y]) (M4 ps [a5V (a6P ps) y.1.after.toList]) (n+1) | false=>false)=true
   split at h'
   · rename_i he
     split at h'
     · rename_i L1 h1
       split at h'
       · rename_i L2 h2
         cases h'
         obtain ⟨f1,f2⟩:=c3P hL
         have hy:F[n]?=some y.2:=hF n y (by rw [List.getElem?_append_right (by omega),hn]; simp)
         have hp:=c6j hy xs 0 L1 h1 (fun k x hx=>by
          rw [Nat.zero_add]
          exact hF k x (by rw [List.getElem?_append_left (List.getElem?_eq_some_iff.1 hx).1]; exact hx)) f1
         rw [he,hp]
         refine ih (M4 xs [y]) _ (n+1) L2 (by rw [N9]; simp [hn]) (fun k x hx=>hF k x (by rw [N9] at hx; simpa using hx)) ?_ f2
         rw [N9 xs,List.map_append]
         rw [N9 (xs.map _)] at h2
         exact h2
       · cases h'
     · cases h'
   · cases h'
theorem c3t {α β:Type}:∀ (l:List α) (m:List β),L9 m=L9 l→(a1Y l m).map (·.1)=l∧(∀ (k:Nat) x,(a1Y l m)[k]?=some x→m[k]?=some x.2):=by
 intro l
 induction l with
 | nil=>intro m _; exact ⟨rfl,fun k x h=>by simp [a1Y] at h⟩
 | cons a l ih=>
   intro m hm
   cases m with
   | nil=>simp [Z5] at hm
   | cons b m=>
     obtain ⟨h1,h2⟩:=ih m (by simpa [Z5] using hm)
     refine ⟨by show a::(a1Y l m).map (·.1)=_; rw [h1],fun k x hx=>?_⟩
     cases k with
     | zero=>
       have:some (a,b)=some x:=hx
       cases this; rfl
     | succ k=>exact h2 k x hx
theorem a4S {ops:List Oper} {L:List (Nat×Nat)} {n:Nat} (h:b7v ops ops [] [] 0=some L) (hn:L9 ops=n) {F:List a2X} (hl:L9 F=n) (hF:a3R L F=true):a0A ops (a1Y ops F) [] [] 0=true:=by
 obtain ⟨h1,h2⟩:=c3t ops F (hl.trans hn.symm)
 exact c8X (a1Y ops F) [] [] 0 L rfl (fun k x hx=>h2 k x hx) (by rw [h1]; exact h) hF
end Go.V
end
section
namespace Go.Proofs.YtmomonnlmbljoaaGreatDoor
open Go.V Go.Proofs
set_option maxRecDepth 100000
set_option linter.unusedVariables false
noncomputable def bn (op:BinOp) (t:TypeId) (x y:Operand) (a b:Value):M Value:=a4c Tryz.prog R4 op t x y a b
noncomputable def un (op:UnOp) (a:Value):M Value:=xUn Tryz.prog op a
noncomputable def mx (ts:Array TypeId) (vs:List Value):M Value:=b1b Tryz.prog ts vs
noncomputable def dr (call:o8) (ops:List Oper) (n:Nat) (U:List Nat) (vs:List Value) (W:List Nat):M (Xc×List Value):=b3z Tryz.prog R4 call ops n U vs W
end Go.Proofs.YtmomonnlmbljoaaGreatDoor
end
