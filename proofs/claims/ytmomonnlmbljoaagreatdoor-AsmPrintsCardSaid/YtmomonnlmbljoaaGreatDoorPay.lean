import Derived.Test.YtmomonnlmbljoaaGreatDoorPaw
import Derived.Test.YtmomonnlmbljoaaGreatDoorPax
section
namespace Go.V
open Go.RowKit (Below)
section
variable {P:Program} {T:Tab} {vs:a3J}
noncomputable def b0k (cs:List Value) (n e:Nat) (aS9:List Value):M Value:=match aS9 with
 | []=>M.bind (a1U cs) fun a=>M.pure (.slice (some a) n e)
 | _::_=>M.fail
theorem b8D (hT:TabOk P T) (hM:P.follows .mixedOrders=true) (hng:T.ng≤vs.length) (hp:∀ l∈vs, ∀ v∈l,plain v=true)
 {ext:Nat→Option (List Value→M Value)} (hE:a4C P T vs ext) {N:Nat} {sh:a1N} (hs:a7I P T ext N sh) {k f:Nat} {fn:Func} {c:Code} {s2:S} {b2 g2 n e cur:Nat} {cs:List (Value×Nat)}
 (hPf:P.funcs[f]?=some fn) (hnum:(fn.name == "runtime.NumGoroutine")=false) (hb:fn.body=some c)
 (h:K4 sh k f [] (a4P vs)=some (.ret (.slice (some ⟨b2, 0,some g2⟩) n e),s2)) (hcs:s2.h.get b2=some (.cells cs cur false))
 (hpl:a0o (fun x=>plain x.1 && Nat.ble x.2 g2) cs=true):Y4 P T vs f (b0k (a1R (·.1) cs) n e):=by
 refine ⟨fun aS9=>?_, ?_⟩
 · cases aS9 with
   | nil=>
     show Fr (M.bind (a1U (a1R (·.1) cs)) fun a=>M.pure (Value.slice (some a) n e))
     exact Fr.bind (Fr.newCells _) fun _=>Fr.pure _
   | cons a aS9=>exact Fr.fail
 · intro B0 w0 hL hB aS9 s v s1 w K as' hg S hG F has
   cases aS9 with
   | cons a aS9=>cases hg
   | nil=>
     have hg':M.bind (a1U (a1R (·.1) cs)) (fun a=>M.pure (Value.slice (some a) n e)) s=some (v,s1):=hg
     obtain ⟨a,s1',q1,q2⟩:=O7 hg'
     obtain ⟨rfl,rfl⟩:=J8 q2
     have e0:as'=[]:=List.length_eq_zero_iff.1 (by rw [has.len]; rfl)
     subst e0
     have hLw:=hL.below S.below hB
     have hE':=hE w.heap.size ⟨w,fun _=>True⟩ hLw hLw.size
     refine Or.inr ⟨a1J hPf hnum hb, ?_⟩
     rcases a9m hT hM hE' hs k f [] (a4P vs) _ s2 w (a6F vs) [] h (a9u (fun _ _=>trivial) (fun _ _=>trivial) hLw hp) (b1a hng) (fun i hi _=>by
      rw [a3r]
      have:vs.length≤i:=by have:=hi; unfold a4P at this; rw [Z5] at this; exact this
      rw [List.getElem?_eq_none this]) (VRL.nil _) with ⟨v1,v',w',K',_,q1,_⟩ | ⟨_,q⟩
     · rw [a1J hPf hnum hb] at q1; cases q1
     · refine q.mono fun e1 w' hq=>?_
       obtain ⟨v',K2,e2,st,r⟩:=hq
       refine ⟨v', ?_⟩
       obtain ⟨h1,h2,h3,h4⟩:=a9g q1
       generalize hz:Value.slice (some ⟨b2, 0,some g2⟩) n e=z at r
       cases r with
       | plain hpp=>subst hz; simp [V.plain] at hpp
       | slice hk l1 l2 l3 l4 l5=>
         cases hz
         rename_i l a'
         have hown:l.own=true:=((st.sim.gens b2 cs cur false hcs).1 g2 l hk).2 rfl
         have hblk:=st.sim.own b2 g2 l hk hown
         have hlo:l.lo=0:=Nat.le_zero.1 l1
         have G:Grew w w':=⟨st.sim.below.os,st.sim.below.tape,st.sim.below.output,st.sim.below.size,st.sim.below.block⟩
         have hK:∀ g,K s.c g=none:=S.none (F s.c (Nat.le_refl _) (by omega))
         have hsz:B0≤w.heap.size:=Nat.le_trans S.size0.1 S.below.size
         refine ⟨K.put s.c 0 l,e2,⟨KM.le_put K _ (hK 0),fun i g hi=>KM.put_other K _ (fun q=>by omega), ?_⟩, ?_⟩
         · refine b4R (o:=.cells ((a1R (·.1) cs).map fun v=>(v, 0)) 0 false) (a6E S G) hK h4 (st.sim.dom b2 g2 l hk) (Nat.le_trans hsz hblk) hown (fun b g l' q=>by have:=S.dom b g l' q; omega) ?_ (fun es q=>by cases q) (fun x pos q=>by cases q)
           intro cs' cur' ro' q
           cases q
           refine ⟨rfl,rfl,fun x hx=>?_,hlo, ?_, ?_⟩
           · obtain ⟨v,_,rfl⟩:=List.mem_map.1 hx; rfl
           · exact st.sim.room b2 g2 l cs cur false hk hown hcs
           · intro off v0 st0 q
             rw [a3I,List.map_map,List.getElem?_map] at q
             cases hvo:cs[off]? with
             | none=>rw [hvo] at q; cases q
             | some y=>
               rw [hvo] at q
               cases q
               have hy:=(a0y _ _).1 hpl y (List.mem_of_getElem? hvo)
               rw [Bool.and_eq_true] at hy
               obtain ⟨v1,c1,c2⟩:=st.sim.cells b2 cs cur false g2 l hcs hk off y.1 y.2 hvo (Nat.le_of_ble_eq_true hy.2) (by omega)
               rw [c2.eq_of_plain hy.1] at c1
               exact ⟨y.1,by rw [hlo] at c1; exact c1,.plain hy.1⟩
         · rw [h2]
           exact VR.slice (KM.put_same _ _ _ _) l1 l2 l3 l4 l5
       | _=>cases hz
theorem c0c {c:Nat→Prop} {m:Nat→Option (Nat×Nat)}:∀ (n:Nat) (v:Value),a0e n v=true→VRen c m v v:=by
 intro n
 induction n with
 | zero=>intro v h; cases h
 | succ n ih=>
   intro v h
   have key:∀ l:List Value,a0o (a0e n) l=true→∀ (i:Nat) (v w:Value),l[i]?=some v→l[i]?=some w→VRen c m v w:=fun l hl i v w h1 h2=>by
    rw [h1] at h2; cases h2
    exact ih _ ((a0y _ _).1 hl _ (List.mem_of_getElem? h1))
   cases v with
   | agg cs=>exact .agg rfl (key _ h)
   | tuple cs=>exact .tuple rfl (key _ h)
   | iface t v=>exact .iface (ih v h)
   | _=>exact .plain h
theorem b1n (hT:TabOk P T) (hM:P.follows .mixedOrders=true)
 {ext:Nat→Option (List Value→M Value)} (hE:a4C P T vs ext) {N:Nat} {sh:a1N} (hs:a7I P T ext N sh) {f:Nat} {fn:Func} {cd:Code}
 (hPf:P.funcs[f]?=some fn) (hnum:(fn.name == "runtime.NumGoroutine")=false) (hb:fn.body=some cd) {g:List Value→M Value} (hFr:∀ aS9,Fr (g aS9))
 (h:∀ aS9 s v s1,g aS9 s=some (v,s1)→a0e 8 v=true∧s1.c=s.c∧s1.h=s.h∧∀ c,s.c≤c →
   ∃ n,H6 (go (K4 sh n f aS9) ⟨c,s.h,s.r,s.w⟩) fun x s2=>x=.ret v∧∀ i,i<c→s2.h.get i=s.h.get i):Y4 P T vs f g:=by
 refine b2x hT hM hE hs hPf hnum hb hFr fun aS9 s v s1 hg c' h1 h2 h3=>?_
 obtain ⟨q1,q2,q3,q4⟩:=h aS9 s v s1 hg
 obtain ⟨n,x,s2,e,rfl,hold⟩:=q4 c' h1
 refine ⟨n,v,s2,fun _=>none,e,⟨fun i hi=>Or.inr ⟨by rw [q3],hold i hi.1⟩,fun b b2 g2 hm=>(by cases hm),fun b hb _=>?_,fun b b' x x' hm=>(by cases hm)⟩,c0c 8 v q1,fun i h1 h2=>hold i h2⟩
 rw [q3]
 refine h3 b (Nat.le_of_not_lt fun hlt=>hb ⟨hlt,fun hx=>by omega⟩)
theorem a8K (hT:TabOk P T) (hM:P.follows .mixedOrders=true)
 {ext:Nat→Option (List Value→M Value)} (hE:a4C P T vs ext) {N:Nat} {sh:a1N} (hs:a7I P T ext N sh) {f:Nat} {fn:Func} {cd:Code}
 (hPf:P.funcs[f]?=some fn) (hnum:(fn.name == "runtime.NumGoroutine")=false) (hb:fn.body=some cd) {g:List Value→Option Value}
 (h:∀ aS9 v,g aS9=some v→a0e 8 v=true∧∀ c h r w,
   ∃ n,H6 (go (K4 sh n f aS9) ⟨c,h,r,w⟩) fun x s2=>x=.ret v∧∀ i,i<c→s2.h.get i=h.get i):Y4 P T vs f (fun aS9=>M.lift (g aS9)):=by
 refine b1n hT hM hE hs hPf hnum hb (fun aS9=>Fr.lift _) fun aS9 s v s1 hg=>?_
 obtain ⟨e,rfl⟩:=a6a hg
 obtain ⟨q1,q2⟩:=h aS9 v e
 exact ⟨q1,rfl,rfl,fun c _=>q2 c s1.h s1.r s1.w⟩
theorem a6i {f:Nat} {g:List Value→Option Value} (h:∀ aS9 v,g aS9=some v→a0o (a0e 8) aS9=true∧a0e 8 v=true∧a6Z P vs f aS9 v):Y4 P T vs f (fun aS9=>M.lift (g aS9)):=by
 refine ⟨fun _=>Fr.lift _, ?_⟩
 intro B0 w0 hL hB aS9 s v s' w K as' hg S hG F has
 obtain ⟨e1,e2⟩:=a6a hg
 obtain ⟨t1,t2,t3⟩:=h aS9 v e1
 rw [a8A has t1]
 obtain ⟨c1,c2⟩:=t3 w (hL.below S.below hB)
 refine Or.inr ⟨c1,c2.mono fun e w' ⟨q1,q2⟩=>⟨v,K,q1,⟨KM.le_refl K,fun _ _ _=>rfl, ?_⟩,a2O 8 v t2⟩⟩
 subst e2
 exact a6E S ⟨q2.os,q2.tape,q2.output,q2.size,q2.block⟩
noncomputable def a1O (sh:a1N) (f:Nat) (g:List Value→M Value):a1N:=Trie.put (some (arX g)) (f+1) sh f
theorem c4h (sh:a1N) (f:Nat) (g:List Value→M Value) (i:Nat):(a1O sh f g).get i=if i=f then some (arX g) else sh.get i:=Trie.get_put _ _ _ _ (Nat.lt_succ_self _) _
theorem c5c {ext:Nat→Option (List Value→M Value)} {N:Nat} {sh:a1N} (hs:a7I P T ext N sh) (f:Nat) (g:List Value→M Value):a7I P T (a0m ext f g) N (a1O sh f g):=by
 intro i q hi
 rw [c4h] at hi
 by_cases hif:i=f
 · subst hif
   rw [if_pos rfl] at hi
   cases hi
   exact a9r (by unfold a0m; rw [D7])
 · rw [if_neg hif] at hi
   have h0:=hs i q hi
   have e:a0m ext f g i=ext i:=by unfold a0m; rw [a9o hif]
   intro call args
   have:=h0 call args
   unfold atF at this ⊢
   rw [e]
   exact this
structure Shelf' (P:Program) (T:Tab) (vs:a3J) (N:Nat) (ext:Nat→Option (List Value→M Value)) (sh:a1N):Prop where
 e:a4C P T vs ext
 s:a7I P T ext N sh
theorem Shelf'.add {N:Nat} {ext:Nat→Option (List Value→M Value)} {sh:a1N} (L:Shelf' P T vs N ext sh) {f:Nat} {g:List Value→M Value} (hg:Y4 P T vs f g):Shelf' P T vs N (a0m ext f g) (a1O sh f g):=
 ⟨a8L L.e hg,c5c L.s f g⟩
theorem b0R (sh:a1N) (n f:Nat) (aS9:List Value) {q:o8→List Value→M CR} (h:sh.get f=some q):K4 sh (n+1) f aS9=q (K4 sh n) aS9:=by
 show M.obind (sh.get f) (fun g=>g (K4 sh n) aS9)=_
 rw [h]; rfl
theorem a8j (sh:a1N) (n f:Nat) (aS9:List Value) {g:List Value→M Value} (h:sh.get f=some (arX g)):K4 sh (n+1) f aS9=M.bind (g aS9) fun v=>M.pure (.ret v):=b0R sh n f aS9 h
theorem a5g (sh:a1N) (n f:Nat) (aS9:List Value) {g:List Value→Option Value} {v:Value} (h:sh.get f=some (arX fun aS9=>M.lift (g aS9))) (e:g aS9=some v):K4 sh (n+1) f aS9=M.pure (.ret v):=by
 rw [a8j sh n f aS9 h,e]; rfl
end
end Go.V
end
section
noncomputable section
namespace Go.V
section
variable (p:Program) (T:Tab)
theorem b2P {op:BinOp} {t:TypeId} {x y:Operand} {k:IntKind} {n m:Nat} {v:Value} (h1:a5Z op k n m=none) (h2:b2p op k (.ofNat n) (.ofNat m)=none) (h3:b5X op k n m=some v):a4c p T op t x y (.int k (.ofNat n)) (.int k (.ofNat m))=M.pure v:=by
 have hk:a2G k k=true:=by cases k <;> rfl
 have:a5a op k k (.ofNat n) (.ofNat m)=some v:=by
  unfold a5a; simp only [a6H,h1,hk,h2,h3]
 unfold a4c; simp only [this]
theorem b7L (k:IntKind) (n:Nat) (h:n<G7 k):a0H k (.ofNat n)=.ofNat n:=by
 unfold a0H
 simp only [H9 h]
theorem b3d (t:TypeId) (x y:Operand) (k:IntKind) (n m:Nat) (h:n<G7 k):a4c p T .quo t x y (.int k (.ofNat n)) (.int k (.ofNat (m+1)))=M.pure (.int k (.ofNat (n / (m+1)))):=by
 refine b2P p T rfl rfl ?_
 show some (Value.int k (a0H k (.ofNat (n / (m+1)))))=_
 rw [b7L _ _ (Nat.lt_of_le_of_lt (Nat.div_le_self _ _) h)]
theorem b2Y (t:TypeId) (x y:Operand) (k:IntKind) (n m:Nat):a4c p T .rem t x y (.int k (.ofNat n)) (.int k (.ofNat (m+1)))=M.pure (.int k (.ofNat (n % (m+1)))):=b2P p T rfl rfl rfl
theorem b1i (t:TypeId) (x y:Operand) (k:IntKind) (n m:Nat) (hk:G7 k=2 ^ k.bits) (h1:n<G7 k) (h2:m<G7 k):a4c p T .and t x y (.int k (.ofNat n)) (.int k (.ofNat m))=M.pure (.int k (.ofNat (Nat.land n m))):=by
 refine b2P p T rfl rfl ?_
 show some (Value.int k (a0H k (.ofNat (Nat.land (Nat.mod n (Nat.pow 2 k.bits)) (Nat.mod m (Nat.pow 2 k.bits))))))=_
 have e1:Nat.mod n (Nat.pow 2 k.bits)=n:=Nat.mod_eq_of_lt (by rw [← show (2:Nat) ^ k.bits=Nat.pow 2 k.bits from rfl, ← hk]; exact h1)
 have e2:Nat.mod m (Nat.pow 2 k.bits)=m:=Nat.mod_eq_of_lt (by rw [← show (2:Nat) ^ k.bits=Nat.pow 2 k.bits from rfl, ← hk]; exact h2)
 rw [e1,e2,b7L]
 exact Nat.lt_of_le_of_lt Nat.and_le_left h1
theorem a5J (t:TypeId) (x y:Operand) (k k':IntKind) (n m:Nat) (h:m≤k.bits):a4c p T .shl t x y (.int k (.ofNat n)) (.int k' (.ofNat m))=M.pure (.int k (a0H k (.ofNat (n * 2 ^ m)))):=by
 have e:a5a .shl k k' (.ofNat n) (.ofNat m)=some (.int k (a0H k (.ofNat (n * 2 ^ m)))):=by
  have e1:a5Z .shl k n m=some (.int k (a0H k (.ofNat (n * 2 ^ m)))):=by
   show some (Value.int k (a0H k (.ofNat (Nat.mul n (Nat.pow 2 (a9p k m))))))=_
   unfold a9p
   rw [b0V h]
   rfl
  unfold a5a
  simp only [a6H,e1]
 unfold a4c; simp only [e]
theorem d2e (k k':IntKind) (z:Int) (m:Nat) (h:m≤k.bits):a2L p (Op.shift .shr k z k' (.ofNat m))=some (.int k (z.fdiv (2 ^ m))):=by
 unfold Op.shift
 rw [if_neg (by simp only [Int.ofNat_eq_natCast]; omega)]
 simp only [Int.ofNat_eq_natCast,Int.toNat_natCast,Nat.min_eq_left h]
 rfl
theorem b8j (t:TypeId) (x y:Operand) (k k':IntKind) (z:Int) (m:Nat) (h:m≤k.bits):a4c p T .shr t x y (.int k z) (.int k' (.ofNat m))=M.pure (.int k (z.fdiv (2 ^ m))):=by
 cases z with
 | ofNat n=>
   have e:a5a .shr k k' (.ofNat n) (.ofNat m)=some (.int k (.ofNat (n / 2 ^ m))):=by
    have e1:a5Z .shr k n m=some (.int k (.ofNat (n / 2 ^ m))):=by
     show some (Value.int k (.ofNat (Nat.div n (Nat.pow 2 (a9p k m)))))=_
     unfold a9p
     rw [b0V h]
     rfl
    unfold a5a
    simp only [a6H,e1]
   unfold a4c; simp only [e]
   have:(Int.ofNat n).fdiv (2 ^ m)=Int.ofNat (n / 2 ^ m):=by
    rw [show ((2:Int) ^ m)=((2 ^ m:Nat):Int) by simp,Int.fdiv_eq_ediv_of_nonneg _ (Int.natCast_nonneg _)]
    exact (Int.natCast_ediv n (2 ^ m)).symm
   rw [this]
 | negSucc n=>
   have e:a5a .shr k k' (.negSucc n) (.ofNat m)=none:=by
    unfold a5a
    show (match a2G k k' with | true=>_ | false=>none)=none
    cases a2G k k' <;> rfl
   unfold a4c; simp only [e]
   have hn:b0t T .shr t x y (.int k (.negSucc n)) (.int k' (.ofNat m))=none:=rfl
   unfold a8x
   rw [hn]
   simp only [show a0e 8 (Value.int k (.negSucc n))=true from rfl,show a0e 8 (Value.int k' (.ofNat m))=true from rfl,Bool.and_self,R5]
   have k2:a2L p (do eqGuard .shr t x y (.int k (.negSucc n)) (.int k' (.ofNat m)); binOp .shr t (.int k (.negSucc n)) (.int k' (.ofNat m)))=some (.int k ((Int.negSucc n).fdiv (2 ^ m))):=by
    rw [a4E]
    have:a2L p (eqGuard .shr t x y (.int k (.negSucc n)) (.int k' (.ofNat m)))=some ():=rfl
    rw [this]
    exact d2e p k k' _ m h
   rw [k2]
   rfl
end
theorem b1c (s:ByteArray) (kl kh:IntKind) (l h:Nat) (e:l≤h) (e2:h≤L9 s.data.toList):a8X (.string s) (some (.int kl (.ofNat l))) (some (.int kh (.ofNat h)))=M.pure (.string ⟨⟨a5W (a2I s.data.toList l) (h - l)⟩⟩):=by
 show b1E s _ _=_
 unfold b1E
 simp only [a5Q,b5z,Q9,b0V e,b0V e2,Bool.and_self,R5,a2R]
theorem a7u (l:List Value) (i:Nat):a9O i (.tuple ⟨l⟩)=M.obind (a3b l i) M.pure:=Eq.trans rfl rfl
theorem b5Y (t b:Bool) (x y:Value):Q5 t (bcase b x y)=bcase b (Q5 t x) (Q5 t y):=by cases b <;> rfl
theorem b0K (t:Bool):Q5 t undef=false:=Eq.trans rfl rfl
theorem b3W (b x:Bool):bcase b x false=(b && x):=by cases b <;> rfl
theorem b8r {β:Type} (b n:Bool) (x y u u' v:Value) (s:S) (f:Value→M β) (e:Option (β×S)):bcase b e (a3d (go (W9 (bcase b u x) (bcase (!b && n) y u') v) s) f)=bcase b e (a3d (go (W9 x (bcase n y u') v) s) f):=by cases b <;> rfl
theorem D6 {α:Type} (x y:List α):L9 (M4 x y)=L9 x+L9 y:=by rw [Z5,Z5,Z5,N9,List.length_append]
theorem b3o (b c:Bool):W9 (.bool (!b)) (bcase b undef (.bool c)) (.bool false)=M.pure (.bool (!b && c)):=by cases b <;> rfl
theorem a6j (a b:Value):W9 (.bool true) a b=M.pure a:=Eq.trans rfl rfl
theorem a4h (a b:Value):W9 (.bool false) a b=M.pure b:=Eq.trans rfl rfl
theorem a6K (b:Bool) (x y:Value):bcase b (CR.ret x) (CR.ret y)=.ret (bcase b x y):=by cases b <;> rfl
theorem a8v (b:Bool) (x y:List UInt8):bcase b (Value.string ⟨⟨x⟩⟩) (Value.string ⟨⟨y⟩⟩)=.string ⟨⟨bcase b x y⟩⟩:=by cases b <;> rfl
theorem b2e (b:Bool) (x y:Bool):bcase b (Value.bool x) (Value.bool y)=.bool (bcase b x y):=by cases b <;> rfl
theorem P9 (call:o8) (f:Nat) (vs:List Value):a1M call f vs=M.bind (call f vs) fun r=>a3L r M.pure fun _=>M.fail:=Eq.trans rfl rfl
theorem C8 (F:List a2X):a3R [] F=true:=Eq.trans rfl rfl
theorem q9 (i j:Nat) (L:List (Nat×Nat)) (F:List a2X):a3R ((i,j)::L) F=((match a3b F i with
 | some x=>match a3b F j with
   | some y=>b1v x y
   | none=>false
 | none=>false) && a3R L F):=l9 _ _ _
theorem A9 (a b c d:List Nat):b1v (a,b) (c,d)=(a2Y b c && a2Y b d && a2Y d a):=Eq.trans rfl rfl
theorem q8 (m:List Nat):a2Y [] m=true:=Eq.trans rfl rfl
theorem l8 (i:Nat) (l m:List Nat):a2Y (i::l) m=(!(a4O i m) && a2Y l m):=l9 _ _ _
theorem l7 (l:List Nat):a2Y l []=true:=by
 induction l with
 | nil=>rfl
 | cons i l ih=>rw [l8,ih]; rfl
theorem E5 (i:Nat):a4O i []=false:=Eq.trans rfl rfl
theorem C9 (i x:Nat) (m:List Nat):a4O i (x::m)=match Nat.beq i x with
 | true=>true
 | false=>a4O i m:=Eq.trans rfl rfl
theorem a2H {sh:a1N} {f N:Nat} {q:Cb→Nat→o8→Value→M CR} (h:sh.get f=some (ar1 (q X0 N))) (n:Nat) (a:Value):K4 sh (n+1) f [a]=q H8 N (K4 sh n) a:=by rw [b0R sh n f _ h,b1U]; rfl
theorem a9L {sh:a1N} {f N:Nat} {q:Cb→Nat→o8→Value→Value→M CR} (h:sh.get f=some (ar2 (q X0 N))) (n:Nat) (a b:Value):K4 sh (n+1) f [a,b]=q H8 N (K4 sh n) a b:=by rw [b0R sh n f _ h,b1U]; rfl
end Go.V
end
section
noncomputable section
namespace Go.V
def on1 (k:IntKind) (q:Int→Option Value) (bs:List Value):Option Value:=match bs with
 | [.int k' n]=>bcase (a2G k k') (q n) none
 | _=>none
def on2 (k1 k2:IntKind) (q:Int→Int→Option Value) (bs:List Value):Option Value:=match bs with
 | [.int k1' n,.int k2' m]=>bcase (a2G k1 k1' && a2G k2 k2') (q n m) none
 | _=>none
theorem a7f (k:IntKind):a2G k k=true:=by cases k <;> rfl
theorem b4C {k:IntKind} {q:Int→Option Value} {bs:List Value} {v:Value} (h:on1 k q bs=some v):∃ n,bs=[.int k n]∧q n=some v:=by
 unfold on1 at h
 split at h
 · rename_i k' n
   cases hk:a2G k k' with
   | true=>rw [hk] at h; rw [a6q hk]; exact ⟨n,rfl,h⟩
   | false=>rw [hk] at h; cases h
 · cases h
theorem c9g {k1 k2:IntKind} {q:Int→Int→Option Value} {bs:List Value} {v:Value} (h:on2 k1 k2 q bs=some v):∃ n m,bs=[.int k1 n,.int k2 m]∧q n m=some v:=by
 unfold on2 at h
 split at h
 · rename_i k1' n k2' m
   cases hk:a2G k1 k1' && a2G k2 k2' with
   | true=>
     rw [hk] at h
     rw [Bool.and_eq_true] at hk
     rw [a6q hk.1,a6q hk.2]; exact ⟨n,m,rfl,h⟩
   | false=>rw [hk] at h; cases h
 · cases h
theorem b6E (k:IntKind) (q:Int→Option Value) (n:Int):on1 k q [.int k n]=q n:=by
 show bcase (a2G k k) (q n) none=_
 rw [a7f]; rfl
theorem d2T (k1 k2:IntKind) (q:Int→Int→Option Value) (n m:Int):on2 k1 k2 q [.int k1 n,.int k2 m]=q n m:=by
 show bcase (a2G k1 k1 && a2G k2 k2) (q n m) none=_
 rw [a7f,a7f]; rfl
def X1 (k:IntKind) (q:Int→Option Value):List Value→M Value:=fun bs=>M.lift (on1 k q bs)
def X2 (k1 k2:IntKind) (q:Int→Int→Option Value):List Value→M Value:=fun bs=>M.lift (on2 k1 k2 q bs)
theorem a2x {sh:a1N} {f:Nat} {k:IntKind} {q:Int→Option Value} (h:sh.get f=some (arX (X1 k q))) (m:Nat) {n:Int} {v:Value} (e:q n=some v):K4 sh (m+1) f [.int k n]=M.pure (.ret v):=
 a5g sh m f _ h (by rw [b6E]; exact e)
theorem Y2 {sh:a1N} {f:Nat} {k1 k2:IntKind} {q:Int→Int→Option Value} (h:sh.get f=some (arX (X2 k1 k2 q))) (m:Nat) {n n':Int} {v:Value} (e:q n n'=some v):K4 sh (m+1) f [.int k1 n,.int k2 n']=M.pure (.ret v):=
 a5g sh m f _ h (by rw [d2T]; exact e)
def a2T (m:M CR) (v:Value):Prop:=∀ c h r w,H6 (go m ⟨c,h,r,w⟩) fun x s2=>x=.ret v∧∀ i,i<c→s2.h.get i=h.get i
theorem a2T.pure {m:M CR} {v:Value} (h:m=M.pure (.ret v)):a2T m v:=fun c hh r w=>⟨.ret v,_,by rw [h]; rfl,rfl,fun _ _=>rfl⟩
section
variable {P:Program} {T:Tab} {vs:a3J} {ext:Nat→Option (List Value→M Value)} {N:Nat} {sh:a1N}
theorem a6t (hT:TabOk P T) (hM:P.follows .mixedOrders=true) (L:Shelf' P T vs N ext sh) {f:Nat} {fn:Func} {cd:Code} (hPf:P.funcs[f]?=some fn) (hnum:(fn.name == "runtime.NumGoroutine")=false) (hb:fn.body=some cd)
 {k:IntKind} {q:Int→Option Value} (h:∀ n v,q n=some v→a0e 8 v=true∧∃ m,a2T (K4 sh m f [.int k n]) v):Y4 P T vs f (X1 k q):=
 a8K hT hM L.e L.s hPf hnum hb fun bs v hq=>by
  obtain ⟨n,rfl,e⟩:=b4C hq
  obtain ⟨h1,m,h2⟩:=h n v e
  exact ⟨h1,fun c h r w=>⟨m,h2 c h r w⟩⟩
theorem c6c (hT:TabOk P T) (hM:P.follows .mixedOrders=true) (L:Shelf' P T vs N ext sh) {f:Nat} {fn:Func} {cd:Code} (hPf:P.funcs[f]?=some fn) (hnum:(fn.name == "runtime.NumGoroutine")=false) (hb:fn.body=some cd)
 {k1 k2:IntKind} {q:Int→Int→Option Value} (h:∀ n n' v,q n n'=some v→a0e 8 v=true∧∃ m,a2T (K4 sh m f [.int k1 n,.int k2 n']) v):Y4 P T vs f (X2 k1 k2 q):=
 a8K hT hM L.e L.s hPf hnum hb fun bs v hq=>by
  obtain ⟨n,n',rfl,e⟩:=c9g hq
  obtain ⟨h1,m,h2⟩:=h n n' v e
  exact ⟨h1,fun c h r w=>⟨m,h2 c h r w⟩⟩
theorem b2l {f:Nat} {k:IntKind} {q:Int→Option Value} (h:∀ n v,q n=some v→a0e 8 v=true∧a6Z P vs f [.int k n] v):Y4 P T vs f (X1 k q):=
 a6i fun bs v hq=>by
  obtain ⟨n,rfl,e⟩:=b4C hq
  exact ⟨rfl,h n v e⟩
end
end Go.V
namespace Go.V
section
variable {P:Program} {T:Tab} {vs:a3J}
theorem c9C {f:Nat} {k:IntKind} {q1 q2 q:Int→Option Value} (h1:Y4 P T vs f (X1 k q1)) (h2:Y4 P T vs f (X1 k q2)) (h:∀ z v,q z=some v→q1 z=some v∨q2 z=some v):Y4 P T vs f (X1 k q):=by
 refine ⟨fun bs=>Fr.lift _, ?_⟩
 intro B0 w0 hL hB bs s v s' w K bs' hg
 obtain ⟨e1,rfl⟩:=a6a hg
 obtain ⟨z,rfl,e⟩:=b4C e1
 rcases h z v e with e2 | e2
 · exact h1.2 B0 w0 hL hB _ s' v s' w K bs' (by show M.lift (on1 k q1 _) s'=_; rw [b6E,e2]; rfl)
 · exact h2.2 B0 w0 hL hB _ s' v s' w K bs' (by show M.lift (on1 k q2 _) s'=_; rw [b6E,e2]; rfl)
noncomputable def b1R (r:Option (CR×S)) (m:Nat):Bool:=match r with
 | some x=>match x.1 with
   | .ret v=>match v with
     | .int k n=>a2G k .i64 && (match n with
       | .ofNat j=>Nat.beq j m
       | .negSucc _=>false)
     | _=>false
   | .pan _=>false
 | none=>false
theorem b0J {r:Option (CR×S)} {m:Nat} (h:b1R r m=true):∃ s,r=some (.ret (.int .i64 (.ofNat m)),s):=by
 unfold b1R at h
 split at h
 · rename_i x
   split at h
   · rename_i v hv
     split at h
     · rename_i k n
       rw [Bool.and_eq_true] at h
       split at h
       · rename_i j
         obtain ⟨y,s⟩:=x
         obtain rfl:y=_:=hv
         obtain rfl:=a6q h.1
         obtain rfl:=Nat.eq_of_beq_eq_true h.2
         exact ⟨s,rfl⟩
       · cases h.2
     · cases h
   · cases h
 · cases h
end
end Go.V
end
section
noncomputable section
namespace Go.V
def Q6 (c:Nat) (h:Trie VObj) (v:Value) (vs:List Value):Prop:=∃ a e,v=.slice a vs.length e ∧
 (vs=[]∨∃ b o g cs cur ro,a=some ⟨b,o,some g⟩∧e=1∧b<c∧h.get b=some (.cells cs cur ro)∧Y0 g (a2I cs o) vs.length=some vs)
theorem c0W {g:Nat}:∀ {cs:List (Value×Nat)} {n:Nat} {vs:List Value},Y0 g cs n=some vs→∀ (i:Nat) (x:Value),vs[i]?=some x→Y0 g (a2I cs i) 1=some [x]:=by
 intro cs
 induction cs with
 | nil=>
   intro n vs h i x hx
   cases n with
   | zero=>cases h; simp at hx
   | succ n=>cases h
 | cons q cs ih=>
   intro n vs h i x hx
   cases n with
   | zero=>cases h; simp at hx
   | succ n=>
     obtain ⟨v,st⟩:=q
     rw [J5] at h
     split at h
     · rename_i hb
       split at h
       · rename_i vs' hvs
         cases h
         cases i with
         | zero=>
           obtain rfl:v=x:=by simpa using hx
           rw [O6,J5,hb,J7]
         | succ i=>exact ih hvs i x (by simpa using hx)
       · cases h
     · cases h
theorem Q6.get {c:Nat} {h:Trie VObj} {v:Value} {vs:List Value} (H:Q6 c h v vs) {i:Nat} {x:Value} (hx:vs[i]?=some x) :
 ∃ b o g cs cur ro,v=.slice (some ⟨b,o,some g⟩) vs.length 1∧b<c∧h.get b=some (.cells cs cur ro)∧Y0 g (a2I cs (o+i)) 1=some [x]:=by
 obtain ⟨a,e,rfl,hor⟩:=H
 rcases hor with rfl | ⟨b,o,g,cs,cur,ro,rfl,rfl,h1,h2,h3⟩
 · simp at hx
 · exact ⟨b,o,g,cs,cur,ro,rfl,h1,h2,by rw [b5o]; exact c0W h3 i x hx⟩
theorem Q6.read {c c':Nat} {h h':Trie VObj} {v:Value} {vs:List Value} (H:Q6 c h v vs) (hc:c≤c') (hh:∀ b,b<c→h'.get b=h.get b) {i:Nat} {x:Value} (hx:vs[i]?=some x) :
 ∃ p b,b<c∧a4X 1 v (.int .i64 (.ofNat i))=M.pure p∧∀ r w,go (K7 p) ⟨c',h',r,w⟩=some (x,⟨c',h',b::r,w⟩):=by
 obtain ⟨b,o,g,cs,cur,ro,rfl,h1,h2,h3⟩:=H.get hx
 have hlt:i<vs.length:=(List.getElem?_eq_some_iff.1 hx).1
 refine ⟨.pointer (some ⟨b,o+i * 1,some g⟩),b,h1,a6S 1 i vs.length .i64 b o (some g) hlt (by decide),fun r w=>?_⟩
 rw [M8,H9 (by omega),hh b h1,h2,K8,Nat.mul_one,h3]
 rfl
theorem Q6.len {c:Nat} {h:Trie VObj} {v:Value} {vs:List Value} (H:Q6 c h v vs):a3U v=M.pure (.int .i64 (.ofNat vs.length)):=by
 obtain ⟨a,e,rfl,_⟩:=H
 exact a5G _ _ _
theorem Q6.one {c:Nat} {h:Trie VObj} {v:Value} {vs:List Value} (H:Q6 c h v vs):a0I v=true:=by
 obtain ⟨a,e,rfl,_⟩:=H
 rfl
theorem Q6.mono {c c':Nat} {h h':Trie VObj} {v:Value} {vs:List Value} (H:Q6 c h v vs) (hc:c≤c') (hh:∀ b,b<c→h'.get b=h.get b):Q6 c' h' v vs:=by
 obtain ⟨a,e,rfl,hor⟩:=H
 refine ⟨a,e,rfl, ?_⟩
 rcases hor with h0 | ⟨b,o,g,cs,cur,ro,h1,h2,h3,h4,h5⟩
 · exact Or.inl h0
 · exact Or.inr ⟨b,o,g,cs,cur,ro,h1,h2,by omega,by rw [hh b h3]; exact h4,h5⟩
def c1Q (v:Value):M (List Value):=M.guard (b3e v) (a9h 1 v)
theorem Fr.rdSl (v:Value):Fr (c1Q v):=Fr.guard _ (Fr.source _ _)
theorem c5f {v:Value} {s s':S} {vs:List Value} (h:c1Q v s=some (vs,s')):Q6 s.c s.h v vs∧s'.c=s.c∧s'.h=s.h:=by
 obtain ⟨h1,h2⟩:=U1 h
 cases v with
 | slice a n e=>
   have h3:(match a with
    | none=>M.guard (Nat.beq n 0) <| M.pure []
    | some a=>match n with
      | 0=>M.pure []
      | len+1=>M.guard (Nat.beq e 1) <| loadN a ((len+1) * 1)) s=some (vs,s'):=h2
   cases a with
   | none=>
     obtain ⟨q1,q2⟩:=U1 h3
     obtain ⟨rfl,rfl⟩:=J8 q2
     obtain rfl:=Nat.eq_of_beq_eq_true q1
     exact ⟨⟨none,e,rfl,Or.inl rfl⟩,rfl,rfl⟩
   | some a=>
     cases n with
     | zero=>
       obtain ⟨rfl,rfl⟩:=J8 h3
       exact ⟨⟨some a,e,rfl,Or.inl rfl⟩,rfl,rfl⟩
     | succ n=>
       obtain ⟨q1,q2⟩:=U1 h3
       have hb:a.block<s.c:=by
        obtain ⟨g,h5,h6⟩:=U2 q2
        obtain ⟨o,s1,h7,_⟩:=O7 h6
        exact (b1o h7).1
       obtain ⟨g,cs,cur,ro,e1,e2,e3,e4,e5⟩:=a8k q2
       obtain rfl:=Nat.eq_of_beq_eq_true q1
       rw [Nat.mul_one, ← a5I] at e3
       have hl:vs.length=n+1:=(a6O g _ _ _ e3).1
       obtain ⟨b,off,sp⟩:=a
       obtain rfl:sp=some g:=e1
       refine ⟨⟨_, 1,by rw [hl],Or.inr ⟨b,off,g,cs,cur,ro,rfl,rfl,hb,e2,by rw [hl]; exact e3⟩⟩,e4,e5⟩
 | _=>cases h1
def b1X (k:IntKind) (vs:List Value):Option (List Int):=List.rec (motive:=fun _=>Option (List Int)) (some []) (fun v _ ih=>match v with
 | .int k' n=>match a2G k k' with
   | true=>match ih with
     | some l=>some (n::l)
     | none=>none
   | false=>none
 | _=>none) vs
theorem c2p {k:IntKind}:∀ {vs:List Value} {l:List Int},b1X k vs=some l→vs=l.map (fun n=>Value.int k n):=by
 intro vs
 induction vs with
 | nil=>intro l h; cases h; rfl
 | cons v vs ih=>
   intro l h
   cases v with
   | int k' n=>
     have h':(match a2G k k' with
      | true=>match b1X k vs with
        | some l=>some (n::l)
        | none=>none
      | false=>none)=some l:=h
     split at h'
     · rename_i hk
       split at h'
       · rename_i l' hl
         cases h'
         rw [List.map_cons, ← ih hl,a6q hk]
       · cases h'
     · cases h'
   | _=>cases h
end Go.V
namespace Go.V
theorem c5e {c c':Nat} {h h':Trie VObj} {v:Value} {vs:List Value} (H:Q6 c h v vs) (hc:c≤c') (hh:∀ b,b<c→h'.get b=h.get b) :
 ∃ q:List Nat→List Nat, ∀ r w,go (c1Q v) ⟨c',h',r,w⟩=some (vs,⟨c',h',q r,w⟩):=by
 obtain ⟨a,e,rfl,hor⟩:=H
 rcases hor with rfl | ⟨b,o,g,cs,cur,ro,rfl,rfl,h1,h2,h3⟩
 · refine ⟨id,fun r w=>?_⟩
   cases a <;> rfl
 · cases vs with
   | nil=>exact ⟨id,fun r w=>rfl⟩
   | cons x vs=>
     refine ⟨fun r=>b::r,fun r w=>?_⟩
     show go (M.guard (Nat.beq 1 1) (loadN ⟨b,o,some g⟩ ((vs.length+1) * 1))) _=_
     rw [D7,R5,a6I,H9 (by omega),hh b h1,h2,K8,Nat.mul_one]
     rw [List.length_cons] at h3
     rw [h3]
     rfl
theorem c3W (k:IntKind) (l:List Int):b1X k (l.map fun n=>Value.int k n)=some l:=by
 induction l with
 | nil=>rfl
 | cons x l ih=>
   show (match a2G k k with
    | true=>match b1X k (l.map fun n=>Value.int k n) with
      | some l=>some (x::l)
      | none=>none
    | false=>none)=_
   rw [a7f,ih]
end Go.V
end
section
namespace Go.Proofs.YtmomonnlmbljoaaGreatDoor
open Go.V Go.RowKit Go.Shelf Go.Proofs
set_option maxRecDepth 100000
variable {mL:Int}
theorem b1d (w:World) (k:Nat) (os:Array Obj):Below w.heap.size w (Sort.grow (w.drewN k) os):=
 ⟨rfl,rfl,rfl,by simp [Sort.grow,World.drewN],fun i hi=>by
  show (w.heap ++ os)[i]?=_
  rw [Array.getElem?_append_left hi]⟩
theorem c4R:Tryz.prog.globalNamed "internal/strconv.uint64pow10"=some 2:=by kernel_rfl
theorem b7Q:a8Y=Lib.pow10Tab.map fun z=>Value.int .u64 z:=by kernel_rfl
theorem b2S {w:World} (h:LaidV (V6 mL) w):Lib.TabIs Tryz.prog w "internal/strconv.uint64pow10" .u64 Lib.pow10Tab:=by
 obtain ⟨t,fz,e⟩:=h.row 2 a8Y rfl (by rw [b7Q]; decide)
 show w.var? Tryz.prog _=_
 unfold World.var?
 rw [c4R]
 show (match w.heap[2]? with | some (.cells cs _ _)=>some cs | _=>none)=_
 rw [e,b7Q]
noncomputable def b2q (bs:List Value):Option Value:=match bs with
 | [.int .i64 n]=>bcase (decide (-9223372036854775808≤n) && decide (n≤9223372036854775807)) (some (.string ⟨⟨Lib.itoa n⟩⟩)) none
 | _=>none
noncomputable def a9Z (bs:List Value):Option Value:=match bs with
 | [.int .i64 n,.int .i64 10]=>bcase (decide (-9223372036854775808≤n) && decide (n≤9223372036854775807)) (some (.string ⟨⟨Lib.itoa n⟩⟩)) none
 | _=>none
noncomputable def a5K (bs:List Value):Option Value:=match bs with
 | [.int .u64 (.ofNat u),.int .i64 10]=>bcase (Nat.blt u 18446744073709551616) (some (.string ⟨⟨Lib.decDigits u⟩⟩)) none
 | _=>none
theorem a2K {α:Type} {b:Bool} {x:α} {v:α} (h:bcase b (some x) none=some v):b=true∧v=x:=by
 cases b with
 | true=>cases h; exact ⟨rfl,rfl⟩
 | false=>cases h
theorem c6q:Y4 Tryz.prog R4 (V6 mL) 37 (fun bs=>M.lift (b2q bs)):=a6i fun bs v h=>by
 unfold b2q at h
 split at h
 · rename_i n
   obtain ⟨h1,rfl⟩:=a2K h
   simp only [Bool.and_eq_true,decide_eq_true_eq] at h1
   refine ⟨rfl,rfl,fun w hL=>⟨a1J Tryz.func37 (by kernel_rfl) rfl, ?_⟩⟩
   refine (Any.strconv_Itoa Tryz.lItoa n h1.1 h1.2 w (b2S hL)).mono fun e w' hq=>?_
   obtain ⟨rfl,k,os,rfl⟩:=hq
   exact ⟨rfl,b1d w k os⟩
 · cases h
theorem c2o:Y4 Tryz.prog R4 (V6 mL) 95 (fun bs=>M.lift (a9Z bs)):=a6i fun bs v h=>by
 unfold a9Z at h
 split at h
 · rename_i n
   obtain ⟨h1,rfl⟩:=a2K h
   simp only [Bool.and_eq_true,decide_eq_true_eq] at h1
   refine ⟨rfl,rfl,fun w hL=>⟨a1J Tryz.func95 (by kernel_rfl) rfl, ?_⟩⟩
   refine (Any.strconv_FormatInt_10 Tryz.lFormatInt n h1.1 h1.2 w (b2S hL)).mono fun e w' hq=>?_
   obtain ⟨rfl,k,os,rfl⟩:=hq
   exact ⟨rfl,b1d w k os⟩
 · cases h
theorem b9S:Y4 Tryz.prog R4 (V6 mL) 126 (fun bs=>M.lift (a5K bs)):=a6i fun bs v h=>by
 unfold a5K at h
 split at h
 · rename_i u
   obtain ⟨h1,rfl⟩:=a2K h
   refine ⟨rfl,rfl,fun w hL=>⟨a1J Tryz.func126 (by kernel_rfl) rfl, ?_⟩⟩
   refine (b5P u (by simpa [Nat.blt_eq] using h1) w (b2S hL)).mono fun e w' hq=>?_
   obtain ⟨rfl,k,os,rfl⟩:=hq
   exact ⟨rfl,b1d w k os⟩
 · cases h
end Go.Proofs.YtmomonnlmbljoaaGreatDoor
end
