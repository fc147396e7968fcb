import Derived.Test.YtmomonnlmbljoaaGreatDoorRaa
section
namespace Go.V
theorem J2 {α:Type} (l:List α):F4 l=l.length:=by
 induction l with
 | nil=>rfl
 | cons v l ih=>show F4 l+1=_; rw [ih]; rfl
theorem O7 {α:Type} (l:List α):∀ i,M8 l i=l[i]?:=by
 induction l with
 | nil=>intro i; rfl
 | cons v l ih=>intro i; cases i with
   | zero=>rfl
   | succ i=>exact ih i
theorem a2B {α:Type} (l:List α):∀ i,a4c l i=l.drop i:=by
 induction l with
 | nil=>intro i; simp [a4c]
 | cons v l ih=>intro i; cases i with
   | zero=>rfl
   | succ i=>exact ih i
theorem a2D {α:Type} (l:List α):∀ i,a2x l i=l.take i:=by
 induction l with
 | nil=>intro i; simp [a2x]
 | cons v l ih=>intro i; cases i with
   | zero=>rfl
   | succ i=>show v::a2x l i=_; rw [ih]; rfl
theorem I5 {α:Type} (l m:List α):G7 l m=l ++ m:=by
 induction l with
 | nil=>rfl
 | cons v l ih=>show v::G7 l m=_; rw [ih]; rfl
theorem Q6 {α β:Type} (f:α→β) (l:List α):U8 f l=l.map f:=by
 induction l with
 | nil=>rfl
 | cons v l ih=>show f v::U8 f l=_; rw [ih]; rfl
theorem b0v {α:Type} (f:α→Bool) (v:α) (l:List α):L6 f (v::l)=(f v && L6 f l):=by
 show Bool.rec (motive:=fun _=>Bool) false (L6 f l) (f v)=_
 cases f v <;> rfl
theorem a3T {α:Type} (f:α→Bool) (l:List α):L6 f l=l.all f:=by
 induction l with
 | nil=>rfl
 | cons v l ih=>rw [b0v,ih]; rfl
theorem K9 {α:Type} (f:α→Bool) (l:List α):L6 f l=true ↔ ∀ x∈l,f x=true:=by
 rw [a3T,List.all_eq_true]
theorem Trie.get_node_zero {α:Type} (v:Option α) (l r:Trie α):(Trie.node v l r).get 0=v:=rfl
theorem Trie.get_node_succ {α:Type} (v:Option α) (l r:Trie α) (k:Nat) :
 (Trie.node v l r).get (k+1)=if k % 2=0 then l.get (k / 2) else r.get (k / 2):=by
 show (match k % 2 with | 0=>l.get (k / 2) | _+1=>r.get (k / 2))=_
 split <;> rename_i h <;> simp [h]
theorem Trie.get_leaf {α:Type} (n:Nat):(Trie.leaf:Trie α).get n=none:=rfl
def Trie.put {α:Type} (o:Option α) (f:Nat) (t:Trie α) (n:Nat):Trie α:=Trie.putK o f t n id
theorem Trie.putK_eq' {α:Type} (o:Option α) (f:Nat):∀ (β:Type) (t:Trie α) (n:Nat) (q:Trie α→β),Trie.putK o f t n q=q (Trie.put o f t n):=by
 induction f with
 | zero=>intro β t n q; rfl
 | succ f ih=>
   intro β t n q
   cases n with
   | zero=>cases t <;> rfl
   | succ k=>
     have hk:k % 2=0∨k % 2=1:=by omega
     cases t with
     | leaf=>
       show (match k % 2 with | 0=>Trie.putK o f .leaf (k / 2) fun t=>q (.node none t .leaf) | _+1=>Trie.putK o f .leaf (k / 2) fun t=>q (.node none .leaf t))=q (match k % 2 with | 0=>Trie.putK o f .leaf (k / 2) fun t=>id (Trie.node none t .leaf) | _+1=>Trie.putK o f .leaf (k / 2) fun t=>id (Trie.node none .leaf t))
       rcases hk with h | h <;> simp only [h] <;> rw [ih,ih] <;> rfl
     | node v l r=>
       show (match k % 2 with | 0=>Trie.putK o f l (k / 2) fun t=>q (.node v t r) | _+1=>Trie.putK o f r (k / 2) fun t=>q (.node v l t))=q (match k % 2 with | 0=>Trie.putK o f l (k / 2) fun t=>id (Trie.node v t r) | _+1=>Trie.putK o f r (k / 2) fun t=>id (Trie.node v l t))
       rcases hk with h | h <;> simp only [h] <;> rw [ih,ih] <;> rfl
theorem Trie.putK_eq {α β:Type} (o:Option α) (f:Nat) (t:Trie α) (n:Nat) (q:Trie α→β):Trie.putK o f t n q=q (Trie.put o f t n):=Trie.putK_eq' o f β t n q
theorem Trie.get_put {α:Type} (o:Option α):∀ (f:Nat) (t:Trie α) (n:Nat),n<f→∀ m,(Trie.put o f t n).get m=if m=n then o else t.get m:=by
 intro f
 induction f with
 | zero=>intro t n h; omega
 | succ f ih=>
   intro t n h m
   cases n with
   | zero=>
     cases t with
     | leaf=>show (Trie.node o .leaf .leaf).get m=_; cases m with
       | zero=>simp [Trie.get_node_zero]
       | succ m=>simp [Trie.get_node_succ,Trie.get_leaf]
     | node v l r=>show (Trie.node o l r).get m=_; cases m with
       | zero=>simp [Trie.get_node_zero]
       | succ m=>simp [Trie.get_node_succ]
   | succ k=>
     have hk:k % 2=0∨k % 2=1:=by omega
     have hf:k / 2<f:=by omega
     cases t with
     | leaf=>
       have e:Trie.put o (f+1) (.leaf:Trie α) (k+1)=match k % 2 with | 0=>Trie.node none (Trie.put o f .leaf (k / 2)) .leaf | _+1=>Trie.node none .leaf (Trie.put o f .leaf (k / 2)):=by
        show (match k % 2 with | 0=>Trie.putK o f .leaf (k / 2) fun t=>id (Trie.node none t .leaf) | _+1=>Trie.putK o f .leaf (k / 2) fun t=>id (Trie.node none .leaf t))=_
        rcases hk with h | h <;> simp only [h] <;> rw [Trie.putK_eq] <;> rfl
       rw [e]
       cases m with
       | zero=>rcases hk with h | h <;> simp [h,Trie.get_node_zero,Trie.get_leaf]
       | succ m=>
         rcases hk with h | h <;> simp only [h,Trie.get_node_succ,ih _ _ hf,Trie.get_leaf] <;> (repeat' split) <;> first | rfl | omega
     | node v l r=>
       have e:Trie.put o (f+1) (.node v l r) (k+1)=match k % 2 with | 0=>Trie.node v (Trie.put o f l (k / 2)) r | _+1=>Trie.node v l (Trie.put o f r (k / 2)):=by
        show (match k % 2 with | 0=>Trie.putK o f l (k / 2) fun t=>id (Trie.node v t r) | _+1=>Trie.putK o f r (k / 2) fun t=>id (Trie.node v l t))=_
        rcases hk with h | h <;> simp only [h] <;> rw [Trie.putK_eq] <;> rfl
       rw [e]
       cases m with
       | zero=>rcases hk with h | h <;> simp [h,Trie.get_node_zero]
       | succ m=>
         rcases hk with h | h <;> simp only [h,Trie.get_node_succ,ih _ _ hf] <;> (repeat' split) <;> first | rfl | omega
theorem Y9 {α:Type} (n:Nat) (k:Nat→α):a1b n k=k n:=by cases n <;> rfl
theorem d8n {α:Type} (n:Int) (k:Int→α):d3B n k=k n:=by cases n <;> simp [d3B,Y9]
theorem U3 {β α:Type} (l:List β):∀ (k:List β→α),fList l k=k l:=by
 induction l with
 | nil=>intro k; rfl
 | cons x l ih=>intro k; exact ih fun l=>k (x::l)
theorem d3q {α:Type} (g:Option Nat) (k:Option Nat→α):c7S g k=k g:=by cases g <;> simp [c7S,Y9]
theorem d5x {α:Type} (a:Option Addr) (k:Option Addr→α):b0X a k=k a:=by
 cases a with
 | none=>rfl
 | some a=>simp [b0X,Y9,d3q]
theorem a0V {α:Type} (v:Value) (k:Value→α):a0R v k=k v:=by
 cases v with
 | bool b=>cases b <;> rfl
 | _=>simp [a0R,d8n,Y9,d5x,U3]
theorem w9 {α β:Type} {m:M α} {f:α→M β} {s s2:S} {b:β} (h:M.bind m f s=some (b,s2)):∃ a s1,m s=some (a,s1)∧f a s1=some (b,s2):=by
 unfold M.bind at h
 cases e:m s with
 | none=>rw [e] at h; cases h
 | some x=>rw [e] at h; exact ⟨x.1,x.2,rfl,h⟩
theorem C9 {α β:Type} {o:Option α} {f:α→M β} {s s2:S} {b:β} (h:M.obind o f s=some (b,s2)):∃ a,o=some a∧f a s=some (b,s2):=by
 cases o with
 | none=>cases h
 | some a=>exact ⟨a,rfl,h⟩
theorem A8 {α:Type} {c:Bool} {m:M α} {s s2:S} {b:α} (h:M.guard c m s=some (b,s2)):c=true∧m s=some (b,s2):=by
 cases c with
 | false=>cases h
 | true=>exact ⟨rfl,h⟩
theorem a1H {α:Type} {o:Option α} {s s2:S} {b:α} (h:M.lift o s=some (b,s2)):o=some b∧s2=s:=by
 cases o with
 | none=>cases h
 | some a=>cases h; exact ⟨rfl,rfl⟩
theorem o9 {α:Type} {a b:α} {s s2:S} (h:M.pure a s=some (b,s2)):b=a∧s2=s:=by cases h; exact ⟨rfl,rfl⟩
theorem a5p {i:Nat} {o:VObj} {s s2:S} (h:rd i s=some (o,s2)):i<s.c∧s.h.get i=some o∧s2.c=s.c∧s2.h=s.h:=by
 unfold rd at h
 split at h
 · rename_i hb
   split at h
   · rename_i o' ho; cases h; exact ⟨by simpa [Nat.blt_eq] using hb,ho,rfl,rfl⟩
   · cases h
 · cases h
def Fr {α:Type} (m:M α):Prop:=∀ s a s',m s=some (a,s')→∃ dr dw,s'.r=dr ++ s.r∧s'.w=dw ++ s.w∧s.c≤s'.c ∧
 (∀ i,i∈dr→i<s'.c)∧(∀ i,i∈dw→i<s'.c)∧(∀ i,s.c≤i→i<s'.c→i∈dw)∧(∀ i,i ∉ dw→s'.h.get i=s.h.get i) ∧
 ∀ h2 r2 w2,(∀ i,(i∈dr∨i∈dw)→i<s.c→h2.get i=s.h.get i) →
   ∃ h2',m ⟨s.c,h2,r2,w2⟩=some (a,⟨s'.c,h2',dr ++ r2,dw ++ w2⟩)∧(∀ i,i∈dw→h2'.get i=s'.h.get i)∧(∀ i,i ∉ dw→h2'.get i=h2.get i)
theorem Fr.pure {α:Type} (a:α):Fr (M.pure a):=by
 intro s a' s' h
 cases h
 exact ⟨[], [],rfl,rfl,Nat.le_refl _,by simp,by simp,fun i h1 h2=>by omega,fun _ _=>rfl,fun h2 r2 w2 _=>⟨h2,rfl,by simp,fun _ _=>rfl⟩⟩
theorem Fr.fail {α:Type}:Fr (M.fail:M α):=by
 intro s a s' h; cases h
theorem Fr.lift {α:Type} (o:Option α):Fr (M.lift o):=by
 cases o with
 | none=>exact Fr.fail
 | some a=>exact Fr.pure a
theorem Fr.obind {α β:Type} (o:Option α) {f:α→M β} (h:∀ a,Fr (f a)):Fr (M.obind o f):=by
 cases o with
 | none=>exact Fr.fail
 | some a=>exact h a
theorem Fr.guard {α:Type} (b:Bool) {m:M α} (h:Fr m):Fr (M.guard b m):=by
 cases b with
 | true=>exact h
 | false=>exact Fr.fail
theorem Fr.bind {α β:Type} {m:M α} {f:α→M β} (hm:Fr m) (hf:∀ a,Fr (f a)):Fr (M.bind m f):=by
 intro s b s2 h
 cases e:m s with
 | none=>simp [M.bind,e] at h
 | some x=>
   obtain ⟨a,s1⟩:=x
   have h':f a s1=some (b,s2):=by simpa [M.bind,e] using h
   obtain ⟨dr1,dw1,e1,e2,e3,e4,e5,e6,e7,e8⟩:=hm s a s1 e
   obtain ⟨dr2,dw2,g1,g2,g3,g4,g5,g6,g7,g8⟩:=hf a s1 b s2 h'
   refine ⟨dr2 ++ dr1,dw2 ++ dw1,by rw [g1,e1,List.append_assoc],by rw [g2,e2,List.append_assoc],by omega, ?_, ?_, ?_, ?_, ?_⟩
   · intro i hi; rcases List.mem_append.1 hi with hi | hi
     · exact g4 i hi
     · have:=e4 i hi; omega
   · intro i hi; rcases List.mem_append.1 hi with hi | hi
     · exact g5 i hi
     · have:=e5 i hi; omega
   · intro i h1 h2
     by_cases hc:i<s1.c
     · exact List.mem_append.2 (.inr (e6 i h1 hc))
     · exact List.mem_append.2 (.inl (g6 i (by omega) h2))
   · intro i hi
     rw [g7 i (fun q=>hi (List.mem_append.2 (.inl q))),e7 i (fun q=>hi (List.mem_append.2 (.inr q)))]
   · intro h2 r2 w2 hag
     obtain ⟨h2',q1,q2,q3⟩:=e8 h2 r2 w2 (fun i hi hc=>hag i (by rcases hi with hi | hi <;> simp [hi]) hc)
     obtain ⟨h3,p1,p2,p3⟩:=g8 h2' (dr1 ++ r2) (dw1 ++ w2) (by
      intro i hi hc
      by_cases hw:i∈dw1
      · exact q2 i hw
      · rw [q3 i hw,e7 i hw]
        refine hag i (by rcases hi with hi | hi <;> simp [hi]) ?_
        exact Nat.lt_of_not_le fun hle=>hw (e6 i hle hc))
     refine ⟨h3, ?_, ?_, ?_⟩
     · simp only [M.bind,q1,p1,List.append_assoc]
     · intro i hi
       by_cases hw:i∈dw2
       · exact p2 i hw
       · rw [p3 i hw,g7 i hw]
         rcases List.mem_append.1 hi with hi | hi
         · exact absurd hi hw
         · exact q2 i hi
     · intro i hi
       rw [p3 i (fun q=>hi (List.mem_append.2 (.inl q))),q3 i (fun q=>hi (List.mem_append.2 (.inr q)))]
theorem Fr.rd (i:Nat):Fr (rd i):=by
 intro s a s' h
 unfold V.rd at h
 split at h
 · rename_i hb
   have hlt:i<s.c:=by simpa [Nat.blt_eq] using hb
   split at h
   · rename_i o ho
     cases h
     refine ⟨[i], [],rfl,rfl,Nat.le_refl _,by simpa using hlt,by simp,fun j h1 h2=>by simp at h2; omega,fun _ _=>rfl, ?_⟩
     intro h2 r2 w2 hag
     refine ⟨h2, ?_,by simp,fun _ _=>rfl⟩
     have:=hag i (by simp) hlt
     simp only [V.rd,hb,this,ho]
     rfl
   · cases h
 · cases h
theorem Fr.wr (i:Nat) (o:VObj):Fr (wr i o):=by
 intro s a s' h
 unfold V.wr at h
 split at h
 · rename_i hb
   have hlt:i<s.c:=by simpa [Nat.blt_eq] using hb
   split at h
   · rename_i o' ho
     rw [Trie.putK_eq] at h
     cases h
     refine ⟨[], [i],rfl,rfl,Nat.le_refl _,by simp,by simpa using hlt,fun j h1 h2=>by simp at h2; omega, ?_, ?_⟩
     · intro j hj
       dsimp only
       rw [Trie.get_put _ _ _ _ (Nat.lt_succ_self _),if_neg (by simpa using hj)]
     · intro h2 r2 w2 hag
       have h1:=hag i (by simp) hlt
       refine ⟨Trie.put (some o) (i+1) h2 i, ?_, ?_, ?_⟩
       · simp only [V.wr,hb,h1,ho]
         rw [Trie.putK_eq]; rfl
       · intro j hj
         obtain rfl:j=i:=by simpa using hj
         dsimp only
         rw [Trie.get_put _ _ _ _ (Nat.lt_succ_self _),Trie.get_put _ _ _ _ (Nat.lt_succ_self _)]; simp
       · intro j hj
         rw [Trie.get_put _ _ _ _ (Nat.lt_succ_self _),if_neg (by simpa using hj)]
   · cases h
 · cases h
theorem a5k (o:VObj) (s:S):new o s=some (s.c,⟨s.c+1,Trie.put (some o) (s.c+1) s.h s.c,s.r,s.c::s.w⟩):=by
 unfold new; rw [Trie.putK_eq,Y9]
theorem Fr.new (o:VObj):Fr (new o):=by
 intro s a s' h
 rw [a5k] at h
 cases h
 refine ⟨[], [s.c],rfl,rfl,Nat.le_succ _,by simp,by simp, ?_, ?_, ?_⟩
 · intro j h1 h2; simp at h2 ⊢; omega
 · intro j hj
   dsimp only
   rw [Trie.get_put _ _ _ _ (Nat.lt_succ_self _),if_neg (by simpa using hj)]
 · intro h2 r2 w2 _
   refine ⟨Trie.put (some o) (s.c+1) h2 s.c,a5k _ _, ?_, ?_⟩
   · intro j hj
     obtain rfl:j=s.c:=by simpa using hj
     dsimp only
     rw [Trie.get_put _ _ _ _ (Nat.lt_succ_self _),Trie.get_put _ _ _ _ (Nat.lt_succ_self _)]; simp
   · intro j hj
     rw [Trie.get_put _ _ _ _ (Nat.lt_succ_self _),if_neg (by simpa using hj)]
end Go.V
end
section
namespace Go.V
section
variable (p:Program) (T:Tab)
theorem Fr.asCells {α:Type} (o:VObj) {k:List (Value×Nat)→Nat→Bool→M α} (h:∀ a b c,Fr (k a b c)):Fr (a1d o k):=by
 cases o <;> first | exact h _ _ _ | exact Fr.fail
theorem Fr.asMap {α:Type} (o:VObj) {k:List (Value×Value)→M α} (h:∀ a,Fr (k a)):Fr (c3Q o k):=by
 cases o <;> first | exact h _ | exact Fr.fail
theorem Fr.asPtr {α:Type} (v:Value) {k:Addr→M α} (h:∀ a,Fr (k a)):Fr (K5 v k):=by
 cases v <;> first | exact Fr.obind _ h | exact Fr.fail
theorem Fr.ti {α:Type} (t:TypeId) {k:TI→M α} (h:∀ a,Fr (k a)):Fr (ti T t k):=Fr.obind _ h
theorem Fr.ev (fr:List Value) (x:Operand) {k:Value→M Value} (h:∀ a,Fr (k a)):Fr (ev T fr x k):=Fr.obind _ h
theorem Fr.evs (fr:List Value) (x:List Operand) {k:List Value→M Value} (h:∀ a,Fr (k a)):Fr (evs T fr x k):=Fr.obind _ h
theorem Fr.fList {β α:Type} (l:List β) {k:List β→M α} (h:∀ a,Fr (k a)):Fr (fList l k):=by rw [U3]; exact h l
theorem Fr.fNat {α:Type} (l:Nat) {k:Nat→M α} (h:∀ a,Fr (k a)):Fr (a1b l k):=by rw [Y9]; exact h l
theorem Fr.fVal {α:Type} (v:Value) {k:Value→M α} (h:∀ a,Fr (k a)):Fr (a0R v k):=by rw [a0V]; exact h v
theorem Fr.pureV (o:Option Value):Fr (pureV o):=Fr.obind _ fun _=>Fr.guard _ (Fr.pure _)
theorem Fr.loadN (a:Addr) (n:Nat):Fr (loadN a n):=Fr.obind _ fun _=>Fr.bind (Fr.rd _) fun _=>Fr.asCells _ fun _ _ _=>Fr.lift _
theorem Fr.storeN (a:Addr) (vs:List Value):Fr (storeN a vs):=
 Fr.obind _ fun _=>Fr.bind (Fr.rd _) fun _=>Fr.asCells _ fun _ _ _=>Fr.guard _ (Fr.obind _ fun _=>Fr.fList _ fun _=>Fr.wr _ _)
theorem Fr.newCells (vs:List Value):Fr (M9 vs):=Fr.guard _ (Fr.fList _ fun _=>Fr.bind (Fr.new _) fun _=>Fr.pure _)
theorem Fr.loadV (t:TypeId) (a:Addr):Fr (a1h T t a):=Fr.ti T _ fun i=>by
 split
 · exact Fr.guard _ (Fr.bind (Fr.loadN _ _) fun _=>Fr.pure _)
 · exact Fr.bind (Fr.loadN _ _) fun _=>Fr.pure _
theorem Fr.storeV (t:TypeId) (a:Addr) (v:Value):Fr (b2R T t a v):=Fr.ti T _ fun _=>Fr.guard _ (Fr.storeN _ _)
theorem Fr.elemAt (a:Addr) (i len elem:Nat):Fr (elemAt T a i len elem):=Fr.ti T _ fun _=>Fr.guard _ (Fr.pure _)
theorem Fr.indexAddrV (t:TypeId) (x ix:Value):Fr (a5y T t x ix):=Fr.ti T _ fun i=>Fr.obind _ fun j=>by
 split
 · exact Fr.asPtr _ fun _=>Fr.elemAt T _ _ _ _
 · split
   · exact Fr.obind _ fun _=>Fr.ti T _ fun _=>Fr.guard _ (Fr.elemAt T _ _ _ _)
   · exact Fr.fail
 · exact Fr.fail
theorem Fr.fieldAddrV (t:TypeId) (x:Value) (f:Nat):Fr (a5W T t x f):=Fr.ti T _ fun i=>by
 split
 · exact Fr.asPtr _ fun _=>Fr.obind _ fun _=>Fr.ti T _ fun _=>Fr.guard _ (Fr.pure _)
 · exact Fr.fail
theorem Fr.cut (a:Addr) (len elem:Nat) (lo hi:Option Value):Fr (cut T a len elem lo hi):=
 Fr.ti T _ fun _=>Fr.obind _ fun _=>Fr.obind _ fun _=>Fr.guard _ (Fr.pure _)
theorem Fr.cutStr (s:ByteArray) (lo hi:Option Value):Fr (b3L s lo hi):=Fr.obind _ fun _=>Fr.obind _ fun _=>Fr.guard _ (by rw [U3]; exact Fr.pure _)
theorem Fr.cutNil (lo hi:Option Value):Fr (cutNil lo hi):=Fr.obind _ fun _=>Fr.obind _ fun _=>Fr.guard _ (Fr.pure _)
theorem Fr.sliceV (t:TypeId) (x:Value) (lo hi mx:Option Value):Fr (c8q T t x lo hi mx):=Fr.ti T _ fun i=>Fr.guard _ (by
 split
 · split
   · exact Fr.cutStr _ _ _
   · exact Fr.fail
 · split
   · refine Fr.ti T _ fun _=>?_
     split
     · exact Fr.guard _ (Fr.cut T _ _ _ _ _)
     · exact Fr.guard _ (Fr.cutNil _ _)
   · exact Fr.fail
 · exact Fr.asPtr _ fun _=>Fr.ti T _ fun _=>Fr.bind (Fr.loadN _ _) fun _=>Fr.cut T _ _ _ _ _
 · exact Fr.fail)
theorem Fr.makeSliceV (t:TypeId) (l c:Value):Fr (a5O T t l c):=Fr.ti T _ fun i=>by
 split
 · exact Fr.ti T _ fun _=>Fr.obind _ fun _=>Fr.obind _ fun _=>Fr.guard _ (Fr.bind (Fr.newCells _) fun _=>Fr.pure _)
 · exact Fr.fail
theorem Fr.source (n:Nat) (x:Value):Fr (a3J n x):=by
 unfold V.a3J; split
 · split
   · exact Fr.guard _ (Fr.pure _)
   · split
     · exact Fr.pure _
     · exact Fr.guard _ (Fr.loadN _ _)
 · exact Fr.guard _ (Fr.pure _)
 · exact Fr.fail
theorem Fr.appendAt (e:TI) (a:Addr) (len:Nat) (vs:List Value) (m:Nat):Fr (appendAt e a len vs m):=
 Fr.obind _ fun _=>Fr.bind (Fr.rd _) fun _=>Fr.asCells _ fun _ _ _=>Fr.guard _ (Fr.guard _ (Fr.obind _ fun _=>Fr.fList _ fun _=>Fr.bind (Fr.wr _ _) fun _=>Fr.pure _))
theorem Fr.appendTo (e:TI) (s:Value) (vs:List Value):Fr (a1O e s vs):=by
 unfold V.a1O; split
 · exact Fr.guard _ (Fr.pure _)
 · split
   · refine Fr.fNat _ fun m=>Fr.guard _ ?_
     split
     · exact Fr.guard _ (Fr.bind (Fr.newCells _) fun _=>Fr.pure _)
     · exact Fr.guard _ (Fr.appendAt _ _ _ _ _)
   · exact Fr.fail
theorem Fr.appendV (ts:Array TypeId) (vs:List Value):Fr (appendV T ts vs):=Fr.obind _ fun _=>Fr.obind _ fun _=>Fr.ti T _ fun d=>Fr.ti T _ fun _=>by
 split
 · exact Fr.obind _ fun _=>Fr.obind _ fun _=>Fr.ti T _ fun _=>Fr.guard _ (Fr.bind (Fr.source _ _) fun _=>Fr.fList _ fun _=>Fr.appendTo _ _ _)
 · exact Fr.fail
theorem Fr.mapAt (r:Nat):Fr (c7r r):=Fr.bind (Fr.rd _) fun _=>Fr.asMap _ fun _=>Fr.pure _
theorem Fr.entries (x:Value):Fr (a3Z x):=by
 unfold V.a3Z; split
 · split
   · exact Fr.pure _
   · exact Fr.mapAt _
 · exact Fr.fail
theorem Fr.lookupV (t:TypeId) (x ix:Value) (ok:Bool):Fr (a3S T t x ix ok):=Fr.ti T _ fun d=>by
 split
 · refine Fr.ti T _ fun _=>Fr.ti T _ fun _=>Fr.guard _ (Fr.bind (Fr.entries _) fun _=>Fr.obind _ fun _=>?_)
   split
   · exact Fr.pure _
   · exact Fr.guard _ (Fr.pure _)
 · exact Fr.fail
theorem Fr.mapUpdateV (t:TypeId) (m k v:Value):Fr (a1A T t m k v):=Fr.ti T _ fun d=>by
 split
 · split
   · exact Fr.obind _ fun _=>Fr.ti T _ fun _=>Fr.guard _ (Fr.bind (Fr.mapAt _) fun _=>Fr.obind _ fun _=>Fr.fList _ fun _=>Fr.wr _ _)
   · exact Fr.fail
 · exact Fr.fail
theorem Fr.lenV (d:TypeDesc) (x:Value):Fr (d4T d x):=by
 unfold V.d4T; split
 · exact Fr.pure _
 · split <;> first | exact Fr.pure _ | exact Fr.fail
 · split <;> first | exact Fr.pure _ | exact Fr.fail
 · exact Fr.bind (Fr.entries _) fun _=>Fr.pure _
 · exact Fr.fail
theorem Fr.convStr (e:TypeId) (b:ByteArray):Fr (c0g T e b):=Fr.ti T _ fun _=>Fr.guard _ (Fr.bind (Fr.newCells _) fun _=>Fr.pure _)
theorem Fr.convBytes (e:TypeId) (x:Value):Fr (convBytes T e x):=Fr.ti T _ fun _=>Fr.guard _ (Fr.bind (Fr.source _ _) fun _=>Fr.obind _ fun _=>Fr.pure _)
theorem Fr.convertV (s d:TypeId) (x:Value):Fr (b2I T s d x):=Fr.ti T _ fun _=>Fr.ti T _ fun _=>by
 split
 · split <;> first | exact Fr.pure _ | exact Fr.fail
 · split <;> first | exact Fr.convStr T _ _ | exact Fr.fail
 · split
   · exact Fr.pure _
   · exact Fr.pure _
   · split
     · exact Fr.guard _ (Fr.convBytes T _ _)
     · exact Fr.fail
 · exact Fr.fail
theorem Fr.partV (t:TypeId) (cs:List Value) (off:Nat):Fr (partV T t cs off):=Fr.ti T _ fun _=>by
 split
 · exact Fr.pure _
 · exact Fr.obind _ fun _=>Fr.pure _
theorem Fr.binV (op:BinOp) (t:TypeId) (x y:Operand) (a b:Value):Fr (a2E p T op t x y a b):=by
 unfold V.a2E; split
 · exact Fr.pure _
 · exact Fr.guard _ (Fr.pureV _)
theorem Fr.nextAt (b:Nat) (s:ByteArray) (pos:Nat):Fr (a5l b s pos):=by
 unfold V.a5l; split
 · exact Fr.fNat _ fun _=>Fr.bind (Fr.wr _ _) fun _=>Fr.pure _
 · exact Fr.pure _
theorem Fr.opBuiltin (fr:List Value) (b:Builtin) (args:Array Operand) (ts:Array TypeId):Fr (a1m p T fr b args ts):=Fr.evs T _ _ fun _=>by
 split
 · exact Fr.guard _ (Fr.appendV T _ _)
 · exact Fr.obind _ fun _=>Fr.ti T _ fun _=>Fr.obind _ fun _=>Fr.lenV _ _
 · exact Fr.guard _ (Fr.pureV _)
 · exact Fr.guard _ (Fr.pureV _)
 · exact Fr.fail
theorem Fr.simpleOp (fr:List Value) (o:Op):Fr (a1e p T fr o):=by
 unfold V.a1e; split
 · exact Fr.lift _
 · exact Fr.lift _
 · refine Fr.ev T _ _ fun _=>Fr.ev T _ _ fun _=>Fr.ev T _ _ fun _=>?_
   split
   · split <;> exact Fr.pure _
   · exact Fr.fail
 · exact Fr.ti T _ fun _=>Fr.guard _ (Fr.bind (Fr.newCells _) fun _=>Fr.pure _)
 · exact Fr.ev T _ _ fun _=>Fr.guard _ (Fr.bind (Fr.newCells _) fun _=>Fr.pure _)
 · refine Fr.evs T _ _ fun _=>Fr.ti T _ fun _=>Fr.guard _ ?_
   split
   · exact Fr.guard _ (Fr.obind _ fun _=>Fr.pure _)
   · exact Fr.ti T _ fun _=>Fr.obind _ fun _=>Fr.pure _
   · exact Fr.fail
 · refine Fr.evs T _ _ fun _=>Fr.ti T _ fun _=>?_
   split
   · exact Fr.ti T _ fun _=>Fr.guard _ (Fr.obind _ fun _=>Fr.bind (Fr.newCells _) fun _=>Fr.pure _)
   · exact Fr.fail
 · exact Fr.ev T _ _ fun _=>Fr.asPtr _ fun _=>Fr.loadV T _ _
 · exact Fr.ev T _ _ fun _=>Fr.ev T _ _ fun _=>Fr.asPtr _ fun _=>Fr.bind (Fr.storeV T _ _ _) fun _=>Fr.pure _
 · refine Fr.ev T _ _ fun _=>?_
   split
   · exact Fr.guard _ (Fr.pure _)
   · exact Fr.guard _ (Fr.pure _)
   · exact Fr.fail
 · refine Fr.ev T _ _ fun _=>Fr.ev T _ _ fun _=>?_
   split
   · split
     · split
       · exact Fr.pure _
       · exact Fr.binV p T _ _ _ _ _ _
     · exact Fr.fail
   · split
     · exact Fr.lift _
     · exact Fr.fail
   · exact Fr.binV p T _ _ _ _ _ _
 · exact Fr.ev T _ _ fun _=>Fr.guard _ (Fr.pureV _)
 · exact Fr.ev T _ _ fun _=>Fr.convertV T _ _ _
 · exact Fr.ev T _ _ fun _=>Fr.ti T _ fun _=>Fr.guard _ (Fr.pure _)
 · exact Fr.evs T _ _ fun _=>Fr.evs T _ _ fun _=>Fr.pure _
 · unfold V.a5N; split
   · exact Fr.bind (Fr.new _) fun _=>Fr.pure _
   · exact Fr.ev T _ _ fun _=>Fr.ti T _ fun _=>Fr.guard _ (Fr.bind (Fr.new _) fun _=>Fr.pure _)
 · exact Fr.ev T _ _ fun _=>Fr.ev T _ _ fun _=>Fr.makeSliceV T _ _ _
 · exact Fr.evs T _ _ fun _=>Fr.evs T _ _ fun _=>Fr.evs T _ _ fun _=>Fr.ev T _ _ fun _=>Fr.sliceV T _ _ _ _ _
 · exact Fr.ev T _ _ fun _=>Fr.fieldAddrV T _ _ _
 · refine Fr.ev T _ _ fun _=>Fr.ti T _ fun _=>?_
   split
   · split
     · exact Fr.obind _ fun _=>Fr.partV T _ _ _
     · exact Fr.fail
   · exact Fr.fail
 · exact Fr.ev T _ _ fun _=>Fr.ev T _ _ fun _=>Fr.indexAddrV T _ _ _
 · refine Fr.ev T _ _ fun _=>Fr.ev T _ _ fun _=>Fr.obind _ fun _=>Fr.ti T _ fun _=>?_
   split
   · split
     · exact Fr.obind _ fun _=>Fr.pure _
     · exact Fr.fail
   · split
     · exact Fr.ti T _ fun _=>Fr.guard _ (Fr.partV T _ _ _)
     · exact Fr.fail
   · exact Fr.fail
 · exact Fr.ev T _ _ fun _=>Fr.ev T _ _ fun _=>Fr.lookupV T _ _ _ _
 · exact Fr.ev T _ _ fun _=>Fr.ev T _ _ fun _=>Fr.ev T _ _ fun _=>Fr.bind (Fr.mapUpdateV T _ _ _ _) fun _=>Fr.pure _
 · exact Fr.ev T _ _ fun _=>Fr.ev T _ _ fun _=>Fr.ev T _ _ fun _=>Fr.bind (Fr.mapUpdateV T _ _ _ _) fun _=>Fr.pure _
 · refine Fr.ev T _ _ fun _=>Fr.ti T _ fun _=>?_
   split
   · split
     · exact Fr.bind (Fr.new _) fun _=>Fr.pure _
     · exact Fr.fail
   · exact Fr.fail
 · refine Fr.guard _ (Fr.ev T _ _ fun _=>Fr.asPtr _ fun _=>Fr.guard _ (Fr.bind (Fr.rd _) fun _=>?_))
   split
   · exact Fr.nextAt _ _ _
   · exact Fr.fail
 · refine Fr.ev T _ _ fun _=>?_
   split
   · exact Fr.obind _ fun _=>Fr.pure _
   · exact Fr.fail
 · exact Fr.fail
theorem Fr.stepOp {call:Nat→List Value→M Value} (hc:∀ f vs,Fr (call f vs)) (fr:List Value) (o:Op):Fr (M7 p T call fr o):=by
 unfold V.M7; split
 · unfold V.a2m; split
   · refine Fr.ev T _ _ fun _=>Fr.evs T _ _ fun _=>?_
     split
     · split
       · exact hc _ _
       · exact Fr.fail
     · exact Fr.fail
   · exact Fr.opBuiltin p T _ _ _ _
   · exact Fr.fail
 · exact Fr.simpleOp p T _ _
theorem Fr.resultsV (fr:List Value) (rs:List ResultVar):Fr (U1 T fr rs):=by
 induction rs with
 | nil=>exact Fr.pure _
 | cons r rs ih=>
   cases r with
   | tmp t=>exact Fr.bind ih fun _=>Fr.pure _
   | cell a t=>exact Fr.asPtr _ fun _=>Fr.bind (Fr.loadV T _ _) fun _=>Fr.bind ih fun _=>Fr.pure _
theorem a2c (call:Nat→List Value→M Value) (ops:List Oper) (o:Oper) (os:List Oper) (fr:List Value) :
 Z9 p T call ops (o::os) fr=if M6 ops fr o then M.bind (M7 p T call fr o.op) fun v=>Z9 p T call ops os (G5 fr o v) else Z9 p T call ops os (G5 fr o undef):=by
 show (match M6 ops fr o with | true=>M.bind (M7 p T call fr o.op) fun v=>a0R v fun v=>Z9 p T call ops os (G5 fr o v) | false=>Z9 p T call ops os (G5 fr o undef))=_
 cases M6 ops fr o
 · rfl
 · simp only [a0V]; rfl
theorem Fr.runOps {call:Nat→List Value→M Value} (hc:∀ f vs,Fr (call f vs)) (ops os:List Oper):∀ fr,Fr (Z9 p T call ops os fr):=by
 induction os with
 | nil=>intro fr; exact Fr.pure _
 | cons o os ih=>
   intro fr
   rw [a2c]
   split
   · exact Fr.bind (Fr.stepOp p T hc _ _) fun _=>ih _
   · exact ih _
theorem Fr.foot {α:Type} {m:M α} (hm:Fr m):Fr (M.foot m):=by
 intro s x s' h
 unfold M.foot at h
 cases e:m ⟨s.c,s.h, [], []⟩ with
 | none=>rw [e] at h; cases h
 | some y=>
   obtain ⟨a,s1⟩:=y
   rw [e] at h
   simp only [I5] at h
   cases h
   obtain ⟨dr,dw,e1,e2,e3,e4,e5,e6,e7,e8⟩:=hm _ _ _ e
   simp only [List.append_nil] at e1 e2
   refine ⟨dr,dw,by rw [e1],by rw [e2],e3,e4,e5,e6,e7,fun h2 r2 w2 hag=>?_⟩
   obtain ⟨h2',q1,q2,q3⟩:=e8 h2 [] [] hag
   refine ⟨h2', ?_,q2,q3⟩
   unfold M.foot
   rw [q1]
   simp only [List.append_nil,I5,e1,e2]
theorem a0a (call:Nat→List Value→M Value) (ops:List Oper) (o:Oper) (os:List Oper) (fr:List Value) :
 O4 p T call ops (o::os) fr=if M6 ops fr o then M.bind (M.foot (M7 p T call fr o.op)) (fun x=>M.bind (O4 p T call ops os (G5 fr o x.1)) fun y=>M.pure (y.1,x.2::y.2)) else M.bind (O4 p T call ops os (G5 fr o undef)) fun y=>M.pure (y.1,([], [])::y.2):=by
 show (match M6 ops fr o with | true=>M.bind (M.foot (M7 p T call fr o.op)) fun x=>a0R x.1 fun v=>M.bind (O4 p T call ops os (G5 fr o v)) fun y=>M.pure (y.1,x.2::y.2) | false=>M.bind (O4 p T call ops os (G5 fr o undef)) fun y=>M.pure (y.1,([], [])::y.2))=_
 cases M6 ops fr o
 · rfl
 · simp only [a0V]; rfl
theorem Fr.runD {call:Nat→List Value→M Value} (hc:∀ f vs,Fr (call f vs)) (ops os:List Oper):∀ fr,Fr (O4 p T call ops os fr):=by
 induction os with
 | nil=>intro fr; exact Fr.pure _
 | cons o os ih=>
   intro fr
   rw [a0a]
   split
   · exact Fr.bind (Fr.foot (Fr.stepOp p T hc _ _)) fun _=>Fr.bind (ih _) fun _=>Fr.pure _
   · exact Fr.bind (ih _) fun _=>Fr.pure _
theorem Fr.region {call:Nat→List Value→M Value} (hc:∀ f vs,Fr (call f vs)) (ops:List Oper) (draw:Bool) (fr:List Value):Fr (region p T call ops draw fr):=by
 unfold V.region; split
 · exact Fr.bind (Fr.runOps p T hc _ _ _) fun _=>Fr.pure _
 · exact Fr.bind (Fr.runD p T hc _ _ _) fun _=>Fr.guard _ (Fr.pure _)
theorem Fr.exec {call:Nat→List Value→M Value} (hc:∀ f vs,Fr (call f vs)) (n:Nat):∀ c fr,Fr (a0k p T call n c fr):=by
 induction n with
 | zero=>intro c fr; exact Fr.fail
 | succ n ih=>
   intro c fr
   show Fr (c2M p T call (V.a0k p T call n) c fr)
   unfold V.c2M; split
   · exact Fr.pure _
   · exact Fr.region p T hc _ _ _
   · refine Fr.bind (ih _ _) fun _=>?_
     split <;> first | exact ih _ _ | exact Fr.pure _
   · refine Fr.obind _ fun _=>?_
     split
     · split <;> exact ih _ _
     · exact Fr.fail
   · refine Fr.bind (ih _ _) fun _=>?_
     split
     · exact Fr.pure _
     · split <;> exact Fr.pure _
     · exact Fr.pure _
   · refine Fr.fList _ fun _=>Fr.bind (ih _ _) fun _=>?_
     split <;> first | exact ih _ _ | exact Fr.pure _
   · exact Fr.pure _
   · exact Fr.pure _
   · exact Fr.fail
theorem Fr.externV (f:Nat) (vs:List Value):Fr (a9X p f vs):=Fr.guard _ (Fr.obind _ fun _=>Fr.obind _ fun _=>Fr.guard _ (Fr.pure _))
theorem Fr.callV {ext:Nat→Option (List Value→M Value)} (he:∀ f g,ext f=some g→∀ vs,Fr (g vs)) (n:Nat):∀ f vs,Fr (a0u p T ext n f vs):=by
 induction n with
 | zero=>intro f vs; exact Fr.fail
 | succ n ih=>
   intro f vs
   show Fr (match ext f with | some g=>g vs | none=>M.obind (T.funcs.get f) fun fn=>enter p T (V.a0u p T ext n) n fn f vs)
   split
   · rename_i g hg; exact he f g hg vs
   · refine Fr.obind _ fun fn=>?_
     unfold V.enter; split
     · exact Fr.externV p _ _
     · refine Fr.bind (Fr.exec p T ih _ _ _) fun r=>?_
       unfold V.a2f; split
       · exact Fr.fail
       · exact Fr.bind (Fr.resultsV T _ _) fun _=>Fr.pure _
end
end Go.V
end
