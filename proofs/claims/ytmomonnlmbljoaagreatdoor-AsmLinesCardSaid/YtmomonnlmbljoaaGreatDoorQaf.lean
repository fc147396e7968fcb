import Derived.Test.YtmomonnlmbljoaaGreatDoorQae
section
namespace Go.V
open Go.RowKit (Below)
section
variable {P:Program} {T:Tab} {fr fr2:List Value}
theorem a8e (i:Nat) (l:List Nat):a5b i l=true ↔ i ∈ l:=by
 induction l with
 | nil=>constructor <;> intro h <;> cases h
 | cons x l ih=>
   show (match Nat.beq i x with | true=>true | false=>a5b i l)=true ↔ _
   cases h:Nat.beq i x with
   | true=>simp [Nat.eq_of_beq_eq_true h]
   | false=>
     have:i ≠ x:=fun e=>by subst e; simp at h
     simp only [ih,List.mem_cons]
     exact ⟨Or.inr,fun q=>q.resolve_left this⟩
theorem c0k (l m:List Nat):a3q l m=true ↔ ∀ i,i ∈ l → i ∉ m:=by
 unfold a3q
 rw [a1a]
 constructor
 · intro h i hi hm
   have:=h i hi
   rw [(a8e i m).2 hm] at this
   cases this
 · intro h i hi
   cases q:a5b i m with
   | false=>rfl
   | true=>exact absurd ((a8e i m).1 q) (h i hi)
theorem c0e {t:Nat} {xs:List Operand} (h:Operand.tmp t ∈ xs):t ∈ a8w xs:=by
 induction xs with
 | nil=>cases h
 | cons x xs ih=>
   show t ∈ (match x with | .tmp t=>t :: a8w xs | _=>a8w xs)
   rcases List.mem_cons.1 h with rfl | h
   · simp
   · have:=ih h
     cases x <;> simp [this]
theorem b8N {x:Operand} (h:∀ t,x=.tmp t → d9 fr t=d9 fr2 t):a2H T fr x=a2H T fr2 x:=by
 cases x with
 | tmp t=>show some (d9 fr t)=some (d9 fr2 t); rw [h t rfl]
 | _=>rfl
theorem a5z {xs:List Operand} (h:∀ x ∈ xs,a2H T fr x=a2H T fr2 x):a3i T fr xs=a3i T fr2 xs:=by
 induction xs with
 | nil=>rfl
 | cons x xs ih=>
   show (match a2H T fr x with | none=>none | some v=>(match a3i T fr xs with | none=>none | some vs=>some (v :: vs)))=(match a2H T fr2 x with | none=>none | some v=>(match a3i T fr2 xs with | none=>none | some vs=>some (v :: vs)))
   rw [h x (List.mem_cons_self ..),ih (fun y hy=>h y (List.mem_cons_of_mem _ hy))]
theorem b3N {o:Op} (h:∀ x ∈ o.operands.toList,a2H T fr x=a2H T fr2 x):a8c P T fr o=a8c P T fr2 o:=by
 cases o with
 | move x=>show M.lift _=M.lift _; rw [h x (by simp [Op.operands])]
 | assign x=>show M.lift _=M.lift _; rw [h x (by simp [Op.operands])]
 | pick c x y=>show b1p T fr c x y=b1p T fr2 c x y; simp only [b1p,ev,h c (by simp [Op.operands]),h x (by simp [Op.operands]),h y (by simp [Op.operands])]
 | alloc t=>rfl
 | box t x=>show b3x T fr x=b3x T fr2 x; simp only [b3x,ev,h x (by simp [Op.operands])]
 | build t ps=>
   show a9G T fr t ps=a9G T fr2 t ps
   have:a3i T fr (a2m (·.2) ps.toList)=a3i T fr2 (a2m (·.2) ps.toList):=a5z (fun x hx=>h x (by rw [a3X] at hx; simpa [Op.operands] using hx))
   simp only [a9G,evs,this]
 | buildSlice t len ps=>
   show a6A T fr t len ps=a6A T fr2 t len ps
   have:a3i T fr (a2m (·.2) ps.toList)=a3i T fr2 (a2m (·.2) ps.toList):=a5z (fun x hx=>h x (by rw [a3X] at hx; simpa [Op.operands] using hx))
   simp only [a6A,evs,this]
 | load t x=>show b1j T fr t x=b1j T fr2 t x; simp only [b1j,ev,h x (by simp [Op.operands])]
 | store t x y=>show a9Y T fr t x y=a9Y T fr2 t x y; simp only [a9Y,ev,h x (by simp [Op.operands]),h y (by simp [Op.operands])]
 | nilCheck x=>show a7I T fr x=a7I T fr2 x; simp only [a7I,ev,h x (by simp [Op.operands])]
 | binOp op t x y yt=>show b2L P T fr op t x y=b2L P T fr2 op t x y; simp only [b2L,ev,h x (by simp [Op.operands]),h y (by simp [Op.operands])]
 | unOp op t x=>show b6p P T fr op x=b6p P T fr2 op x; simp only [b6p,ev,h x (by simp [Op.operands])]
 | convert x y z=>show a8p T fr x y z=a8p T fr2 x y z; simp only [a8p,ev,h z (by simp [Op.operands])]
 | makeInterface t x=>show a9V T fr t x=a9V T fr2 t x; simp only [a9V,ev,h x (by simp [Op.operands])]
 | makeFunc fn x y=>
   show b0T T fr fn x y=b0T T fr2 fn x y
   have e1:a3i T fr x.toList=a3i T fr2 x.toList:=a5z (fun z hz=>h z (by simp [Op.operands] at hz ⊢; exact Or.inl hz))
   have e2:a3i T fr y.toList=a3i T fr2 y.toList:=a5z (fun z hz=>h z (by simp [Op.operands] at hz ⊢; exact Or.inr hz))
   simp only [b0T,evs,e1,e2]
 | makeMap t r=>
   cases r with
   | none=>rfl
   | some x=>
     show b2Y T fr t (some x)=b2Y T fr2 t (some x)
     simp only [b2Y,ev,h x (by simp [Op.operands])]
 | makeSlice t x y=>show b0S T fr t x y=b0S T fr2 t x y; simp only [b0S,ev,h x (by simp [Op.operands]),h y (by simp [Op.operands])]
 | slice t x lo hi mx=>
   show a9D T fr t x lo hi mx=a9D T fr2 t x lo hi mx
   have e1:a3i T fr lo.toList=a3i T fr2 lo.toList:=a5z (fun z hz=>h z (by simp [Op.operands] at hz ⊢; exact Or.inr (Or.inl hz)))
   have e2:a3i T fr hi.toList=a3i T fr2 hi.toList:=a5z (fun z hz=>h z (by simp [Op.operands] at hz ⊢; exact Or.inr (Or.inr (Or.inl hz))))
   have e3:a3i T fr mx.toList=a3i T fr2 mx.toList:=a5z (fun z hz=>h z (by simp [Op.operands] at hz ⊢; exact Or.inr (Or.inr (Or.inr hz))))
   simp only [a9D,evs,ev,e1,e2,e3,h x (by simp [Op.operands])]
 | fieldAddr t x f=>show a7c T fr t x f=a7c T fr2 t x f; simp only [a7c,ev,h x (by simp [Op.operands])]
 | field t x f=>show b0f T fr t x f=b0f T fr2 t x f; simp only [b0f,ev,h x (by simp [Op.operands])]
 | indexAddr t x i=>show a7g T fr t x i=a7g T fr2 t x i; simp only [a7g,ev,h x (by simp [Op.operands]),h i (by simp [Op.operands])]
 | index t x i=>show a9I T fr t x i=a9I T fr2 t x i; simp only [a9I,ev,h x (by simp [Op.operands]),h i (by simp [Op.operands])]
 | lookup t x i ok=>show a8Z T fr t x i ok=a8Z T fr2 t x i ok; simp only [a8Z,ev,h x (by simp [Op.operands]),h i (by simp [Op.operands])]
 | mapUpdate t m k x=>show a6j T fr t m k x=a6j T fr2 t m k x; simp only [a6j,ev,h m (by simp [Op.operands]),h k (by simp [Op.operands]),h x (by simp [Op.operands])]
 | insert t m k x=>show a6j T fr t m k x=a6j T fr2 t m k x; simp only [a6j,ev,h m (by simp [Op.operands]),h k (by simp [Op.operands]),h x (by simp [Op.operands])]
 | range t x=>show a9T T fr t x=a9T T fr2 t x; simp only [a9T,ev,h x (by simp [Op.operands])]
 | next x str=>show b0Q T fr x str=b0Q T fr2 x str; simp only [b0Q,ev,h x (by simp [Op.operands])]
 | extract x i=>show a8v T fr x i=a8v T fr2 x i; simp only [a8v,ev,h x (by simp [Op.operands])]
 | _=>rfl
theorem b6l {call:Nat → List Value → M Value} {o:Op} (h:∀ x ∈ o.operands.toList,a2H T fr x=a2H T fr2 x):a3E P T call fr o=a3E P T call fr2 o:=by
 unfold a3E
 cases hc:a9W o with
 | none=>exact b3N h
 | some c=>
   have hop:o=.call c:=by cases o <;> first | (cases hc; rfl) | cases hc
   subst hop
   have ha:a3i T fr c.args.toList=a3i T fr2 c.args.toList:=a5z (fun z hz=>h z (by simp [Op.operands,Call.operands] at hz ⊢; exact Or.inr hz))
   show b0d P T call fr c=b0d P T call fr2 c
   unfold b0d
   cases hcal:c.callee with
   | value f=>
     have hf:a2H T fr f=a2H T fr2 f:=h f (by simp [Op.operands,Call.operands,hcal])
     simp only [a8T,ev,evs,ha,hf]
   | builtin b=>simp only [a8l,evs,ha]
   | invoke r m=>rfl
theorem b2h {call:Nat → List Value → M Value} {ops:List Oper} {o:Oper} (h:∀ t,t ∈ a5d ops o → d9 fr t=d9 fr2 t):a3E P T call fr o.op=a3E P T call fr2 o.op ∧ a3r ops fr o=a3r ops fr2 o:=by
 refine ⟨b6l fun x hx=>b8N fun t ht=>h t ?_, ?_⟩
 · subst ht
   have:=c0e hx
   unfold a5d
   split
   · exact this
   · split
     · exact List.mem_cons_of_mem _ this
     · exact this
 · unfold a3r
   cases hg:o.guard with
   | none=>rfl
   | some jb=>
     show (match a5N ops jb.1 with | some t=>O7 jb.2 (d9 fr t) | none=>false)=(match a5N ops jb.1 with | some t=>O7 jb.2 (d9 fr2 t) | none=>false)
     cases hd:a5N ops jb.1 with
     | none=>rfl
     | some t=>
       have:t ∈ a5d ops o:=by
        unfold a5d; rw [hg]
        show t ∈ (match a5N ops jb.1 with | some t=>t :: a8w o.op.operands.toList | none=>a8w o.op.operands.toList)
        rw [hd]; exact List.mem_cons_self ..
       show O7 jb.2 (d9 fr t)=O7 jb.2 (d9 fr2 t)
       rw [h t this]
end
def a6C {β:Type} (X:Nat → β) (inD inW:Nat → Bool):Nat → β
 | 0=>X 0
 | k + 1=>if inD k && inW k then X (k + 1) else a6C X inD inW k
section
variable {β:Type} {X:Nat → β} {inD inW:Nat → Bool} {n:Nat}
theorem b0J (hX:∀ k,k < n → inW k=false → X (k + 1)=X k) (i:Nat) (h:∀ j,j < n → inW j=true → (inD j=true ↔ j < i)) (hi:i ≤ n):a6C X inD inW n=X i:=by
 have key:∀ k,k ≤ n → a6C X inD inW k=X (min k i):=by
  intro k
  induction k with
  | zero=>intro _; simp [a6C]
  | succ k ih=>
    intro hk
    have ih:=ih (by omega)
    unfold a6C
    cases hw:inW k with
    | true=>
      have:=h k (by omega) hw
      by_cases hki:k < i
      · rw [this.2 hki]; simp; rw [Nat.min_eq_left (by omega)]
      · have:inD k=false:=by
         cases q:inD k with
         | false=>rfl
         | true=>exact absurd (this.1 q) hki
        rw [this]; simp; rw [ih,Nat.min_eq_right (by omega),Nat.min_eq_right (by omega)]
    | false=>
      simp
      rw [ih]
      by_cases hki:k < i
      · rw [Nat.min_eq_left (by omega),Nat.min_eq_left (by omega),hX k (by omega) hw]
      · rw [Nat.min_eq_right (by omega),Nat.min_eq_right (by omega)]
 rw [key n (Nat.le_refl _),Nat.min_eq_right hi]
theorem b7I (hX:∀ k,k < n → inW k=false → X (k + 1)=X k) (h:∀ j,j < n → inD j=true):a6C X inD inW n=X n:=
 b0J hX n (fun j hj _=>⟨fun _=>hj,fun _=>h j hj⟩) (Nat.le_refl _)
theorem b6O {inD':Nat → Bool} (h:∀ j,j < n → inW j=true → inD' j=inD j):a6C X inD' inW n=a6C X inD inW n:=by
 induction n with
 | zero=>rfl
 | succ n ih=>
   unfold a6C
   rw [ih (fun j hj=>h j (by omega))]
   cases hw:inW n with
   | true=>rw [h n (by omega) hw]
   | false=>simp
theorem b9d (i:Nat) (hi:i < n) (hd:inD i=true) (hw:inW i=true) (h:∀ j,i < j → j < n → inD j=true → inW j=false):a6C X inD inW n=X (i + 1):=by
 induction n with
 | zero=>omega
 | succ n ih=>
   unfold a6C
   by_cases hin:i=n
   · subst hin; simp [hd,hw]
   · have:=ih (by omega) (fun j h1 h2=>h j h1 (by omega))
     cases q:inD n with
     | true=>rw [h n (by omega) (by omega) q]; simp; exact this
     | false=>simp; exact this
theorem b1y (h:∀ j,j < n → inD j=true → inW j=false):a6C X inD inW n=X 0:=by
 induction n with
 | zero=>rfl
 | succ n ih=>
   unfold a6C
   rw [ih (fun j hj=>h j (by omega))]
   cases q:inD n with
   | true=>rw [h n (by omega) q]; simp
   | false=>simp
end
theorem c1z {ops:List Oper} {x y:Oper × (List Nat × List Nat)} (h:free2 ops x y=true) :
 (∀ i,i ∈ x.2.2 → i ∉ y.2.1) ∧ (∀ i,i ∈ x.2.2 → i ∉ y.2.2) ∧ (∀ i,i ∈ y.2.2 → i ∉ x.2.1) ∧ (∀ i,i ∈ a4J x.1 → i ∉ a5d ops y.1) ∧ (∀ i,i ∈ a4J x.1 → i ∉ a4J y.1) ∧ (∀ i,i ∈ a4J y.1 → i ∉ a5d ops x.1):=by
 unfold free2 at h
 simp only [Bool.and_eq_true,c0k] at h
 obtain ⟨⟨⟨⟨⟨h1,h2⟩,h3⟩,h4⟩,h5⟩,h6⟩:=h
 exact ⟨h1,h2,h3,h4,h5,h6⟩
theorem b7L {ops:List Oper} {pj:List Nat} {y:Oper × (List Nat × List Nat)}:∀ (xs:List (Oper × (List Nat × List Nat))) (k:Nat),a7w ops pj y xs k=true →
 ∀ (i:Nat) x,xs[i]?=some x → (k + i) ∈ pj ∨ free2 ops x y=true:=by
 intro xs
 induction xs with
 | nil=>intro k _ i x h; simp at h
 | cons x0 xs ih=>
   intro k h i x hx
   have h':(match a5b k pj || free2 ops x0 y with | true=>a7w ops pj y xs (k + 1) | false=>false)=true:=h
   cases hb:a5b k pj || free2 ops x0 y with
   | false=>rw [hb] at h'; cases h'
   | true=>
     rw [hb] at h'
     cases i with
     | zero=>
       simp at hx; subst hx
       simp only [Bool.or_eq_true,a8e] at hb
       simpa using hb
     | succ i=>
       have:=ih (k + 1) h' i x (by simpa using hx)
       rwa [show k + 1 + i=k + (i + 1) by omega] at this
theorem c2I {f:Edge → List Nat} {l:List Edge} {p:Nat} (h:p ∈ a6k f l):∃ e ∈ l,p ∈ f e:=by
 induction l with
 | nil=>cases h
 | cons e l ih=>
   have h':p ∈ M6 (f e) (a6k f l):=h
   rw [M7] at h'
   rcases List.mem_append.1 h' with h | h
   · exact ⟨e,List.mem_cons_self ..,h⟩
   · obtain ⟨e',h1,h2⟩:=ih h; exact ⟨e',List.mem_cons_of_mem _ h1,h2⟩
theorem b8S {ops:List Oper}:∀ (ys xs:List (Oper × (List Nat × List Nat))) (psl:List (List Nat)) (n:Nat),a1b ops ys xs psl n=true → xs.length=n → psl.length=n →
 ∃ ps:Nat → List Nat,(∀ i l,psl[i]?=some l → ps i=l) ∧ ∀ (j:Nat) y,ys[j]?=some y →
   (∀ e ∈ y.1.after.toList,Region.binds .any e=true → e.on < n + j) ∧ (∀ p,p ∈ ps (n + j) → ∃ e ∈ y.1.after.toList,Region.binds .any e=true ∧ (p=e.on ∨ p ∈ ps e.on)) ∧
   (∀ (i:Nat) x,i < n + j → (xs ++ ys)[i]?=some x → i ∈ ps (n + j) ∨ free2 ops x y=true):=by
 intro ys
 induction ys with
 | nil=>intro xs psl n _ _ _; exact ⟨fun i=>(psl[i]?).getD [],fun i l h=>by simp [h],fun j y h=>by simp at h⟩
 | cons y ys ih=>
   intro xs psl n h hx hp
   have h':(match a7t n y.1.after.toList && a7w ops (a6k (a6V psl) y.1.after.toList) y xs 0 with | true=>a1b ops ys (M6 xs [y]) (M6 psl [a6k (a6V psl) y.1.after.toList]) (n + 1) | false=>false)=true:=h
   cases hb:a7t n y.1.after.toList && a7w ops (a6k (a6V psl) y.1.after.toList) y xs 0 with
   | false=>rw [hb] at h'; cases h'
   | true=>
     rw [hb] at h'
     simp only [M7] at h'
     simp only [Bool.and_eq_true] at hb
     obtain ⟨ps,p1,p2⟩:=ih (xs ++ [y]) (psl ++ [a6k (a6V psl) y.1.after.toList]) (n + 1) h' (by simp [hx]) (by simp [hp])
     have hpsn:ps n=a6k (a6V psl) y.1.after.toList:=p1 n _ (by rw [List.getElem?_append_right (by omega),hp]; simp)
     refine ⟨ps,fun i l hi=>p1 i l (by rw [List.getElem?_append_left (by have:=(List.getElem?_eq_some_iff.1 hi).1; exact this)]; exact hi),fun j z hz=>?_⟩
     cases j with
     | zero=>
       simp at hz; subst hz
       refine ⟨fun e he hbi=>?_,fun p hpp=>?_,fun i x hi hix=>?_⟩
       · have:=(a1a _ _).1 hb.1 e he
         rw [hbi] at this
         simpa [Nat.blt_eq] using this
       · rw [Nat.add_zero,hpsn] at hpp
         obtain ⟨e,he,hpe⟩:=c2I hpp
         have hpe':p ∈ (match Region.binds .any e with | true=>(match a3s psl e.on with | some l=>e.on :: l | none=>[]) | false=>[]):=hpe
         cases hbi:Region.binds .any e with
         | false=>rw [hbi] at hpe'; cases hpe'
         | true=>
           rw [hbi] at hpe'
           refine ⟨e,he,hbi, ?_⟩
           cases hg:a3s psl e.on with
           | none=>rw [hg] at hpe'; cases hpe'
           | some l=>
             rw [hg] at hpe'
             rw [a4H] at hg
             have:ps e.on=l:=p1 _ _ (by rw [List.getElem?_append_left (List.getElem?_eq_some_iff.1 hg).1]; exact hg)
             rcases List.mem_cons.1 hpe' with q | q
             · exact Or.inl q
             · exact Or.inr (by rw [this]; exact q)
       · rw [List.getElem?_append_left (by omega)] at hix
         have:=b7L xs 0 hb.2 i x hix
         rw [Nat.zero_add] at this
         rw [Nat.add_zero,hpsn]; exact this
     | succ j=>
       have:=p2 j z (by simpa using hz)
       rw [show n + 1 + j=n + (j + 1) by omega] at this
       simpa using this
end Go.V
end
section
namespace Go.V
open Go.RowKit (Below)
section
variable {P:Program} {T:Tab} {B0:Nat} {w0:Base} {w:World} {K:KM} {s s':S} {a:Act} {fr:List Value} {v:Value}
structure Trace (P:Program) (T:Tab) (call:Nat → List Value → M Value) (L:List Oper) (feet:List (List Nat × List Nat)) (C:Nat → Nat) (H:Nat → Trie VObj) (FR:Nat → List Value) (k n:Nat):Prop where
 op:∀ i,k ≤ i → i < n → ∃ o ft,L[i]?=some o ∧ feet[i - k]?=some ft ∧
  ((a3r L (FR i) o=true ∧ ∃ v,a3E P T call (FR i) o.op ⟨C i,H i, [], []⟩=some (v,⟨C (i + 1),H (i + 1),ft.1,ft.2⟩) ∧ FR (i + 1)=a0U (FR i) o v) ∨
   (a3r L (FR i) o=false ∧ ft=([], []) ∧ C (i + 1)=C i ∧ H (i + 1)=H i ∧ FR (i + 1)=a0U (FR i) o undef))
theorem b9O {call:Nat → List Value → M Value} (L:List Oper):∀ (m k:Nat) (fr fr':List Value) (s s':S) (feet:List (List Nat × List Nat)),k + m=L.length →
 a4y P T call L (L.drop k) fr s=some ((fr',feet),s') → feet.length=m ∧
 ∃ C H FR,C k=s.c ∧ H k=s.h ∧ FR k=fr ∧ C (k + m)=s'.c ∧ H (k + m)=s'.h ∧ FR (k + m)=fr' ∧ Trace P T call L feet C H FR k (k + m):=by
 intro m
 induction m with
 | zero=>
   intro k fr fr' s s' feet hk h
   have:L.drop k=[]:=List.drop_eq_nil_of_le (by omega)
   rw [this] at h
   have h':M.pure (fr,([]:List (List Nat × List Nat))) s=some ((fr',feet),s'):=h
   obtain ⟨e,rfl⟩:=J3 h'
   cases e
   exact ⟨rfl,fun _=>_,fun _=>_,fun _=>_,rfl,rfl,rfl,rfl,rfl,rfl,⟨fun i h1 h2=>by omega⟩⟩
 | succ m ih=>
   intro k fr fr' s s' feet hk h
   have hlt:k < L.length:=by omega
   rw [List.drop_eq_getElem_cons hlt,a6O] at h
   cases hw:a3r L fr L[k] with
   | true=>
     rw [hw] at h
     simp only [if_true] at h
     obtain ⟨x,s1,h1,h2⟩:=M8 h
     obtain ⟨y,s2,h3,h4⟩:=M8 h2
     obtain ⟨e,rfl⟩:=J3 h4
     obtain ⟨y1,y2⟩:=y
     cases e
     unfold M.foot at h1
     cases hst:a3E P T call fr L[k].op ⟨s.c,s.h, [], []⟩ with
     | none=>rw [hst] at h1; cases h1
     | some z=>
       obtain ⟨u,sz⟩:=z
       rw [hst] at h1
       simp only [M7] at h1
       cases h1
       obtain ⟨q0,C,H,FR,q1,q2,q3,q4,q5,q6,q7⟩:=ih (k + 1) _ _ _ _ _ (by omega) h3
       dsimp only at q1 q2 q3
       refine ⟨by simp [q0],fun i=>if i=k then s.c else C i,fun i=>if i=k then s.h else H i,fun i=>if i=k then fr else FR i,by simp,by simp,by simp, ?_, ?_, ?_,⟨fun i h1 h2=>?_⟩⟩
       · dsimp only; rw [if_neg (by omega),show k + (m + 1)=k + 1 + m by omega]; exact q4
       · dsimp only; rw [if_neg (by omega),show k + (m + 1)=k + 1 + m by omega]; exact q5
       · dsimp only; rw [if_neg (by omega),show k + (m + 1)=k + 1 + m by omega]; exact q6
       · by_cases hik:i=k
         · subst hik
           refine ⟨L[i],(sz.r,sz.w),List.getElem?_eq_getElem hlt,by simp,Or.inl ⟨by simpa using hw,u, ?_, ?_⟩⟩
           · simp only [if_true,if_neg (show ¬ i + 1=i by omega),q1,q2]; exact hst
           · simp only [if_true,if_neg (show ¬ i + 1=i by omega),q3]
         · obtain ⟨o,ft,t1,t2,t3⟩:=q7.op i (by omega) (by omega)
           refine ⟨o,ft,t1,by rw [show i - k=(i - (k + 1)) + 1 by omega]; simpa using t2, ?_⟩
           simp only [if_neg hik,if_neg (show ¬ i + 1=k by omega)]
           exact t3
   | false=>
     rw [hw] at h
     simp only [Bool.false_eq_true,if_false] at h
     obtain ⟨y,s2,h3,h4⟩:=M8 h
     obtain ⟨e,rfl⟩:=J3 h4
     obtain ⟨y1,y2⟩:=y
     cases e
     obtain ⟨q0,C,H,FR,q1,q2,q3,q4,q5,q6,q7⟩:=ih (k + 1) _ _ _ _ _ (by omega) h3
     refine ⟨by simp [q0],fun i=>if i=k then s.c else C i,fun i=>if i=k then s.h else H i,fun i=>if i=k then fr else FR i,by simp,by simp,by simp, ?_, ?_, ?_,⟨fun i h1 h2=>?_⟩⟩
     · dsimp only; rw [if_neg (by omega),show k + (m + 1)=k + 1 + m by omega]; exact q4
     · dsimp only; rw [if_neg (by omega),show k + (m + 1)=k + 1 + m by omega]; exact q5
     · dsimp only; rw [if_neg (by omega),show k + (m + 1)=k + 1 + m by omega]; exact q6
     · by_cases hik:i=k
       · subst hik
         refine ⟨L[i],([], []),List.getElem?_eq_getElem hlt,by simp,Or.inr ⟨by simpa using hw,rfl, ?_, ?_, ?_⟩⟩
         · simp only [if_true,if_neg (show ¬ i + 1=i by omega),q1]
         · simp only [if_true,if_neg (show ¬ i + 1=i by omega),q2]
         · simp only [if_true,if_neg (show ¬ i + 1=i by omega),q3]
       · obtain ⟨o,ft,t1,t2,t3⟩:=q7.op i (by omega) (by omega)
         refine ⟨o,ft,t1,by rw [show i - k=(i - (k + 1)) + 1 by omega]; simpa using t2, ?_⟩
         simp only [if_neg hik,if_neg (show ¬ i + 1=k by omega)]
         exact t3
theorem a6s {fr fr2:List Value} {t:Nat} (h:fr[t]?=fr2[t]?):d9 fr t=d9 fr2 t:=by rw [a5A,a5A,h]
theorem a4X (fr:List Value) (o:Oper) (v:Value) (t:Nat):(a0U fr o v)[t]?=if t ∈ a4J o ∧ t < fr.length then some v else fr[t]?:=by
 unfold a0U a4J
 cases o.dst with
 | none=>simp
 | some d=>
   simp only [a8Q,List.getElem?_set,List.mem_singleton]
   by_cases h:d=t
   · subst h
     by_cases hl:d < fr.length
     · simp [hl]
     · simp [hl]
   · rw [if_neg h,if_neg (fun q=>h q.1.symm)]
theorem a5K (fr:List Value) (o:Oper) (v:Value):(a0U fr o v).length=fr.length:=by
 unfold a0U
 cases o.dst with
 | none=>rfl
 | some d=>simp [a8Q]
theorem c3W {α β:Type}:∀ (l:List α) (m:List β) (i:Nat) (x:α) (y:β),l[i]?=some x → m[i]?=some y → (a2I l m)[i]?=some (x,y):=by
 intro l
 induction l with
 | nil=>intro m i x y h; simp at h
 | cons a l ih=>
   intro m i x y h1 h2
   cases m with
   | nil=>simp at h2
   | cons b m=>
     show ((a,b) :: a2I l m)[i]?=_
     cases i with
     | zero=>simp at h1 h2; simp [h1,h2]
     | succ i=>simpa using ih m i x y (by simpa using h1) (by simpa using h2)
theorem Sim.congr {h h':Trie VObj} (S:Sim B0 w0 K h w) (e:∀ j,h'.get j=h.get j):Sim B0 w0 K h' w:=
 ⟨S.size0,S.below,S.dom',fun b g l q=>by rw [e]; exact S.dom2 b g l q,S.own,S.apart,S.same,fun b g l cs cur ro q1 q2 q3=>S.room b g l cs cur ro q1 q2 (by rw [← e]; exact q3),fun b cs cur ro q=>S.gens b cs cur ro (by rw [← e]; exact q),
  fun b cs cur ro g l q1=>S.cells b cs cur ro g l (by rw [← e]; exact q1),fun b es q=>S.map b es (by rw [← e]; exact q),fun b x p q=>S.siter b x p (by rw [← e]; exact q),fun b g l q hnc=>S.gen0 b g l q fun cs cur ro e'=>hnc cs cur ro (by rw [e]; exact e')⟩
structure Inv (B0:Nat) (w0:Base) (T:Tab) (K0:KM) (cn n:Nat) (len0:Nat) (H:Nat → Trie VObj) (FR:Nat → List Value) (dw:Nat → List Nat) (dst:Nat → List Nat) (ps:Nat → List Nat) (ds:List Deferred) (D:Nat → Bool) (a:Act) (w:World) (K:KM) (hD:Trie VObj) (fD:List Value):Prop where
 heap:∀ id,hD.get id=a6C (fun i=>(H i).get id) D (fun i=>decide (id ∈ dw i)) n
 flen:fD.length=len0
 tmps:∀ t,fD[t]?=a6C (fun i=>(FR i)[t]?) D (fun i=>decide (t ∈ dst i)) n
 sim:Sim B0 w0 K hD w
 vrl:VRL K a.tmps.toList fD
 gk:GK T K
 le:K0.le K
 far:∀ i g,cn ≤ i → K i g=K0 i g
 defs:a.defers=ds
 closed:∀ j,j < n → D j=true → ∀ p,p ∈ ps j → D p=true
theorem b2i (hT:TabOk P T) (hM:P.follows .mixedOrders=true) {call:Nat → List Value → M Value} (hC:a5Z P T B0 w0 call) (hF:∀ f vs,Fr (call f vs)) {id:Nat} (ops:Array Oper) {Q:Exit → Act → World → Prop}
 {fr':List Value} {feet:List (List Nat × List Nat)} (h:a4y P T call ops.toList ops.toList fr s=some ((fr',feet),s')) (hok:a1b ops.toList (a2I ops.toList feet) [] [] 0=true)
 (S:Sim B0 w0 K s.h w) (F:a2S K s s') (hf:VRL K a.tmps.toList fr) (hg:GK T K)
 (hq:∀ a' w' K',Step B0 w0 K s' w' K' → VRL K' a'.tmps.toList fr' → a'.defers=a.defers → Q .normal a' w'):(Code.region id ops true).wp P Q a w:=by
 obtain ⟨hlen,C,H,FR,c1,c2,c3,c4,c5,c6,tr⟩:=b9O (P:=P) (T:=T) (call:=call) ops.toList ops.size 0 fr fr' s s' feet (by simp) (by simpa using h)
 rw [Nat.zero_add] at c4 c5 c6 tr
 obtain ⟨ps,_,hps⟩:=b8S _ _ _ _ hok rfl rfl
 simp only [Nat.zero_add,List.nil_append] at hps
 let dw:Nat → List Nat:=fun i=>((feet[i]?).getD ([], [])).2
 let dr:Nat → List Nat:=fun i=>((feet[i]?).getD ([], [])).1
 let dst:Nat → List Nat:=fun i=>((ops.toList[i]?).map a4J).getD []
 have hop:∀ i,i < ops.size → ∃ o,ops[i]?=some o ∧ ops.toList[i]?=some o ∧ dst i=a4J o ∧ (a2I ops.toList feet)[i]?=some (o,(dr i,dw i)) ∧
  ((a3r ops.toList (FR i) o=true ∧ ∃ v,a3E P T call (FR i) o.op ⟨C i,H i, [], []⟩=some (v,⟨C (i + 1),H (i + 1),dr i,dw i⟩) ∧ FR (i + 1)=a0U (FR i) o v) ∨
   (a3r ops.toList (FR i) o=false ∧ dr i=[] ∧ dw i=[] ∧ C (i + 1)=C i ∧ H (i + 1)=H i ∧ FR (i + 1)=a0U (FR i) o undef)):=by
  intro i hi
  obtain ⟨o,ft,t1,t2,t3⟩:=tr.op i (Nat.zero_le _) hi
  rw [Nat.sub_zero] at t2
  have e1:dr i=ft.1:=by show ((feet[i]?).getD ([], [])).1=_; rw [t2]; rfl
  have e2:dw i=ft.2:=by show ((feet[i]?).getD ([], [])).2=_; rw [t2]; rfl
  refine ⟨o,by simpa using t1,t1,by show ((ops.toList[i]?).map a4J).getD []=_; rw [t1]; rfl, ?_, ?_⟩
  · rw [c3W _ _ i o ft t1 t2,e1,e2]
  · rw [e1,e2]
    rcases t3 with ⟨a1,v,a2,a3⟩ | ⟨a1,rfl,a2,a3,a4⟩
    · exact Or.inl ⟨a1,v,a2,a3⟩
    · exact Or.inr ⟨a1,rfl,rfl,a2,a3,a4⟩
 have hfoot:∀ i,i < ops.size → C i ≤ C (i + 1) ∧ (∀ x,x ∈ dw i → x < C (i + 1)) ∧ (∀ x,C i ≤ x → x < C (i + 1) → x ∈ dw i) ∧ (∀ x,x ∉ dw i → (H (i + 1)).get x=(H i).get x):=by
  intro i hi
  obtain ⟨o,_,_,_,_,t⟩:=hop i hi
  rcases t with ⟨_,v,a2,_⟩ | ⟨_,_,b2,b3,b4,_⟩
  · obtain ⟨r0,w0',e1,e2,e3,e4,e5,e6,e7,e8⟩:=Fr.stepOp P T hF _ _ _ _ _ a2
    simp only [List.append_nil] at e1 e2
    subst e1 e2
    exact ⟨e3,e5,e6,e7⟩
  · rw [b2,b3,b4]
    exact ⟨Nat.le_refl _,by simp,fun x h1 h2=>by omega,fun _ _=>rfl⟩
 have hmono:∀ i j,i ≤ j → j ≤ ops.size → C i ≤ C j:=by
  intro i j hij
  induction j with
  | zero=>intro _; have:i=0:=by omega
          subst this; exact Nat.le_refl _
  | succ j ih=>
    intro hj
    by_cases hi:i=j + 1
    · subst hi; exact Nat.le_refl _
    · exact Nat.le_trans (ih (by omega) (by omega)) (hfoot j (by omega)).1
 have hclash:∀ i j,i < j → j < ops.size → i ∈ ps j ∨ ((∀ x,x ∈ dw i → x ∉ dr j) ∧ (∀ x,x ∈ dw i → x ∉ dw j) ∧ (∀ x,x ∈ dw j → x ∉ dr i) ∧
  (∀ o o',ops.toList[i]?=some o → ops.toList[j]?=some o' → (∀ t,t ∈ dst i → t ∉ a5d ops.toList o') ∧ (∀ t,t ∈ dst i → t ∉ dst j) ∧ (∀ t,t ∈ dst j → t ∉ a5d ops.toList o))):=by
  intro i j hij hj
  obtain ⟨oj,_,j1,j2,j3,_⟩:=hop j hj
  obtain ⟨oi,_,i1,i2,i3,_⟩:=hop i (by omega)
  rcases (hps j _ j3).2.2 i _ hij i3 with q | q
  · exact Or.inl q
  · obtain ⟨f1,f2,f3,f4,f5,f6⟩:=c1z q
    refine Or.inr ⟨f1,f2,f3,fun o o' ho ho'=>?_⟩
    rw [i1] at ho; rw [j1] at ho'
    cases ho; cases ho'
    rw [i2,j2]
    exact ⟨f4,f5,f6⟩
 have hXh:∀ x k,k < ops.size → decide (x ∈ dw k)=false → (H (k + 1)).get x=(H k).get x:=fun x k hk hd=>(hfoot k hk).2.2.2 x (by simpa using hd)
 have hXt:∀ t k,k < ops.size → decide (t ∈ dst k)=false → (FR (k + 1))[t]?=(FR k)[t]?:=by
  intro t k hk hd
  obtain ⟨o,_,_,d1,_,q⟩:=hop k hk
  have hnd:t ∉ a4J o:=by rw [← d1]; simpa using hd
  rcases q with ⟨_,v,_,e⟩ | ⟨_,_,_,_,_,e⟩ <;> rw [e,a4X,if_neg (fun q=>hnd q.1)]
 have hlenF:∀ k,k ≤ ops.size → (FR k).length=fr.length:=by
  intro k
  induction k with
  | zero=>intro _; rw [c3]
  | succ k ih=>
    intro hk
    obtain ⟨o,_,_,_,_,q⟩:=hop k (by omega)
    rcases q with ⟨_,v,_,e⟩ | ⟨_,_,_,_,_,e⟩ <;> rw [e,a5K,ih (by omega)]
 refine wp_region_any hM ?_
 have key:∀ (fuel:Nat) (listed:Array Bool) (a1:Act) (w1:World) (U:List Nat),listed.size=ops.size → U.length=fuel → U.Nodup → (∀ j,j < ops.size → (listed.getD j false=false ↔ j ∈ U)) → (∀ j,j ∈ U → j < ops.size) →
  (∃ K1 hD fD,Inv B0 w0 T K s'.c ops.size fr.length H FR dw dst ps a.defers (fun j=>listed.getD j false) a1 w1 K1 hD fD) → wpAny P .any ops Q fuel listed a1 w1:=by
  intro fuel
  have hend:∀ (listed:Array Bool) (a1:Act) (w1:World),(∀ j,j < ops.size → listed.getD j false=true) →
   (∃ K1 hD fD,Inv B0 w0 T K s'.c ops.size fr.length H FR dw dst ps a.defers (fun j=>listed.getD j false) a1 w1 K1 hD fD) → Q .normal a1 w1:=by
   intro listed a1 w1 hall ⟨K1,hD,fD,I⟩
   have e1:∀ x,s'.h.get x=hD.get x:=fun x=>by
    rw [I.heap x,b7I (hXh x) hall,c5]
   have e2:fD=fr':=by
    apply List.ext_getElem?
    intro t
    rw [I.tmps t,b7I (hXt t) hall,c6]
   subst e2
   exact hq a1 w1 K1 ⟨I.le,I.far,I.sim.congr e1⟩ I.vrl I.defs
  have hgetD:∀ (listed:Array Bool) i,listed.size=ops.size → i < ops.size → listed.getD i true=listed.getD i false:=by
   intro listed i h1 h2
   simp [Array.getD,h1,h2]
  induction fuel with
  | zero=>
    intro listed a1 w1 U hsz hU hnd hUU hUn hI
    have hall:∀ j,j < ops.size → listed.getD j false=true:=by
     intro j hj
     cases q:listed.getD j false with
     | true=>rfl
     | false=>
       have:=(hUU j hj).1 q
       rw [List.eq_nil_of_length_eq_zero hU] at this
       cases this
    refine ⟨?_,hend listed a1 w1 hall hI⟩
    unfold Region.ready
    rw [List.filter_eq_nil_iff]
    intro i hi
    have hi:i < ops.size:=by simpa using hi
    rw [hgetD listed i hsz hi,hall i hi]
    simp
  | succ fuel ih=>
    intro listed a1 w1 U hsz hU hnd hUU hUn hI
    refine ⟨fun hr=>?_,fun i hi=>?_⟩
    ·
      exfalso
      obtain ⟨u,hu,hmin⟩:∃ u,u ∈ U ∧ ∀ x,x ∈ U → u ≤ x:=by
       have hne:∃ x,x ∈ U:=by
        cases U with
        | nil=>simp at hU
        | cons x U=>exact ⟨x,List.mem_cons_self ..⟩
       obtain ⟨x,hx⟩:=hne
       have:∀ m x,x ≤ m → x ∈ U → ∃ u,u ∈ U ∧ ∀ x,x ∈ U → u ≤ x:=by
        intro m
        induction m with
        | zero=>intro x h1 h2; exact ⟨x,h2,fun y _=>by omega⟩
        | succ m ihm=>
          intro x h1 h2
          by_cases hh:∃ y,y ∈ U ∧ y ≤ m
          · obtain ⟨y,y1,y2⟩:=hh; exact ihm y y2 y1
          · exact ⟨x,h2,fun y hy=>by
             have:¬ y ≤ m:=fun q=>hh ⟨y,hy,q⟩
             omega⟩
       exact this x x (Nat.le_refl _) hx
      have hun:=hUn u hu
      obtain ⟨o,o1,o2,_,o3,_⟩:=hop u hun
      have hmem:u ∈ Region.ready .any ops listed:=by
       unfold Region.ready
       rw [List.mem_filter]
       refine ⟨by simpa using hun, ?_⟩
       rw [hgetD listed u hsz hun,(hUU u hun).2 hu,o1]
       simp only [Bool.not_false,Bool.true_and,Option.map_some,Option.getD_some]
       rw [Array.all_eq_true_iff_forall_mem]
       intro e he
       cases hb:Region.binds .any e with
       | false=>rfl
       | true=>
         have hlt:=(hps u _ o3).1 e (by simpa using he) hb
         simp only [Bool.not_true,Bool.false_or]
         cases q:listed.getD e.on false with
         | true=>rfl
         | false=>
           have:=hmin _ ((hUU e.on (by omega)).1 q)
           omega
      rw [hr] at hmem
      cases hmem
    · obtain ⟨K1,hD,fD,I⟩:=hI
      unfold Region.ready at hi
      rw [List.mem_filter] at hi
      have hin:i < ops.size:=by simpa using hi.1
      obtain ⟨o,o1,o2,o3,o4,o5⟩:=hop i hin
      have hi2:=hi.2
      rw [hgetD listed i hsz hin,o1] at hi2
      simp only [Option.map_some,Option.getD_some,Bool.and_eq_true,Bool.not_eq_true'] at hi2
      obtain ⟨hnl,hed⟩:=hi2
      rw [Array.all_eq_true_iff_forall_mem] at hed
      let D:Nat → Bool:=fun j=>listed.getD j false
      let D':Nat → Bool:=fun j=>(listed.setIfInBounds i true).getD j false
      have hD':∀ j,D' j=if j=i then true else D j:=by
       intro j
       show (listed.setIfInBounds i true).getD j false=_
       by_cases hj:j=i
       · subst hj; simp [Array.getD,hsz,hin]
       · rw [if_neg hj]
         show _=listed.getD j false
         simp only [Array.getD_eq_getD_getElem?,Array.getElem?_setIfInBounds]
         rw [if_neg (fun q=>hj q.symm)]
      have hpsD:∀ p,p ∈ ps i → D p=true:=by
       intro p hp
       obtain ⟨e,he,hb,hpe⟩:=(hps i _ o4).2.1 p hp
       have he1:D e.on=true:=by
        have:=hed e (by simpa using he)
        rw [hb] at this
        simp only [Bool.not_true,Bool.false_or] at this
        exact this
       have hlt:=(hps i _ o4).1 e he hb
       rcases hpe with rfl | hpe
       · exact he1
       · exact I.closed e.on (by omega) he1 p hpe
      have hside:∀ j,j < ops.size → j ≠ i → (¬ (j < i ∧ j ∉ ps i)) ∧ (¬ (i < j ∧ D j=true ∧ i ∉ ps j)) → True:=fun _ _ _ _=>trivial
      have hagreeH:∀ x,(x ∈ dr i ∨ x ∈ dw i) → ∀ j,j < ops.size → x ∈ dw j → (D j=true ↔ j < i):=by
       intro x hx j hj hxj
       rcases Nat.lt_trichotomy j i with hlt | rfl | hgt
       · refine ⟨fun _=>hlt,fun _=>?_⟩
         rcases hclash j i hlt hin with q | ⟨q1,q2,q3,_⟩
         · exact hpsD j q
         · rcases hx with hx | hx
           · exact absurd hx (q1 x hxj)
           · exact absurd hx (q2 x hxj)
       · refine ⟨fun q=>?_,fun q=>by omega⟩
         have:D j=false:=hnl
         rw [this] at q; cases q
       · refine ⟨fun q=>?_,fun q=>by omega⟩
         rcases hclash i j hgt hj with q' | ⟨q1,q2,q3,_⟩
         · have:=I.closed j hj q i q'
           have hf:D i=false:=hnl
           rw [show D i=true from this] at hf; cases hf
         · rcases hx with hx | hx
           · exact absurd hx (q3 x hxj)
           · exact absurd hxj (q2 x hx)
      have hagreeT:∀ t,(t ∈ a5d ops.toList o ∨ t ∈ dst i) → ∀ j,j < ops.size → t ∈ dst j → (D j=true ↔ j < i):=by
       intro t ht j hj htj
       rcases Nat.lt_trichotomy j i with hlt | rfl | hgt
       · refine ⟨fun _=>hlt,fun _=>?_⟩
         rcases hclash j i hlt hin with q | ⟨_,_,_,q4⟩
         · exact hpsD j q
         · obtain ⟨oj,_,j1,_,_,_⟩:=hop j hj
           obtain ⟨r1,r2,r3⟩:=q4 oj o j1 o2
           rcases ht with ht | ht
           · exact absurd ht (r1 t htj)
           · exact absurd ht (r2 t htj)
       · refine ⟨fun q=>?_,fun q=>by omega⟩
         have:D j=false:=hnl
         rw [this] at q; cases q
       · refine ⟨fun q=>?_,fun q=>by omega⟩
         rcases hclash i j hgt hj with q' | ⟨_,_,_,q4⟩
         · have:=I.closed j hj q i q'
           have hf:D i=false:=hnl
           rw [show D i=true from this] at hf; cases hf
         · obtain ⟨oj,_,j1,_,_,_⟩:=hop j hj
           obtain ⟨r1,r2,r3⟩:=q4 o oj o2 j1
           rcases ht with ht | ht
           · exact absurd ht (r3 t htj)
           · exact absurd htj (r2 t ht)
      have hH:∀ x,(x ∈ dr i ∨ x ∈ dw i) → hD.get x=(H i).get x:=fun x hx=>by
       rw [I.heap x]
       exact b0J (hXh x) i (fun j hj hw=>hagreeH x hx j hj (by simpa using hw)) (by omega)
      have hFt:∀ t,(t ∈ a5d ops.toList o ∨ t ∈ dst i) → fD[t]?=(FR i)[t]?:=fun t ht=>by
       rw [I.tmps t]
       exact b0J (hXt t) i (fun j hj hw=>hagreeT t ht j hj (by simpa using hw)) (by omega)
      obtain ⟨hstep,hwant⟩:=b2h (P:=P) (T:=T) (call:=call) (ops:=ops.toList) (o:=o) (fr:=fD) (fr2:=FR i) (fun t ht=>a6s (hFt t (Or.inl ht)))
      have hnext:∀ (v:Value) (hD2:Trie VObj) (K2:KM) (v':Value) (w2:World),FR (i + 1)=a0U (FR i) o v → (∀ x,x ∈ dw i → hD2.get x=(H (i + 1)).get x) → (∀ x,x ∉ dw i → hD2.get x=hD.get x) →
       Sim B0 w0 K2 hD2 w2 → K1.le K2 → (∀ x g,s'.c ≤ x → K2 x g=K1 x g) → VR K2 v' v → wpAny P .any ops Q fuel (listed.setIfInBounds i true) (a1.put o.dst v') w2:=by
       intro v hD2 K2 v' w2 e1 e2 e3 e4 e5 e6 e7
       refine ih _ _ _ (U.erase i) (by simp [hsz]) ?_ (hnd.erase i) (fun j hj=>?_) (fun j hj=>hUn j (List.mem_of_mem_erase hj)) ⟨K2,hD2,a0U fD o v,⟨fun x=>?_,by rw [a5K]; exact I.flen,fun t=>?_,e4,a7W (I.vrl.mono e5) o e7,I.gk.mono e5,KM.le_trans I.le e5,fun x g hx=>(e6 x g hx).trans (I.far x g hx),by rw [a4D]; exact I.defs,fun j hj hd p hp=>?_⟩⟩
       · have:i ∈ U:=(hUU i hin).1 hnl
         rw [List.length_erase_of_mem this,hU]; rfl
       · have:=hD' j
         show D' j=false ↔ _
         rw [this,hnd.mem_erase_iff]
         by_cases hji:j=i
         · subst hji; simp
         · rw [if_neg hji]; exact ⟨fun q=>⟨hji,(hUU j hj).1 q⟩,fun q=>(hUU j hj).2 q.2⟩
       · show _=a6C _ D' _ _
         by_cases hx:x ∈ dw i
         · rw [e2 x hx,b9d (n:=ops.size) i hin (by rw [hD' i,if_pos rfl]) (by simpa using hx) (fun j h1 h2 h3=>?_)]
           rw [hD' j,if_neg (by omega)] at h3
           cases q:decide (x ∈ dw j) with
           | false=>rfl
           | true=>
             have:=(hagreeH x (Or.inr hx) j h2 (by simpa using q)).1 h3
             omega
         · rw [e3 x hx,I.heap x]
           refine (b6O fun j hj hw=>?_).symm
           rw [hD' j,if_neg (fun q=>hx (by subst q; simpa using hw))]
       · show _=a6C _ D' _ _
         by_cases ht:t ∈ dst i
         · rw [b9d (n:=ops.size) i hin (by rw [hD' i,if_pos rfl]) (by simpa using ht) (fun j h1 h2 h3=>?_)]
           · rw [e1,a4X,a4X,hFt t (Or.inr ht),I.flen,hlenF i (by omega)]
           · rw [hD' j,if_neg (by omega)] at h3
             cases q:decide (t ∈ dst j) with
             | false=>rfl
             | true=>
               have:=(hagreeT t (Or.inr ht) j h2 (by simpa using q)).1 h3
               omega
         · rw [a4X,if_neg (fun q=>ht (by rw [o3]; exact q.1)),I.tmps t]
           refine (b6O fun j hj hw=>?_).symm
           rw [hD' j,if_neg (fun q=>ht (by subst q; simpa using hw))]
       · have hdj:D' j=true:=hd
         show D' p=true
         rw [hD' j] at hdj
         rw [hD' p]
         by_cases hji:j=i
         · subst hji
           have:=hpsD p hp
           split <;> first | rfl | exact this
         · rw [if_neg hji] at hdj
           have:=I.closed j hj hdj p hp
           split <;> first | rfl | exact this
      unfold wpOp
      rw [o1]
      dsimp only
      rw [a8G ops a1.tmps I.vrl,hwant]
      rcases o5 with ⟨b1,v,b2,b3⟩ | ⟨b1,b2,b3,b4,b5,b6⟩
      · rw [b1,if_pos rfl]
        left
        obtain ⟨r0,w0',e1,e2,e3,e4,e5,e6,e7,e8⟩:=Fr.stepOp P T hF _ _ _ _ _ b2
        simp only [List.append_nil] at e1 e2
        subst e1 e2
        obtain ⟨h2',q1,q2,q3⟩:=e8 hD [] [] (fun x hx _=>hH x hx)
        rw [← hstep] at q1
        have hfree:a2S K1 ⟨C i,hD, [], []⟩ ⟨C (i + 1),h2',dr i ++ [],dw i ++ []⟩:=by
         intro x hx1 hx2
         show hD.get x=none
         have hx1:C i ≤ x:=hx1
         have hx2:x < C (i + 1):=hx2
         rw [I.heap x,b1y (fun j hj hd=>?_)]
         · show (H 0).get x=none
           rw [c2]
           have h0:=hmono 0 i (Nat.zero_le _) (by omega)
           have hn:=hmono (i + 1) ops.size (by omega) (Nat.le_refl _)
           exact F x (by rw [← c1]; omega) (by rw [← c4]; omega)
         · cases q:decide (x ∈ dw j) with
           | false=>rfl
           | true=>
             have hxj:x ∈ dw j:=by simpa using q
             have hxi:x ∈ dw i:=e6 x hx1 hx2
             have:=(hagreeH x (Or.inr hxi) j hj hxj).1 hd
             have h1:=(hfoot j hj).2.1 x hxj
             have h2:=hmono (j + 1) i (by omega) (by omega)
             omega
        refine a9c hT hC q1 I.sim hfree I.vrl I.gk fun v' w2 K2 st r=>?_
        refine hnext v h2' K2 v' w2 b3 q2 q3 st.sim st.le (fun x g hx=>st.far x g ?_) r
        have hn:=hmono (i + 1) ops.size (by omega) (Nat.le_refl _)
        show C (i + 1) ≤ x
        rw [← c4] at hx
        omega
      · rw [b1]
        simp only [Bool.false_eq_true,if_false]
        exact hnext undef hD K1 undef w1 b6 (fun x hx=>by rw [b3] at hx; cases hx) (fun _ _=>rfl) I.sim (KM.le_refl _) (fun _ _ _=>rfl) (VR.undef K1)
 refine key ops.size (Array.replicate ops.size false) a _ (List.range ops.size) (by simp) (by simp) List.nodup_range (fun j hj=>by simp [hj]) (fun j hj=>by simpa using hj) ?_
 refine ⟨K,s.h,fr,⟨fun x=>?_,rfl,fun t=>?_,a6P S (Grew.drew w),hf,hg,KM.le_refl K,fun _ _ _=>rfl,rfl,fun j hj hd=>?_⟩⟩
 · rw [b1y (fun j hj hd=>by simp [hj] at hd),c2]
 · rw [b1y (fun j hj hd=>by simp [hj] at hd),c3]
 · simp [hj] at hd
end
end Go.V
end
section
namespace Go.V
open Go.RowKit (Below)
section
variable {P:Program} {T:Tab} {B0:Nat} {w0:Base} {w:World} {K:KM} {s s':S} {a:Act} {fr:List Value} {v:Value}
theorem a8o {β α:Type} (l:List β) (k:List β → α):fList l k=k l:=by
 induction l generalizing k with
 | nil=>rfl
 | cons x l ih=>exact ih _
theorem b1z {x:Value} {t:Bool} (r:VR K x (.bool t)):x=.bool t:=by
 generalize hv:Value.bool t=z at r
 cases r with
 | plain=>rfl
 | _=>cases hv
theorem b1s.from {s1:S} {w1:World} {K1:KM} {ds:List Deferred} {ex:Ex} {fr':List Value} {e:Exit} {a':Act} {w':World}
 (h1:Step B0 w0 K s1 w1 K1) (hc:s1.c ≤ s'.c) (h:b1s B0 w0 K1 s' ds ex fr' e a' w'):b1s B0 w0 K s' ds ex fr' e a' w':=by
 obtain ⟨K',st,r,d,q⟩:=h
 exact ⟨K',h1.trans st hc,r,d,q⟩
theorem b7c (hT:TabOk P T) (hM:P.follows .mixedOrders=true) {call:Nat → List Value → M Value} (hC:a5Z P T B0 w0 call) (hF:∀ f vs,Fr (call f vs)) (n:Nat) :
 (∀ c fr s ex fr' s' K a w Q,a6Z P T call n c fr s=some ((ex,fr'),s') → Sim B0 w0 K s.h w → a2S K s s' → VRL K a.tmps.toList fr → GK T K →
   (∀ e a' w',b1s B0 w0 K s' a.defers ex fr' e a' w' → Q e a' w') → c.wp P Q a w) ∧
 (∀ b fr s ex fr' s' K a w Q,a6Z P T call n (.loop b) fr s=some ((ex,fr'),s') → Sim B0 w0 K s.h w → a2S K s s' → VRL K a.tmps.toList fr → GK T K →
   (∀ e a' w',b1s B0 w0 K s' a.defers ex fr' e a' w' → Q e a' w') → Code.rounds P b Q n a w):=by
 induction n with
 | zero=>
   constructor
   · intro c fr s ex fr' s' K a w Q h; cases h
   · intro b fr s ex fr' s' K a w Q h; cases h
 | succ n ih=>
   obtain ⟨ihA,ihB⟩:=ih
   have hFe:∀ c fr,Fr (a6Z P T call n c fr):=Fr.exec P T hF n
   have hB:∀ b fr s ex fr' s' K a w Q,a6Z P T call (n + 1) (.loop b) fr s=some ((ex,fr'),s') → Sim B0 w0 K s.h w → a2S K s s' → VRL K a.tmps.toList fr → GK T K →
    (∀ e a' w',b1s B0 w0 K s' a.defers ex fr' e a' w' → Q e a' w') → Code.rounds P b Q (n + 1) a w:=by
    intro b fr s ex fr' s' K a w Q h S F hf hg hq
    have h1:fList fr (fun fr=>M.bind (a6Z P T call n b fr) fun r=>match r.1 with
     | .normal=>a6Z P T call n (.loop b) r.2
     | .exit id=>M.pure (.exit id,r.2)
     | .ret=>M.pure (.ret,r.2)) s=some ((ex,fr'),s'):=h
    rw [a8o] at h1
    obtain ⟨⟨x1,fr1⟩,s1,h2,h3⟩:=M8 h1
    show b.wp P (Exit.then (Code.rounds P b Q n) Q) a w
    cases x1 with
    | normal=>
      have h3:a6Z P T call n (.loop b) fr1 s1=some ((ex,fr'),s'):=h3
      have hle:=(hFe _ _).le h3
      refine ihA b fr s .normal fr1 s1 K a w _ h2 S (F.left hle) hf hg fun e a' w' L=>?_
      obtain ⟨K1,st,r1,d1,e1⟩:=L
      have e1:e=.normal:=e1
      subst e1
      show Code.rounds P b Q n a' w'
      exact ihB b fr1 s1 ex fr' s' K1 a' w' Q h3 st.sim (F.right (hFe _ _) h2) r1 (hg.mono st.le) fun e a2 w2 L=>hq e a2 w2 (b1s.from st hle (d1 ▸ L))
    | exit id=>
      have h3:M.pure (Ex.exit id,fr1) s1=some ((ex,fr'),s'):=h3
      obtain ⟨e,rfl⟩:=J3 h3
      cases e
      refine ihA b fr s _ _ _ K a w _ h2 S F hf hg fun e a' w' L=>?_
      have he:e=.exit id:=L.choose_spec.2.2.2
      subst he
      exact hq _ _ _ L
    | ret=>
      have h3:M.pure (Ex.ret,fr1) s1=some ((ex,fr'),s'):=h3
      obtain ⟨e,rfl⟩:=J3 h3
      cases e
      refine ihA b fr s _ _ _ K a w _ h2 S F hf hg fun e a' w' L=>?_
      have he:e=.ret:=L.choose_spec.2.2.2
      subst he
      exact hq _ _ _ L
   refine ⟨fun c fr s ex fr' s' K a w Q h S F hf hg hq=>?_,hB⟩
   have h0:c0t P T call (a6Z P T call n) c fr s=some ((ex,fr'),s'):=h
   cases c with
   | skip=>
     have h0:M.pure (Ex.normal,fr) s=some ((ex,fr'),s'):=h0
     obtain ⟨e,rfl⟩:=J3 h0
     cases e
     exact wp_skip (hq _ _ _ ⟨K,Step.same S rfl,hf,rfl,rfl⟩)
   | region id ops draw=>
     have h0:region P T call ops.toList draw fr s=some ((ex,fr'),s'):=h0
     cases draw with
     | false=>
       have h0:M.bind (a6G P T call ops.toList ops.toList fr) (fun fr'=>M.pure (Ex.normal,fr')) s=some ((ex,fr'),s'):=h0
       obtain ⟨fr1,s1,h1,h2⟩:=M8 h0
       obtain ⟨e,rfl⟩:=J3 h2
       cases e
       refine wp_region ?_
       rw [List.range_eq_range']
       exact c2u hT hC hF ops ops.size 0 fr _ s _ K a w (by simp) (by simpa using h1) S F hf hg fun a' w' K' st r d=>hq _ _ _ ⟨K',st,r,d,rfl⟩
     | true=>
       have h0:M.bind (a4y P T call ops.toList ops.toList fr) (fun y=>M.guard (a1b ops.toList (a2I ops.toList y.2) [] [] 0) <| M.pure (Ex.normal,y.1)) s=some ((ex,fr'),s'):=h0
       obtain ⟨⟨fr1,feet⟩,s1,h1,h2⟩:=M8 h0
       obtain ⟨hok,h3⟩:=R4 h2
       obtain ⟨e,rfl⟩:=J3 h3
       cases e
       exact b2i hT hM hC hF ops h1 hok S F hf hg fun a' w' K' st r d=>hq _ _ _ ⟨K',st,r,d,rfl⟩
   | seq x y=>
     have h0:M.bind (a6Z P T call n x fr) (fun r=>match r.1 with
      | .normal=>a6Z P T call n y r.2
      | .exit id=>M.pure (.exit id,r.2)
      | .ret=>M.pure (.ret,r.2)) s=some ((ex,fr'),s'):=h0
     obtain ⟨⟨x1,fr1⟩,s1,h2,h3⟩:=M8 h0
     refine wp_seq ?_
     cases x1 with
     | normal=>
       have h3:a6Z P T call n y fr1 s1=some ((ex,fr'),s'):=h3
       have hle:=(hFe _ _).le h3
       refine ihA x fr s .normal fr1 s1 K a w _ h2 S (F.left hle) hf hg fun e a' w' L=>?_
       obtain ⟨K1,st,r1,d1,e1⟩:=L
       have e1:e=.normal:=e1
       subst e1
       exact ihA y fr1 s1 ex fr' s' K1 a' w' Q h3 st.sim (F.right (hFe _ _) h2) r1 (hg.mono st.le) fun e a2 w2 L=>hq e a2 w2 (b1s.from st hle (d1 ▸ L))
     | exit id=>
       have h3:M.pure (Ex.exit id,fr1) s1=some ((ex,fr'),s'):=h3
       obtain ⟨e,rfl⟩:=J3 h3
       cases e
       refine ihA x fr s _ _ _ K a w _ h2 S F hf hg fun e a' w' L=>?_
       have he:e=.exit id:=L.choose_spec.2.2.2
       subst he
       exact hq _ _ _ L
     | ret=>
       have h3:M.pure (Ex.ret,fr1) s1=some ((ex,fr'),s'):=h3
       obtain ⟨e,rfl⟩:=J3 h3
       cases e
       refine ihA x fr s _ _ _ K a w _ h2 S F hf hg fun e a' w' L=>?_
       have he:e=.ret:=L.choose_spec.2.2.2
       subst he
       exact hq _ _ _ L
   | cond x c1 c2=>
     have h0:M.obind (a2H T fr x) (fun v=>match v with
      | .bool t=>match t with
        | true=>a6Z P T call n c1 fr
        | false=>a6Z P T call n c2 fr
      | _=>M.fail) s=some ((ex,fr'),s'):=h0
     obtain ⟨u,e1,h1⟩:=U4 h0
     have r:=a0C hf hg e1
     cases u with
     | bool t=>
       have hb:=b1z r
       cases t with
       | true=>exact wp_cond_true hb (ihA c1 fr s ex fr' s' K a w Q h1 S F hf hg hq)
       | false=>exact wp_cond_false hb (ihA c2 fr s ex fr' s' K a w Q h1 S F hf hg hq)
     | _=>cases h1
   | block id b=>
     have h0:M.bind (a6Z P T call n b fr) (fun r=>match r.1 with
      | .normal=>M.pure (.normal,r.2)
      | .exit id'=>match Nat.beq id' id with
        | true=>M.pure (.normal,r.2)
        | false=>M.pure (.exit id',r.2)
      | .ret=>M.pure (.ret,r.2)) s=some ((ex,fr'),s'):=h0
     obtain ⟨⟨x1,fr1⟩,s1,h2,h3⟩:=M8 h0
     refine wp_block ?_
     cases x1 with
     | normal=>
       have h3:M.pure (Ex.normal,fr1) s1=some ((ex,fr'),s'):=h3
       obtain ⟨e,rfl⟩:=J3 h3
       cases e
       refine ihA b fr s _ _ _ K a w _ h2 S F hf hg fun e a' w' L=>?_
       have he:e=.normal:=L.choose_spec.2.2.2
       subst he
       exact hq _ _ _ L
     | exit id'=>
       have h3:(match Nat.beq id' id with | true=>M.pure (Ex.normal,fr1) | false=>M.pure (Ex.exit id',fr1)) s1=some ((ex,fr'),s'):=h3
       cases hb:Nat.beq id' id with
       | true=>
         rw [hb] at h3
         obtain ⟨e,rfl⟩:=J3 h3
         cases e
         refine ihA b fr s _ _ _ K a w _ h2 S F hf hg fun e a' w' L=>?_
         obtain ⟨K1,st,r1,d1,e1⟩:=L
         have e1:e=.exit id':=e1
         subst e1
         show (if id'=id then Q .normal a' w' else Q (.exit id') a' w')
         rw [if_pos (Nat.eq_of_beq_eq_true hb)]
         exact hq _ _ _ ⟨K1,st,r1,d1,rfl⟩
       | false=>
         rw [hb] at h3
         obtain ⟨e,rfl⟩:=J3 h3
         cases e
         refine ihA b fr s _ _ _ K a w _ h2 S F hf hg fun e a' w' L=>?_
         have he:e=.exit id':=L.choose_spec.2.2.2
         subst he
         show (if id'=id then Q .normal a' w' else Q (.exit id') a' w')
         rw [if_neg (fun q=>by subst q; simp at hb)]
         exact hq _ _ _ L
     | ret=>
       have h3:M.pure (Ex.ret,fr1) s1=some ((ex,fr'),s'):=h3
       obtain ⟨e,rfl⟩:=J3 h3
       cases e
       refine ihA b fr s _ _ _ K a w _ h2 S F hf hg fun e a' w' L=>?_
       have he:e=.ret:=L.choose_spec.2.2.2
       subst he
       exact hq _ _ _ L
   | loop b=>exact wp_loop_rounds (n + 1) (hB b fr s ex fr' s' K a w Q h S F hf hg hq)
   | exit id=>
     have h0:M.pure (Ex.exit id,fr) s=some ((ex,fr'),s'):=h0
     obtain ⟨e,rfl⟩:=J3 h0
     cases e
     exact wp_exit (hq _ _ _ ⟨K,Step.same S rfl,hf,rfl,rfl⟩)
   | ret=>
     have h0:M.pure (Ex.ret,fr) s=some ((ex,fr'),s'):=h0
     obtain ⟨e,rfl⟩:=J3 h0
     cases e
     exact wp_ret (hq _ _ _ ⟨K,Step.same S rfl,hf,rfl,rfl⟩)
   | _=>cases h0
def b5n (tmps:Array Value):ResultVar → Sem Value
 | .tmp t=>pure (tmps.getD t undef)
 | .cell a t=>do loadVar t (← asAddr (tmps.getD a undef))
theorem b6k (hT:TabOk P T) {tmps:Array Value} (hf:VRL K tmps.toList fr):∀ (rs:List ResultVar) (vs:List Value) (s s':S),a5E T fr rs s=some (vs,s') → Sim B0 w0 K s.h w →
 s'.h=s.h ∧ s'.c=s.c ∧ ∃ vs',(rs.mapM (b5n tmps)).run P w=.ok vs' w ∧ VRL K vs' vs:=by
 have hget:∀ t,VR K (tmps.getD t undef) (d9 fr t):=by
  intro t
  have r:=hf.lget t
  rw [a5A tmps.toList,a6W] at r
  rw [Array.getD_eq_getD_getElem?]
  exact r
 intro rs
 induction rs with
 | nil=>
   intro vs s s' h S
   have h:M.pure ([]:List Value) s=some (vs,s'):=h
   obtain ⟨e,rfl⟩:=J3 h
   cases e
   exact ⟨rfl,rfl, [],rfl,⟨rfl,fun i v' v q=>by simp at q⟩⟩
 | cons r rs ih=>
   intro vs s s' h S
   have cons:∀ {x' x:Value} {ys' ys:List Value},VR K x' x → VRL K ys' ys → VRL K (x' :: ys') (x :: ys):=by
    intro x' x ys' ys r1 r2
    refine ⟨by simp [r2.len],fun i v' v h1 h2=>?_⟩
    cases i with
    | zero=>simp at h1 h2; subst h1; subst h2; exact r1
    | succ i=>exact r2.at_ i v' v (by simpa using h1) (by simpa using h2)
   cases r with
   | tmp t=>
     have h:M.bind (a5E T fr rs) (fun vs=>M.pure (d9 fr t :: vs)) s=some (vs,s'):=h
     obtain ⟨ys,s1,h1,h2⟩:=M8 h
     obtain ⟨e,rfl⟩:=J3 h2
     cases e
     obtain ⟨q1,q2,vs',q3,q4⟩:=ih ys _ _ h1 S
     refine ⟨q1,q2,tmps.getD t undef :: vs', ?_,cons (hget t) q4⟩
     rw [List.mapM_cons]
     simp only [b5n,Sem.run_bind,Sem.run_pure,Result.andThen_ok,q3]
   | cell ad t=>
     have h:a5e (d9 fr ad) (fun ad=>M.bind (a8k T t ad) fun v=>M.bind (a5E T fr rs) fun vs=>M.pure (v :: vs)) s=some (vs,s'):=h
     obtain ⟨adr,e0,h⟩:=a6M h
     obtain ⟨u,s1,h1,h2⟩:=M8 h
     obtain ⟨ys,s2,h3,h4⟩:=M8 h2
     obtain ⟨e,rfl⟩:=J3 h4
     cases e
     have r0:=hget ad
     rw [e0] at r0
     obtain ⟨ad',e1,r1⟩:=a8r r0
     obtain ⟨u',p1,p2,p3,p4⟩:=b4w hT h1 S r1
     obtain ⟨q1,q2,vs',q3,q4⟩:=ih ys _ _ h3 (by rw [p3]; exact S)
     refine ⟨q1.trans p3,q2.trans p4,u' :: vs', ?_,cons p2 q4⟩
     rw [List.mapM_cons]
     simp only [b5n,e1,Sem.run_bind,Sem.run_pure]
     have:(asAddr (.pointer (some ad'))).run P w=.ok ad' w:=by rfl
     rw [this]
     simp only [Result.andThen_ok,p1,q3]
theorem b2Q (hT:TabOk P T) {fn:Func} {ex:Ex} {fr':List Value} {tmps:Array Value} (h:b0a T fn (ex,fr') s=some (v,s')) (hf:VRL K tmps.toList fr') (S:Sim B0 w0 K s.h w) :
 (∀ id,ex ≠ .exit id) ∧ s'.h=s.h ∧ s'.c=s.c ∧ ∃ v',(results fn tmps).run P w=.ok v' w ∧ VR K v' v:=by
 have key:∀ h:M.bind (a5E T fr' fn.results.toList) (fun vs=>M.pure (b2z vs)) s=some (v,s'),s'.h=s.h ∧ s'.c=s.c ∧ ∃ v',(results fn tmps).run P w=.ok v' w ∧ VR K v' v:=by
  intro h
  obtain ⟨vs,s1,h1,h2⟩:=M8 h
  obtain ⟨e,rfl⟩:=J3 h2
  cases e
  obtain ⟨q1,q2,vs',q3,q4⟩:=b6k hT hf _ _ _ _ h1 S
  refine ⟨q1,q2,(if h:vs'.toArray.size=1 then vs'.toArray[0] else .tuple vs'.toArray), ?_, ?_⟩
  · show (do let vs ← fn.results.mapM (b5n tmps); pure (if h:vs.size=1 then vs[0] else .tuple vs):Sem Value).run P w=_
    rw [Array.mapM_eq_mapM_toList]
    simp only [Sem.run_bind,Sem.run_map,q3,Result.andThen_ok,Sem.run_pure]
  · match vs,vs',q4 with
    | [], [],_=>exact .tuple rfl (fun i v' v q=>by simp at q)
    | [x], [x'],q4=>exact q4.at_ 0 x' x rfl rfl
    | x :: y :: l,x' :: y' :: l',q4=>exact .tuple q4.len q4.at_
    | [],_ :: _,q4=>exact absurd q4.len (by simp)
    | _ :: _, [],q4=>exact absurd q4.len (by simp)
    | [_],_ :: _ :: _,q4=>exact absurd q4.len (by simp)
    | _ :: _ :: _, [_],q4=>exact absurd q4.len (by simp)
 cases ex with
 | exit id=>cases h
 | normal=>exact ⟨fun _ q=>(by cases q),key h⟩
 | ret=>exact ⟨fun _ q=>(by cases q),key h⟩
def b5t (P:Program) (T:Tab) (B0:Nat) (w0:Base) (ext:Nat → Option (List Value → M Value)):Prop:=
 (∀ f g,ext f=some g → ∀ vs,Fr (g vs)) ∧
 (∀ f g,ext f=some g → ∀ vs s v s' w K vs',g vs s=some (v,s') → Sim B0 w0 K s.h w → GK T K → a2S K s s' → VRL K vs' vs →
   (∃ v' w' K',(callFunc f vs'.toArray).run P w=.ok (.value v') w' ∧ Step B0 w0 K s' w' K' ∧ VR K' v' v) ∨
   ((callFunc f vs'.toArray).run P w=.ok (.enter f vs'.toArray) w ∧ Calls P f vs'.toArray w fun e w'=>∃ v' K',e=.returned v' ∧ Step B0 w0 K s' w' K' ∧ VR K' v' v))
theorem b1n (n:Nat):a4l n=List.replicate n undef:=by
 induction n with
 | zero=>rfl
 | succ n ih=>show undef :: a4l n=_; rw [ih]; rfl
theorem VRL.replicate (n:Nat):VRL K (List.replicate n undef) (List.replicate n undef):=
 ⟨by simp,fun i v' v h1 h2=>by
  rw [List.getElem?_replicate] at h1 h2
  by_cases hi:i < n
  · rw [if_pos hi] at h1 h2; cases h1; cases h2; exact VR.undef K
  · rw [if_neg hi] at h1; cases h1⟩
theorem b1l (hT:TabOk P T) (hM:P.follows .mixedOrders=true) {ext:Nat → Option (List Value → M Value)} (hE:b5t P T B0 w0 ext) (n:Nat):a5Z P T B0 w0 (a7l P T ext n):=by
 induction n with
 | zero=>intro f vs s v s' w K vs' h; cases h
 | succ n ih=>
   intro f vs s v s' w K vs' h S hg F hvs
   have h0:(match ext f with | some g=>g vs | none=>M.obind (T.funcs.get f) fun fn=>enter P T (a7l P T ext n) n fn f vs) s=some (v,s'):=h
   have hFc:=Fr.callV P T hE.1 n
   cases hx:ext f with
   | some g=>
     rw [hx] at h0
     exact hE.2 f g hx vs s v s' w K vs' h0 S hg F hvs
   | none=>
     rw [hx] at h0
     obtain ⟨fn,hfn,h1⟩:=U4 h0
     obtain ⟨hPf,hnum⟩:=hT.funcs f fn hfn
     unfold enter at h1
     cases hb:fn.body with
     | none=>
       left
       rw [hb] at h1
       obtain ⟨hpl,h2⟩:=R4 h1
       obtain ⟨x,hx1,h3⟩:=U4 h2
       obtain ⟨u,hu,h4⟩:=U4 h3
       obtain ⟨hna,h5⟩:=R4 h4
       have hxv:x=.value u:=by cases x <;> first | (cases hu; rfl) | cases hu
       subst hxv
       obtain ⟨e,rfl⟩:=J3 h5
       subst e
       have hvv:vs'=vs:=by
        apply List.ext_getElem?
        intro i
        by_cases hi:i < vs.length
        · have hi':i < vs'.length:=by rw [hvs.len]; exact hi
          have r:=hvs.at_ i _ _ (List.getElem?_eq_getElem hi') (List.getElem?_eq_getElem hi)
          rw [List.getElem?_eq_getElem hi',List.getElem?_eq_getElem hi]
          have hp:=(a1a _ _).1 hpl vs[i] (List.getElem_mem hi)
          rw [r.eq_of_plain hp]
        · rw [List.getElem?_eq_none (by rw [hvs.len]; omega),List.getElem?_eq_none (by omega)]
       rw [hvv]
       exact ⟨_,w,K,a7h hx1 w,Step.same S rfl,a3h _ _ hna⟩
     | some c=>
       right
       rw [hb] at h1
       obtain ⟨⟨ex,fr1⟩,s1,h2,h3⟩:=M8 h1
       have hle:s1.c ≤ s'.c:=by
        have:Fr (b0a T fn (ex,fr1)):=by
         unfold b0a; split
         · exact Fr.fail
         · exact Fr.bind (Fr.resultsV T _ _) fun _=>Fr.pure _
        exact this.le h3
       refine ⟨?_, ?_⟩
       · unfold callFunc
         simp [hPf,hb]
         simpa using hnum
       · refine calls_of_wp hPf hb ?_
         rw [M7,a0m,b1n] at h2
         refine (b7c hT hM ih hFc n).1 c _ s ex fr1 s1 K _ w _ h2 S (F.left hle) ?_ hg fun e a' w' L=>?_
         · show VRL K (vs'.toArray ++ Array.replicate (fn.ntmps - vs'.toArray.size) undef).toList (vs ++ List.replicate (fn.ntmps - vs.length) undef)
           simp only [Array.toList_append,Array.toList_replicate,List.size_toArray,hvs.len]
           exact hvs.append (VRL.replicate _)
         · obtain ⟨K1,st,r1,d1,e1⟩:=L
           obtain ⟨f1,f2,f3,v',f4,f5⟩:=b2Q hT h3 r1 st.sim
           have st2:Step B0 w0 K s' w' K1:=⟨st.le,fun i g hi=>st.far i g (by omega),by rw [f2]; exact st.sim⟩
           cases ex with
           | exit id=>exact absurd rfl (f1 id)
           | normal=>
             have e1:e=.normal:=e1
             subst e1
             exact ⟨d1,v',f4,v',K1,rfl,st2,f5⟩
           | ret=>
             have e1:e=.ret:=e1
             subst e1
             exact ⟨d1,v',f4,v',K1,rfl,st2,f5⟩
end
end Go.V
end
