import Derived.Test.YtmomonnlmbljoaaGreatDoorPam
section
noncomputable section
namespace Go.V
section
variable {p:Program} {T:Tab} {call:o8} {pn:Bool}
theorem b8m {ops os:List Oper} {o:Oper} (h:o∈os) {t:Nat} (ht:t∈a4U ops o):t∈a6d ops os:=by
 induction os with
 | nil=>cases h
 | cons x os ih=>
   show t∈M4 (a4U ops x) (a6d ops os)
   rw [N9,List.mem_append]
   simp only [List.mem_cons] at h
   rcases h with rfl | h
   · exact Or.inl ht
   · exact Or.inr (ih h)
theorem c3V {l:List Nat} {t:Nat} (h:t∈l):t∈a6u l:=by
 induction l with
 | nil=>cases h
 | cons i l ih=>
   show t∈b6J i (a6u l)
   unfold b6J
   simp only [List.mem_cons] at h
   cases hm:a4O i (a6u l) with
   | true=>
     rcases h with rfl | h
     · exact (a7X _ _).1 hm
     · exact ih h
   | false=>
     rcases h with rfl | h
     · exact List.mem_cons_self
     · exact List.mem_cons_of_mem _ (ih h)
theorem a8N {c:Nat→List Value→M Value} (ops:List Oper):∀ (os:List Oper) (fr:List Value) (s s':S) (z:List Value×List (List Nat×List Nat)),a4e p T c ops os fr s=some (z,s')→z.1.length=fr.length∧∀ t,t ∉ a0f os→z.1[t]?=fr[t]?:=by
 intro os
 induction os with
 | nil=>intro fr s s' z h; obtain ⟨rfl,rfl⟩:=J8 h; exact ⟨rfl,fun _ _=>rfl⟩
 | cons o os ih=>
   intro fr s s' z h
   have key:∀ (v:Value) (s1 s2:S) (y:List Value×List (List Nat×List Nat)),a4e p T c ops os (a0B fr o v) s1=some (y,s2)→y.1.length=fr.length∧∀ t,t ∉ a0f (o::os)→y.1[t]?=fr[t]?:=by
    intro v s1 s2 y hy
    obtain ⟨h1,h2⟩:=ih _ _ _ _ hy
    refine ⟨by rw [h1,a5w],fun t ht=>?_⟩
    rw [a7h,not_or] at ht
    rw [h2 t ht.2,a4J,if_neg (fun q=>ht.1 q.1)]
   rw [a6z] at h
   split at h
   · obtain ⟨x,s1,_,h2⟩:=O7 h
     obtain ⟨y,s2,h3,h4⟩:=O7 h2
     obtain ⟨rfl,rfl⟩:=J8 h4
     exact key _ _ _ y h3
   · obtain ⟨y,s2,h3,h4⟩:=O7 h
     obtain ⟨rfl,rfl⟩:=J8 h4
     exact key _ _ _ y h3
theorem c1v {c:Nat→List Value→M Value} (ops:List Oper) (A:Nat→Prop):∀ (os:List Oper),(∀ o∈os, ∀ t∈a4U ops o,A t)→∀ (fr fr2:List Value),fr.length=fr2.length→(∀ t,A t→j4 fr t=j4 fr2 t) →
 ∀ s y s',a4e p T c ops os fr s=some (y,s')→∃ fr',a4e p T c ops os fr2 s=some ((fr',y.2),s')∧∀ t,A t∨t∈a0f os→j4 y.1 t=j4 fr' t:=by
 intro os
 induction os with
 | nil=>
   intro _ fr fr2 hl hA s y s' h
   obtain ⟨rfl,rfl⟩:=J8 h
   exact ⟨fr2,rfl,fun t ht=>ht.elim (hA t) (fun q=>by cases q)⟩
 | cons o os ih=>
   intro ho fr fr2 hl hA s y s' h
   obtain ⟨c1,c2⟩:=b2C (P:=p) (T:=T) (call:=c) (ops:=ops) (o:=o) (fr:=fr) (fr2:=fr2) (fun t ht=>hA t (ho o List.mem_cons_self t ht))
   have key:∀ (v:Value) (s1 s2:S) (z:List Value×List (List Nat×List Nat)),a4e p T c ops os (a0B fr o v) s1=some (z,s2)→∃ fr',a4e p T c ops os (a0B fr2 o v) s1=some ((fr',z.2),s2) ∧
    ∀ t,A t∨t∈a0f (o::os)→j4 z.1 t=j4 fr' t:=by
    intro v s1 s2 z hz
    have hput:∀ t,A t∨t∈a4z o→j4 (a0B fr o v) t=j4 (a0B fr2 o v) t:=by
     intro t ht
     rw [a5n,a5n,a4J,a4J,hl]
     by_cases hc:t∈a4z o∧t<fr2.length
     · rw [if_pos hc,if_pos hc]
     · rw [if_neg hc,if_neg hc]
       rcases ht with ht | ht
       · have:=hA t ht; rw [a5n,a5n] at this; exact this
       · have:¬ t<fr2.length:=fun q=>hc ⟨ht,q⟩
         rw [List.getElem?_eq_none (by omega),List.getElem?_eq_none (by omega)]
    obtain ⟨fr',e1,e4⟩:=ih (fun x hx=>ho x (List.mem_cons_of_mem _ hx)) (a0B fr o v) (a0B fr2 o v) (by rw [a5w,a5w,hl]) (fun t ht=>hput t (Or.inl ht)) s1 z s2 hz
    refine ⟨fr',e1,fun t ht=>?_⟩
    by_cases hc:A t∨t∈a0f os
    · exact e4 t hc
    · rw [not_or] at hc
      have ht:t∈a4z o:=by
       rcases ht with ht | ht
       · exact absurd ht hc.1
       · exact (a7h.1 ht).resolve_right hc.2
      rw [a6p ((a8N ops os _ _ _ _ hz).2 t hc.2),a6p ((a8N ops os _ _ _ _ e1).2 t hc.2)]
      exact hput t (Or.inr ht)
   rw [a6z] at h
   rw [a6z, ← c2, ← c1]
   cases hw:a3c ops fr o with
   | true=>
     rw [hw] at h
     simp only [if_true] at h ⊢
     obtain ⟨x,s1,h1,h2⟩:=O7 h
     obtain ⟨z,s2,h3,h4⟩:=O7 h2
     obtain ⟨rfl,rfl⟩:=J8 h4
     obtain ⟨fr',e1,e2⟩:=key _ _ _ z h3
     exact ⟨fr',a3a h1 (a3a e1 rfl),e2⟩
   | false=>
     rw [hw] at h
     simp only [Bool.false_eq_true,if_false] at h ⊢
     obtain ⟨z,s2,h3,h4⟩:=O7 h
     obtain ⟨rfl,rfl⟩:=J8 h4
     obtain ⟨fr',e1,e2⟩:=key _ _ _ z h3
     exact ⟨fr',a3a e1 rfl,e2⟩
theorem b3G (n:Nat):(a3Y n).length=n:=by
 induction n with
 | zero=>rfl
 | succ n ih=>show (a3Y n).length+1=_; rw [ih]
theorem c2w {β:Type} (ops:List Oper) (draw:Bool) (fr:List Value) (k k':Xc→List Value→M β) (hk:∀ x fr,Le (k x fr) (k' x fr)) :
 Le (c0T p T H8 pn call ops draw fr k) (M.bind (b2v p T call ops draw fr) fun r=>k' r.1 r.2):=by
 cases draw with
 | false=>
   obtain ⟨h1,h2⟩:=b9Q ops
   have:=c4P (p:=p) (T:=T) (call:=call) (pn:=pn) (β:=β) ops (a9j ops) h2 fr k k' hk
   rw [h1] at this
   exact this
 | true=>
   intro s r h
   have h:M.bind (b3z p T call ops (L9 fr) (a6u (a6d ops ops)) (a2s fr (a6u (a6d ops ops))) (a0f ops)) (fun x=>k .normal (a1I (a0f ops) x.2 fr)) s=some r:=h
   obtain ⟨x,s1,h1,h2⟩:=O7 (s2:=r.2) (b:=r.1) h
   unfold b3z at h1
   obtain ⟨y,s2,h3,h4⟩:=O7 h1
   obtain ⟨h5,h6⟩:=U1 h4
   obtain ⟨rfl,rfl⟩:=J8 h6
   have hlen:(a1I (a6u (a6d ops ops)) (a2s fr (a6u (a6d ops ops))) (a3Y (L9 fr))).length=fr.length:=by
    rw [b5R,b3G,Z5]
   obtain ⟨fr',e1,e2⟩:=c1v (p:=p) (T:=T) ops (fun t=>t∈a6u (a6d ops ops)) ops (fun o ho t ht=>c3V (b8m ho ht)) _ fr hlen (fun t ht=>by
    apply a6p
    rw [b4a _ _ _ (by rw [b3G,Z5]),if_pos ht]) s y s1 h3
   show M.bind (M.bind (a4e p T (a1M call) ops ops fr) fun y=>M.guard (a0A ops (a1Y ops y.2) [] [] 0) <| M.pure (Xc.normal,y.1)) (fun r=>k' r.1 r.2) s=some r
   refine a3a (a:=(Xc.normal,fr')) (s1:=s1) (a3a e1 ?_) ?_
   · show M.guard (a0A ops (a1Y ops y.2) [] [] 0) (M.pure (Xc.normal,fr')) s1=_
     rw [h5]; rfl
   · have e3:a1I (a0f ops) (a2s y.1 (a0f ops)) fr=fr':=by
      have e4:a2s y.1 (a0f ops)=a2s fr' (a0f ops):=by
       rw [b5c,b5c]
       exact List.map_congr_left fun t ht=>e2 t (Or.inr ht)
      obtain ⟨f1,f2⟩:=a8N ops ops fr s s1 _ e1
      rw [e4]
      exact a4W f1 f2
     have h2:k .normal (a1I (a0f ops) (a2s y.1 (a0f ops)) fr) s1=some r:=h2
     rw [e3] at h2
     exact hk _ _ _ _ h2
theorem b5J (ops:List Oper) (draw:Bool) (fr:List Value) (s s':S) (x:Xc×List Value) (h:b2v p T call ops draw fr s=some (x,s')):x.2.length=fr.length∧∀ t,t ∉ a0f ops→x.2[t]?=fr[t]?:=by
 cases draw with
 | false=>exact b3q ops ops fr s s' x h
 | true=>
   have h:M.bind (a4e p T (a1M call) ops ops fr) (fun y=>M.guard (a0A ops (a1Y ops y.2) [] [] 0) <| M.pure (Xc.normal,y.1)) s=some (x,s'):=h
   obtain ⟨y,s2,h3,h4⟩:=O7 h
   obtain ⟨_,h6⟩:=U1 h4
   obtain ⟨rfl,rfl⟩:=J8 h6
   exact a8N ops ops fr s _ y h3
theorem b5B {β:Type} {v:Value} {x y:M β} {s:S} {r:β×S} (h:K5 v x y s=some r):(v=.bool true∧x s=some r)∨(v=.bool false∧y s=some r):=by
 cases v with
 | bool b=>cases b with
   | true=>exact Or.inl ⟨rfl,h⟩
   | false=>exact Or.inr ⟨rfl,h⟩
 | _=>cases h
theorem a4M {σ:Type} (body:σ→M (Xc×σ)) (n:Nat) (x:σ):a2S body (n+1) x=M.bind (body x) fun r=>O4 r.1 (a2S body n r.2) (fun id=>M.pure (.exit id,r.2)) (M.pure (.ret,r.2)) (fun v=>M.pure (.pan v,r.2)):=rfl
theorem b2L (N:Nat):∀ (c:Code) (fr:List Value) (s s':S) (x:Xc×List Value),a2A p T N call c fr s=some (x,s')→x.2.length=fr.length∧∀ t,t ∉ a3Z c→x.2[t]?=fr[t]?:=by
 intro c
 induction c with
 | skip=>intro fr s s' x h; obtain ⟨rfl,rfl⟩:=J8 h; exact ⟨rfl,fun _ _=>rfl⟩
 | region id ops draw=>intro fr s s' x h; exact b5J _ _ _ _ _ _ h
 | seq a b iha ihb=>
   intro fr s s' x h
   have h:M.bind (a2A p T N call a fr) (fun r=>O4 r.1 (a2A p T N call b r.2) (fun id=>M.pure (.exit id,r.2)) (M.pure (.ret,r.2)) (fun v=>M.pure (.pan v,r.2))) s=some (x,s'):=h
   obtain ⟨r,s1,h1,h2⟩:=O7 h
   obtain ⟨f1,f2⟩:=iha _ _ _ _ h1
   have hw:∀ t,t ∉ a3Z (.seq a b)→t ∉ a3Z a∧t ∉ a3Z b:=fun t ht=>by
    have ht:t ∉ M4 (a3Z a) (a3Z b):=ht
    rw [N9,List.mem_append,not_or] at ht; exact ht
   obtain ⟨rx,rf⟩:=r
   cases rx with
   | normal=>
     obtain ⟨g1,g2⟩:=ihb _ _ _ _ h2
     exact ⟨g1.trans f1,fun t ht=>(g2 t (hw t ht).2).trans (f2 t (hw t ht).1)⟩
   | _=>obtain ⟨rfl,rfl⟩:=J8 h2; exact ⟨f1,fun t ht=>f2 t (hw t ht).1⟩
 | cond o a b iha ihb=>
   intro fr s s' x h
   have hw:∀ t,t ∉ a3Z (.cond o a b)→t ∉ a3Z a∧t ∉ a3Z b:=fun t ht=>by
    have ht:t ∉ M4 (a3Z a) (a3Z b):=ht
    rw [N9,List.mem_append,not_or] at ht; exact ht
   obtain ⟨v,_,h1⟩:=U2 h
   rcases b5B h1 with ⟨_,h2⟩ | ⟨_,h2⟩
   · obtain ⟨f1,f2⟩:=iha _ _ _ _ h2; exact ⟨f1,fun t ht=>f2 t (hw t ht).1⟩
   · obtain ⟨f1,f2⟩:=ihb _ _ _ _ h2; exact ⟨f1,fun t ht=>f2 t (hw t ht).2⟩
 | block id b ih=>
   intro fr s s' x h
   obtain ⟨r,s1,h1,h2⟩:=O7 h
   obtain ⟨rfl,rfl⟩:=J8 h2
   exact ih _ _ _ r h1
 | loop b ih=>
   intro fr s s' x h
   have h:a2S (a2A p T N call b) N fr s=some (x,s'):=h
   have key:∀ n fr s,a2S (a2A p T N call b) n fr s=some (x,s')→x.2.length=fr.length∧∀ t,t ∉ a3Z b→x.2[t]?=fr[t]?:=by
    intro n
    induction n with
    | zero=>intro fr s h; cases h
    | succ n ihn=>
      intro fr s h
      rw [a4M] at h
      obtain ⟨r,s1,h1,h2⟩:=O7 h
      obtain ⟨f1,f2⟩:=ih _ _ _ _ h1
      obtain ⟨rx,rf⟩:=r
      cases rx with
      | normal=>
        obtain ⟨g1,g2⟩:=ihn _ _ h2
        exact ⟨g1.trans f1,fun t ht=>(g2 t ht).trans (f2 t ht)⟩
      | _=>obtain ⟨rfl,rfl⟩:=J8 h2; exact ⟨f1,f2⟩
   exact key N fr s h
 | exit id=>intro fr s s' x h; obtain ⟨rfl,rfl⟩:=J8 h; exact ⟨rfl,fun _ _=>rfl⟩
 | ret=>intro fr s s' x h; obtain ⟨rfl,rfl⟩:=J8 h; exact ⟨rfl,fun _ _=>rfl⟩
 | _=>intro fr s s' x h; cases h
theorem b5d {l m:List Nat} (h:c5l l m=true) {t:Nat} (ht:t ∉ m):t ∉ l:=fun q=>ht ((a7X _ _).1 ((a0y _ _).1 h t q))
theorem c1B {β:Type} {E:List Nat} {id:Nat} {k k':Xc→M β} (h:∀ x,Le (k x) (k' x)):Le (b4P E id k) (k' (.exit id)):=by
 induction E with
 | nil=>exact Le.fail _
 | cons e E ih=>
   show Le (bcase (Nat.beq id e) (k (.exit e)) (b4P E id k)) _
   cases hb:Nat.beq id e with
   | true=>rw [Nat.eq_of_beq_eq_true hb]; exact h _
   | false=>exact ih
theorem b8K {β:Type} {E:List Nat} {n r:Bool} {ex:Xc} {k k':Xc→M β} (h:∀ x,Le (k x) (k' x)):Le (b2j pn E n r ex k) (k' ex):=by
 unfold b2j
 cases ex with
 | normal=>exact a7z (h _)
 | exit id=>exact c1B h
 | ret=>exact a7z (h _)
 | pan v=>exact a7z (h _)
theorem c4X (N:Nat):∀ (c:Code) (pl:Pl) (β:Type) (fr:List Value) (k k':Xc→List Value→M β),(∀ x fr,Le (k x fr) (k' x fr)) →
 Le (a5b p T H8 pn N call c pl β fr k) (M.bind (a2A p T N call c fr) fun r=>k' r.1 r.2):=by
 intro c
 induction c with
 | skip=>intro pl β fr k k' hk; exact hk _ _
 | region id ops draw=>intro pl β fr k k' hk; exact c2w _ _ _ _ _ hk
 | seq a b iha ihb=>
   intro pl β fr k k' hk
   have hb:∀ fr,Le (a5b p T H8 pn N call b pl.b β fr k) (M.bind (a2A p T N call b fr) fun r=>k' r.1 r.2):=fun fr=>ihb pl.b β fr k k' hk
   show Le _ (M.bind (M.bind (a2A p T N call a fr) fun r=>O4 r.1 (a2A p T N call b r.2) (fun id=>M.pure (.exit id,r.2)) (M.pure (.ret,r.2)) (fun v=>M.pure (.pan v,r.2))) fun r=>k' r.1 r.2)
   rw [a3T]
   unfold a5b
   cases hj:pl.j with
   | none=>
     refine Le.trans (iha pl.a β fr _ (fun ex fr'=>O4 ex (M.bind (a2A p T N call b fr') fun r=>k' r.1 r.2) (fun id=>k' (.exit id) fr') (k' .ret fr') (fun v=>k' (.pan v) fr')) (fun x fr'=>?_)) ?_
     · exact a7m (fun _=>hb fr') (fun i _=>hk _ _) (fun _=>hk _ _) (fun v _=>hk _ _)
     · refine Le.bind (Le.refl _) fun r=>?_
       rw [a8M]
       exact a7m (fun _=>Le.refl _) (fun _ _=>Le.refl _) (fun _=>Le.refl _) (fun v _=>Le.refl _)
   | some W=>
     refine Le.guard fun hW=>?_
     intro s r h
     have h:M.bind (a5b p T H8 pn N call a pl.a (Xc×List Value) fr fun ex fr'=>M.pure (ex,a2s fr' W)) (fun x=>b2j pn (a6u (a6l a)) true (hasRet a) x.1 fun y=>O4 y (a5b p T H8 pn N call b pl.b β (a1I W x.2 fr) k) (fun id=>k (.exit id) (a1I W x.2 fr)) (k .ret (a1I W x.2 fr)) (fun v=>k (.pan v) (a1I W x.2 fr))) s=some r:=h
     obtain ⟨x,s1,h1,h2⟩:=O7 (s2:=r.2) (b:=r.1) h
     have h3:=iha pl.a (Xc×List Value) fr (fun ex fr'=>M.pure (ex,a2s fr' W)) (fun ex fr'=>M.pure (ex,a2s fr' W)) (fun _ _=>Le.refl _) s _ h1
     obtain ⟨y,s2,f1,f2⟩:=O7 h3
     obtain ⟨rfl,rfl⟩:=J8 f2
     obtain ⟨g1,g2⟩:=b2L N a fr s _ y f1
     refine a3a f1 ?_
     simp only [] at h2
     rw [a4W g1 (fun t ht=>g2 t (b5d hW ht))] at h2
     rw [a8M]
     exact b8K (k':=fun z=>O4 z (M.bind (a2A p T N call b y.2) fun r=>k' r.1 r.2) (fun id=>k' (.exit id) y.2) (k' .ret y.2) (fun v=>k' (.pan v) y.2)) (fun x=>a7m (fun _=>hb _) (fun _ _=>hk _ _) (fun _=>hk _ _) (fun v _=>hk _ _)) _ _ h2
 | cond o a b iha ihb=>
   intro pl β fr k k' hk
   show Le (M.obind (a2o T fr o) fun v=>K5 v (a5b p T H8 pn N call a pl.a β fr k) (a5b p T H8 pn N call b pl.b β fr k)) (M.bind (M.obind (a2o T fr o) fun v=>K5 v (a2A p T N call a fr) (a2A p T N call b fr)) fun r=>k' r.1 r.2)
   refine Le.obind_bind fun v _=>?_
   cases v with
   | bool t=>cases t with
     | true=>exact iha pl.a β fr k k' hk
     | false=>exact ihb pl.b β fr k k' hk
   | _=>exact Le.fail _
 | block id b ih=>
   intro pl β fr k k' hk
   show Le (a5b p T H8 pn N call b pl.a β fr fun ex fr'=>k (a6f id ex) fr') (M.bind (M.bind (a2A p T N call b fr) fun r=>M.pure (a6f id r.1,r.2)) fun r=>k' r.1 r.2)
   rw [a3T]
   exact ih pl.a β fr _ (fun ex fr'=>k' (a6f id ex) fr') (fun x fr=>hk _ _)
 | loop b ih=>
   intro pl β fr k k' hk
   refine Le.guard fun hW=>?_
   intro s r h
   have h:M.bind (a2S (fun xs=>a5b p T H8 pn N call b pl.a (Xc×List Value) (a1I pl.w xs fr) fun ex fr'=>M.pure (ex,a2s fr' pl.w)) N (a2s fr pl.w)) (fun x=>b2j pn (a6u (a6l b)) false (hasRet b) x.1 fun y=>k y (a1I pl.w x.2 fr)) s=some r:=h
   obtain ⟨x,s1,h1,h2⟩:=O7 (s2:=r.2) (b:=r.1) h
   have key:∀ n (fr0:List Value) (s s1:S) (x:Xc×List Value),fr0.length=fr.length→(∀ t,t ∉ pl.w→fr0[t]?=fr[t]?) →
    a2S (fun xs=>a5b p T H8 pn N call b pl.a (Xc×List Value) (a1I pl.w xs fr) fun ex fr'=>M.pure (ex,a2s fr' pl.w)) n (a2s fr0 pl.w) s=some (x,s1) →
    ∃ fr1,a2S (a2A p T N call b) n fr0 s=some ((x.1,fr1),s1)∧a1I pl.w x.2 fr=fr1:=by
    intro n
    induction n with
    | zero=>intro fr0 s s1 x _ _ h; cases h
    | succ n ihn=>
      intro fr0 s s1 x hl hA h
      rw [a4M] at h
      obtain ⟨y,s2,e1,e2⟩:=O7 h
      have e3:=ih pl.a (Xc×List Value) (a1I pl.w (a2s fr0 pl.w) fr) (fun ex fr'=>M.pure (ex,a2s fr' pl.w)) (fun ex fr'=>M.pure (ex,a2s fr' pl.w)) (fun _ _=>Le.refl _) s _ e1
      rw [a4W hl hA] at e3
      obtain ⟨z,s3,f1,f2⟩:=O7 e3
      obtain ⟨rfl,rfl⟩:=J8 f2
      obtain ⟨g1,g2⟩:=b2L N b fr0 s _ z f1
      have hz1:z.2.length=fr.length:=g1.trans hl
      have hz2:∀ t,t ∉ pl.w→z.2[t]?=fr[t]?:=fun t ht=>(g2 t (b5d hW ht)).trans (hA t ht)
      obtain ⟨zx,zf⟩:=z
      cases zx with
      | normal=>
        obtain ⟨fr1,q1,q2⟩:=ihn zf _ _ x hz1 hz2 e2
        exact ⟨fr1,by rw [a4M]; exact a3a f1 q1,q2⟩
      | exit i=>
        obtain ⟨rfl,rfl⟩:=J8 e2
        exact ⟨zf,by rw [a4M]; exact a3a f1 rfl,a4W hz1 hz2⟩
      | ret=>
        obtain ⟨rfl,rfl⟩:=J8 e2
        exact ⟨zf,by rw [a4M]; exact a3a f1 rfl,a4W hz1 hz2⟩
      | pan v=>
        obtain ⟨rfl,rfl⟩:=J8 e2
        exact ⟨zf,by rw [a4M]; exact a3a f1 rfl,a4W hz1 hz2⟩
   obtain ⟨fr1,q1,q2⟩:=key N fr s s1 x rfl (fun _ _=>rfl) h1
   have h2:=b8K (k':=fun y=>k' y (a1I pl.w x.2 fr)) (fun y=>hk y _) _ _ h2
   rw [q2] at h2
   exact a3a (a:=(x.1,fr1)) q1 h2
 | exit id=>intro pl β fr k k' hk; exact hk _ _
 | ret=>intro pl β fr k k' hk; exact hk _ _
 | _=>intro pl β fr k k' hk; exact Le.fail _
end
end Go.V
end
