import Derived.Test.YtmomonnlmbljoaaGreatDoorRal
section
noncomputable section
namespace Go.V
section
variable {p:Program} {T:Tab} {call:j4} {pn:Bool}
theorem b7C {ops os:List Oper} {o:Oper} (h:o∈os) {t:Nat} (ht:t∈Q7 ops o):t∈Y2 ops os:=by
 induction os with
 | nil=>cases h
 | cons x os ih=>
   show t∈G7 (Q7 ops x) (Y2 ops os)
   rw [I5,List.mem_append]
   simp only [List.mem_cons] at h
   rcases h with rfl | h
   · exact Or.inl ht
   · exact Or.inr (ih h)
theorem d0V {l:List Nat} {t:Nat} (h:t∈l):t∈Z4 l:=by
 induction l with
 | nil=>cases h
 | cons i l ih=>
   show t∈b7l i (Z4 l)
   unfold b7l
   simp only [List.mem_cons] at h
   cases hm:a0j i (Z4 l) with
   | true=>
     rcases h with rfl | h
     · exact (a1c _ _).1 hm
     · exact ih h
   | false=>
     rcases h with rfl | h
     · exact List.mem_cons_self
     · exact List.mem_cons_of_mem _ (ih h)
theorem a1z {c:Nat→List Value→M Value} (ops:List Oper):∀ (os:List Oper) (fr:List Value) (s s':S) (z:List Value×List (List Nat×List Nat)),O4 p T c ops os fr s=some (z,s')→z.1.length=fr.length∧∀ t,t ∉ E5 os→z.1[t]?=fr[t]?:=by
 intro os
 induction os with
 | nil=>intro fr s s' z h; obtain ⟨rfl,rfl⟩:=o9 h; exact ⟨rfl,fun _ _=>rfl⟩
 | cons o os ih=>
   intro fr s s' z h
   have key:∀ (v:Value) (s1 s2:S) (y:List Value×List (List Nat×List Nat)),O4 p T c ops os (G5 fr o v) s1=some (y,s2)→y.1.length=fr.length∧∀ t,t ∉ E5 (o::os)→y.1[t]?=fr[t]?:=by
    intro v s1 s2 y hy
    obtain ⟨h1,h2⟩:=ih _ _ _ _ hy
    refine ⟨by rw [h1,U9],fun t ht=>?_⟩
    rw [a0w,not_or] at ht
    rw [h2 t ht.2,P9,if_neg (fun q=>ht.1 q.1)]
   rw [a0a] at h
   split at h
   · obtain ⟨x,s1,_,h2⟩:=w9 h
     obtain ⟨y,s2,h3,h4⟩:=w9 h2
     obtain ⟨rfl,rfl⟩:=o9 h4
     exact key _ _ _ y h3
   · obtain ⟨y,s2,h3,h4⟩:=w9 h
     obtain ⟨rfl,rfl⟩:=o9 h4
     exact key _ _ _ y h3
theorem c2f {c:Nat→List Value→M Value} (ops:List Oper) (A:Nat→Prop):∀ (os:List Oper),(∀ o∈os, ∀ t∈Q7 ops o,A t)→∀ (fr fr2:List Value),fr.length=fr2.length→(∀ t,A t→d9 fr t=d9 fr2 t) →
 ∀ s y s',O4 p T c ops os fr s=some (y,s')→∃ fr',O4 p T c ops os fr2 s=some ((fr',y.2),s')∧∀ t,A t∨t∈E5 os→d9 y.1 t=d9 fr' t:=by
 intro os
 induction os with
 | nil=>
   intro _ fr fr2 hl hA s y s' h
   obtain ⟨rfl,rfl⟩:=o9 h
   exact ⟨fr2,rfl,fun t ht=>ht.elim (hA t) (fun q=>by cases q)⟩
 | cons o os ih=>
   intro ho fr fr2 hl hA s y s' h
   obtain ⟨c1,c2⟩:=a4m (P:=p) (T:=T) (call:=c) (ops:=ops) (o:=o) (fr:=fr) (fr2:=fr2) (fun t ht=>hA t (ho o List.mem_cons_self t ht))
   have key:∀ (v:Value) (s1 s2:S) (z:List Value×List (List Nat×List Nat)),O4 p T c ops os (G5 fr o v) s1=some (z,s2)→∃ fr',O4 p T c ops os (G5 fr2 o v) s1=some ((fr',z.2),s2) ∧
    ∀ t,A t∨t∈E5 (o::os)→d9 z.1 t=d9 fr' t:=by
    intro v s1 s2 z hz
    have hput:∀ t,A t∨t∈O9 o→d9 (G5 fr o v) t=d9 (G5 fr2 o v) t:=by
     intro t ht
     rw [U0,U0,P9,P9,hl]
     by_cases hc:t∈O9 o∧t<fr2.length
     · rw [if_pos hc,if_pos hc]
     · rw [if_neg hc,if_neg hc]
       rcases ht with ht | ht
       · have:=hA t ht; rw [U0,U0] at this; exact this
       · have:¬ t<fr2.length:=fun q=>hc ⟨ht,q⟩
         rw [List.getElem?_eq_none (by omega),List.getElem?_eq_none (by omega)]
    obtain ⟨fr',e1,e4⟩:=ih (fun x hx=>ho x (List.mem_cons_of_mem _ hx)) (G5 fr o v) (G5 fr2 o v) (by rw [U9,U9,hl]) (fun t ht=>hput t (Or.inl ht)) s1 z s2 hz
    refine ⟨fr',e1,fun t ht=>?_⟩
    by_cases hc:A t∨t∈E5 os
    · exact e4 t hc
    · rw [not_or] at hc
      have ht:t∈O9 o:=by
       rcases ht with ht | ht
       · exact absurd ht hc.1
       · exact (a0w.1 ht).resolve_right hc.2
      rw [Y8 ((a1z ops os _ _ _ _ hz).2 t hc.2),Y8 ((a1z ops os _ _ _ _ e1).2 t hc.2)]
      exact hput t (Or.inr ht)
   rw [a0a] at h
   rw [a0a, ← c2, ← c1]
   cases hw:M6 ops fr o with
   | true=>
     rw [hw] at h
     simp only [if_true] at h ⊢
     obtain ⟨x,s1,h1,h2⟩:=w9 h
     obtain ⟨z,s2,h3,h4⟩:=w9 h2
     obtain ⟨rfl,rfl⟩:=o9 h4
     obtain ⟨fr',e1,e2⟩:=key _ _ _ z h3
     exact ⟨fr',M5 h1 (M5 e1 rfl),e2⟩
   | false=>
     rw [hw] at h
     simp only [Bool.false_eq_true,if_false] at h ⊢
     obtain ⟨z,s2,h3,h4⟩:=w9 h
     obtain ⟨rfl,rfl⟩:=o9 h4
     obtain ⟨fr',e1,e2⟩:=key _ _ _ z h3
     exact ⟨fr',M5 e1 rfl,e2⟩
theorem a5S (n:Nat):(O1 n).length=n:=by
 induction n with
 | zero=>rfl
 | succ n ih=>show (O1 n).length+1=_; rw [ih]
theorem c3j {β:Type} (ops:List Oper) (draw:Bool) (fr:List Value) (k k':Xc→List Value→M β) (hk:∀ x fr,Le (k x fr) (k' x fr)) :
 Le (c0d p T D8 pn call ops draw fr k) (M.bind (a3U p T call ops draw fr) fun r=>k' r.1 r.2):=by
 cases draw with
 | false=>
   obtain ⟨h1,h2⟩:=b9K ops
   have:=d3o (p:=p) (T:=T) (call:=call) (pn:=pn) (β:=β) ops (a1L ops) h2 fr k k' hk
   rw [h1] at this
   exact this
 | true=>
   intro s r h
   have h:M.bind (a5M p T call ops (F4 fr) (Z4 (Y2 ops ops)) (J9 fr (Z4 (Y2 ops ops))) (E5 ops)) (fun x=>k .normal (I6 (E5 ops) x.2 fr)) s=some r:=h
   obtain ⟨x,s1,h1,h2⟩:=w9 (s2:=r.2) (b:=r.1) h
   unfold a5M at h1
   obtain ⟨y,s2,h3,h4⟩:=w9 h1
   obtain ⟨h5,h6⟩:=A8 h4
   obtain ⟨rfl,rfl⟩:=o9 h6
   have hlen:(I6 (Z4 (Y2 ops ops)) (J9 fr (Z4 (Y2 ops ops))) (O1 (F4 fr))).length=fr.length:=by
    rw [b0O,a5S,J2]
   obtain ⟨fr',e1,e2⟩:=c2f (p:=p) (T:=T) ops (fun t=>t∈Z4 (Y2 ops ops)) ops (fun o ho t ht=>d0V (b7C ho ht)) _ fr hlen (fun t ht=>by
    apply Y8
    rw [a5L _ _ _ (by rw [a5S,J2]),if_pos ht]) s y s1 h3
   show M.bind (M.bind (O4 p T (D7 call) ops ops fr) fun y=>M.guard (E9 ops (H9 ops y.2) [] [] 0) <| M.pure (Xc.normal,y.1)) (fun r=>k' r.1 r.2) s=some r
   refine M5 (a:=(Xc.normal,fr')) (s1:=s1) (M5 e1 ?_) ?_
   · show M.guard (E9 ops (H9 ops y.2) [] [] 0) (M.pure (Xc.normal,fr')) s1=_
     rw [h5]; rfl
   · have e3:I6 (E5 ops) (J9 y.1 (E5 ops)) fr=fr':=by
      have e4:J9 y.1 (E5 ops)=J9 fr' (E5 ops):=by
       rw [b0x,b0x]
       exact List.map_congr_left fun t ht=>e2 t (Or.inr ht)
      obtain ⟨f1,f2⟩:=a1z ops ops fr s s1 _ e1
      rw [e4]
      exact R4 f1 f2
     have h2:k .normal (I6 (E5 ops) (J9 y.1 (E5 ops)) fr) s1=some r:=h2
     rw [e3] at h2
     exact hk _ _ _ _ h2
theorem b0J (ops:List Oper) (draw:Bool) (fr:List Value) (s s':S) (x:Xc×List Value) (h:a3U p T call ops draw fr s=some (x,s')):x.2.length=fr.length∧∀ t,t ∉ E5 ops→x.2[t]?=fr[t]?:=by
 cases draw with
 | false=>exact a5x ops ops fr s s' x h
 | true=>
   have h:M.bind (O4 p T (D7 call) ops ops fr) (fun y=>M.guard (E9 ops (H9 ops y.2) [] [] 0) <| M.pure (Xc.normal,y.1)) s=some (x,s'):=h
   obtain ⟨y,s2,h3,h4⟩:=w9 h
   obtain ⟨_,h6⟩:=A8 h4
   obtain ⟨rfl,rfl⟩:=o9 h6
   exact a1z ops ops fr s _ y h3
theorem b0B {β:Type} {v:Value} {x y:M β} {s:S} {r:β×S} (h:j6 v x y s=some r):(v=.bool true∧x s=some r)∨(v=.bool false∧y s=some r):=by
 cases v with
 | bool b=>cases b with
   | true=>exact Or.inl ⟨rfl,h⟩
   | false=>exact Or.inr ⟨rfl,h⟩
 | _=>cases h
theorem Q0 {σ:Type} (body:σ→M (Xc×σ)) (n:Nat) (x:σ):U4 body (n+1) x=M.bind (body x) fun r=>l7 r.1 (U4 body n r.2) (fun id=>M.pure (.exit id,r.2)) (M.pure (.ret,r.2)) (fun v=>M.pure (.pan v,r.2)):=rfl
theorem a4o (N:Nat):∀ (c:Code) (fr:List Value) (s s':S) (x:Xc×List Value),K6 p T N call c fr s=some (x,s')→x.2.length=fr.length∧∀ t,t ∉ N9 c→x.2[t]?=fr[t]?:=by
 intro c
 induction c with
 | skip=>intro fr s s' x h; obtain ⟨rfl,rfl⟩:=o9 h; exact ⟨rfl,fun _ _=>rfl⟩
 | region id ops draw=>intro fr s s' x h; exact b0J _ _ _ _ _ _ h
 | seq a b iha ihb=>
   intro fr s s' x h
   have h:M.bind (K6 p T N call a fr) (fun r=>l7 r.1 (K6 p T N call b r.2) (fun id=>M.pure (.exit id,r.2)) (M.pure (.ret,r.2)) (fun v=>M.pure (.pan v,r.2))) s=some (x,s'):=h
   obtain ⟨r,s1,h1,h2⟩:=w9 h
   obtain ⟨f1,f2⟩:=iha _ _ _ _ h1
   have hw:∀ t,t ∉ N9 (.seq a b)→t ∉ N9 a∧t ∉ N9 b:=fun t ht=>by
    have ht:t ∉ G7 (N9 a) (N9 b):=ht
    rw [I5,List.mem_append,not_or] at ht; exact ht
   obtain ⟨rx,rf⟩:=r
   cases rx with
   | normal=>
     obtain ⟨g1,g2⟩:=ihb _ _ _ _ h2
     exact ⟨g1.trans f1,fun t ht=>(g2 t (hw t ht).2).trans (f2 t (hw t ht).1)⟩
   | _=>obtain ⟨rfl,rfl⟩:=o9 h2; exact ⟨f1,fun t ht=>f2 t (hw t ht).1⟩
 | cond o a b iha ihb=>
   intro fr s s' x h
   have hw:∀ t,t ∉ N9 (.cond o a b)→t ∉ N9 a∧t ∉ N9 b:=fun t ht=>by
    have ht:t ∉ G7 (N9 a) (N9 b):=ht
    rw [I5,List.mem_append,not_or] at ht; exact ht
   obtain ⟨v,_,h1⟩:=C9 h
   rcases b0B h1 with ⟨_,h2⟩ | ⟨_,h2⟩
   · obtain ⟨f1,f2⟩:=iha _ _ _ _ h2; exact ⟨f1,fun t ht=>f2 t (hw t ht).1⟩
   · obtain ⟨f1,f2⟩:=ihb _ _ _ _ h2; exact ⟨f1,fun t ht=>f2 t (hw t ht).2⟩
 | block id b ih=>
   intro fr s s' x h
   obtain ⟨r,s1,h1,h2⟩:=w9 h
   obtain ⟨rfl,rfl⟩:=o9 h2
   exact ih _ _ _ r h1
 | loop b ih=>
   intro fr s s' x h
   have h:U4 (K6 p T N call b) N fr s=some (x,s'):=h
   have key:∀ n fr s,U4 (K6 p T N call b) n fr s=some (x,s')→x.2.length=fr.length∧∀ t,t ∉ N9 b→x.2[t]?=fr[t]?:=by
    intro n
    induction n with
    | zero=>intro fr s h; cases h
    | succ n ihn=>
      intro fr s h
      rw [Q0] at h
      obtain ⟨r,s1,h1,h2⟩:=w9 h
      obtain ⟨f1,f2⟩:=ih _ _ _ _ h1
      obtain ⟨rx,rf⟩:=r
      cases rx with
      | normal=>
        obtain ⟨g1,g2⟩:=ihn _ _ h2
        exact ⟨g1.trans f1,fun t ht=>(g2 t ht).trans (f2 t ht)⟩
      | _=>obtain ⟨rfl,rfl⟩:=o9 h2; exact ⟨f1,f2⟩
   exact key N fr s h
 | exit id=>intro fr s s' x h; obtain ⟨rfl,rfl⟩:=o9 h; exact ⟨rfl,fun _ _=>rfl⟩
 | ret=>intro fr s s' x h; obtain ⟨rfl,rfl⟩:=o9 h; exact ⟨rfl,fun _ _=>rfl⟩
 | _=>intro fr s s' x h; cases h
theorem b0D {l m:List Nat} (h:d2Y l m=true) {t:Nat} (ht:t ∉ m):t ∉ l:=fun q=>ht ((a1c _ _).1 ((K9 _ _).1 h t q))
theorem c4P {β:Type} {E:List Nat} {id:Nat} {k k':Xc→M β} (h:∀ x,Le (k x) (k' x)):Le (a6w E id k) (k' (.exit id)):=by
 induction E with
 | nil=>exact Le.fail _
 | cons e E ih=>
   show Le (l8 (Nat.beq id e) (k (.exit e)) (a6w E id k)) _
   cases hb:Nat.beq id e with
   | true=>rw [Nat.eq_of_beq_eq_true hb]; exact h _
   | false=>exact ih
theorem b6O {β:Type} {E:List Nat} {n r:Bool} {ex:Xc} {k k':Xc→M β} (h:∀ x,Le (k x) (k' x)):Le (a3X pn E n r ex k) (k' ex):=by
 unfold a3X
 cases ex with
 | normal=>exact a0N (h _)
 | exit id=>exact c4P h
 | ret=>exact a0N (h _)
 | pan v=>exact a0N (h _)
theorem d4x (N:Nat):∀ (c:Code) (pl:Pl) (β:Type) (fr:List Value) (k k':Xc→List Value→M β),(∀ x fr,Le (k x fr) (k' x fr)) →
 Le (R7 p T D8 pn N call c pl β fr k) (M.bind (K6 p T N call c fr) fun r=>k' r.1 r.2):=by
 intro c
 induction c with
 | skip=>intro pl β fr k k' hk; exact hk _ _
 | region id ops draw=>intro pl β fr k k' hk; exact c3j _ _ _ _ _ hk
 | seq a b iha ihb=>
   intro pl β fr k k' hk
   have hb:∀ fr,Le (R7 p T D8 pn N call b pl.b β fr k) (M.bind (K6 p T N call b fr) fun r=>k' r.1 r.2):=fun fr=>ihb pl.b β fr k k' hk
   show Le _ (M.bind (M.bind (K6 p T N call a fr) fun r=>l7 r.1 (K6 p T N call b r.2) (fun id=>M.pure (.exit id,r.2)) (M.pure (.ret,r.2)) (fun v=>M.pure (.pan v,r.2))) fun r=>k' r.1 r.2)
   rw [N8]
   unfold R7
   cases hj:pl.j with
   | none=>
     refine Le.trans (iha pl.a β fr _ (fun ex fr'=>l7 ex (M.bind (K6 p T N call b fr') fun r=>k' r.1 r.2) (fun id=>k' (.exit id) fr') (k' .ret fr') (fun v=>k' (.pan v) fr')) (fun x fr'=>?_)) ?_
     · exact a0D (fun _=>hb fr') (fun i _=>hk _ _) (fun _=>hk _ _) (fun v _=>hk _ _)
     · refine Le.bind (Le.refl _) fun r=>?_
       rw [a1x]
       exact a0D (fun _=>Le.refl _) (fun _ _=>Le.refl _) (fun _=>Le.refl _) (fun v _=>Le.refl _)
   | some W=>
     refine Le.guard fun hW=>?_
     intro s r h
     have h:M.bind (R7 p T D8 pn N call a pl.a (Xc×List Value) fr fun ex fr'=>M.pure (ex,J9 fr' W)) (fun x=>a3X pn (Z4 (Y7 a)) true (hasRet a) x.1 fun y=>l7 y (R7 p T D8 pn N call b pl.b β (I6 W x.2 fr) k) (fun id=>k (.exit id) (I6 W x.2 fr)) (k .ret (I6 W x.2 fr)) (fun v=>k (.pan v) (I6 W x.2 fr))) s=some r:=h
     obtain ⟨x,s1,h1,h2⟩:=w9 (s2:=r.2) (b:=r.1) h
     have h3:=iha pl.a (Xc×List Value) fr (fun ex fr'=>M.pure (ex,J9 fr' W)) (fun ex fr'=>M.pure (ex,J9 fr' W)) (fun _ _=>Le.refl _) s _ h1
     obtain ⟨y,s2,f1,f2⟩:=w9 h3
     obtain ⟨rfl,rfl⟩:=o9 f2
     obtain ⟨g1,g2⟩:=a4o N a fr s _ y f1
     refine M5 f1 ?_
     simp only [] at h2
     rw [R4 g1 (fun t ht=>g2 t (b0D hW ht))] at h2
     rw [a1x]
     exact b6O (k':=fun z=>l7 z (M.bind (K6 p T N call b y.2) fun r=>k' r.1 r.2) (fun id=>k' (.exit id) y.2) (k' .ret y.2) (fun v=>k' (.pan v) y.2)) (fun x=>a0D (fun _=>hb _) (fun _ _=>hk _ _) (fun _=>hk _ _) (fun v _=>hk _ _)) _ _ h2
 | cond o a b iha ihb=>
   intro pl β fr k k' hk
   show Le (M.obind (J8 T fr o) fun v=>j6 v (R7 p T D8 pn N call a pl.a β fr k) (R7 p T D8 pn N call b pl.b β fr k)) (M.bind (M.obind (J8 T fr o) fun v=>j6 v (K6 p T N call a fr) (K6 p T N call b fr)) fun r=>k' r.1 r.2)
   refine Le.obind_bind fun v _=>?_
   cases v with
   | bool t=>cases t with
     | true=>exact iha pl.a β fr k k' hk
     | false=>exact ihb pl.b β fr k k' hk
   | _=>exact Le.fail _
 | block id b ih=>
   intro pl β fr k k' hk
   show Le (R7 p T D8 pn N call b pl.a β fr fun ex fr'=>k (Y3 id ex) fr') (M.bind (M.bind (K6 p T N call b fr) fun r=>M.pure (Y3 id r.1,r.2)) fun r=>k' r.1 r.2)
   rw [N8]
   exact ih pl.a β fr _ (fun ex fr'=>k' (Y3 id ex) fr') (fun x fr=>hk _ _)
 | loop b ih=>
   intro pl β fr k k' hk
   refine Le.guard fun hW=>?_
   intro s r h
   have h:M.bind (U4 (fun xs=>R7 p T D8 pn N call b pl.a (Xc×List Value) (I6 pl.w xs fr) fun ex fr'=>M.pure (ex,J9 fr' pl.w)) N (J9 fr pl.w)) (fun x=>a3X pn (Z4 (Y7 b)) false (hasRet b) x.1 fun y=>k y (I6 pl.w x.2 fr)) s=some r:=h
   obtain ⟨x,s1,h1,h2⟩:=w9 (s2:=r.2) (b:=r.1) h
   have key:∀ n (fr0:List Value) (s s1:S) (x:Xc×List Value),fr0.length=fr.length→(∀ t,t ∉ pl.w→fr0[t]?=fr[t]?) →
    U4 (fun xs=>R7 p T D8 pn N call b pl.a (Xc×List Value) (I6 pl.w xs fr) fun ex fr'=>M.pure (ex,J9 fr' pl.w)) n (J9 fr0 pl.w) s=some (x,s1) →
    ∃ fr1,U4 (K6 p T N call b) n fr0 s=some ((x.1,fr1),s1)∧I6 pl.w x.2 fr=fr1:=by
    intro n
    induction n with
    | zero=>intro fr0 s s1 x _ _ h; cases h
    | succ n ihn=>
      intro fr0 s s1 x hl hA h
      rw [Q0] at h
      obtain ⟨y,s2,e1,e2⟩:=w9 h
      have e3:=ih pl.a (Xc×List Value) (I6 pl.w (J9 fr0 pl.w) fr) (fun ex fr'=>M.pure (ex,J9 fr' pl.w)) (fun ex fr'=>M.pure (ex,J9 fr' pl.w)) (fun _ _=>Le.refl _) s _ e1
      rw [R4 hl hA] at e3
      obtain ⟨z,s3,f1,f2⟩:=w9 e3
      obtain ⟨rfl,rfl⟩:=o9 f2
      obtain ⟨g1,g2⟩:=a4o N b fr0 s _ z f1
      have hz1:z.2.length=fr.length:=g1.trans hl
      have hz2:∀ t,t ∉ pl.w→z.2[t]?=fr[t]?:=fun t ht=>(g2 t (b0D hW ht)).trans (hA t ht)
      obtain ⟨zx,zf⟩:=z
      cases zx with
      | normal=>
        obtain ⟨fr1,q1,q2⟩:=ihn zf _ _ x hz1 hz2 e2
        exact ⟨fr1,by rw [Q0]; exact M5 f1 q1,q2⟩
      | exit i=>
        obtain ⟨rfl,rfl⟩:=o9 e2
        exact ⟨zf,by rw [Q0]; exact M5 f1 rfl,R4 hz1 hz2⟩
      | ret=>
        obtain ⟨rfl,rfl⟩:=o9 e2
        exact ⟨zf,by rw [Q0]; exact M5 f1 rfl,R4 hz1 hz2⟩
      | pan v=>
        obtain ⟨rfl,rfl⟩:=o9 e2
        exact ⟨zf,by rw [Q0]; exact M5 f1 rfl,R4 hz1 hz2⟩
   obtain ⟨fr1,q1,q2⟩:=key N fr s s1 x rfl (fun _ _=>rfl) h1
   have h2:=b6O (k':=fun y=>k' y (I6 pl.w x.2 fr)) (fun y=>hk y _) _ _ h2
   rw [q2] at h2
   exact M5 (a:=(x.1,fr1)) q1 h2
 | exit id=>intro pl β fr k k' hk; exact hk _ _
 | ret=>intro pl β fr k k' hk; exact hk _ _
 | _=>intro pl β fr k k' hk; exact Le.fail _
end
end Go.V
end
