import Derived.Test.YtmomonnlmbljoaaGreatDoorRai
section
namespace Go.V
open Go.RowKit (Below)
section
variable {P:Program} {T:Tab} {B0:Nat} {w0:Base} {w:World} {K:KM} {s s':S} {a:Act} {fr:List Value} {v:Value}
theorem a1j {β α:Type} (l:List β) (k:List β→α):fList l k=k l:=by
 induction l generalizing k with
 | nil=>rfl
 | cons x l ih=>exact ih _
theorem a3R {x:Value} {t:Bool} (r:VR K x (.bool t)):x=.bool t:=by
 generalize hv:Value.bool t=z at r
 cases r with
 | plain=>rfl
 | _=>cases hv
theorem a3u.from {s1:S} {w1:World} {K1:KM} {ds:List Deferred} {ex:Ex} {fr':List Value} {e:Exit} {a':Act} {w':World}
 (h1:Step B0 w0 K s1 w1 K1) (hc:s1.c≤s'.c) (h:a3u B0 w0 K1 s' ds ex fr' e a' w'):a3u B0 w0 K s' ds ex fr' e a' w':=by
 obtain ⟨K',st,r,d,q⟩:=h
 exact ⟨K',h1.trans st hc,r,d,q⟩
theorem b3y (hT:TabOk P T) (hM:P.follows .mixedOrders=true) {call:Nat→List Value→M Value} (hC:X8 P T B0 w0 call) (hF:∀ f vs,Fr (call f vs)) (n:Nat) :
 (∀ c fr s ex fr' s' K a w Q,a0k P T call n c fr s=some ((ex,fr'),s')→Sim B0 w0 K s.h w→K8 K s s'→VRL K a.tmps.toList fr→GK T K →
   (∀ e a' w',a3u B0 w0 K s' a.defers ex fr' e a' w'→Q e a' w')→c.wp P Q a w) ∧
 (∀ b fr s ex fr' s' K a w Q,a0k P T call n (.loop b) fr s=some ((ex,fr'),s')→Sim B0 w0 K s.h w→K8 K s s'→VRL K a.tmps.toList fr→GK T K →
   (∀ e a' w',a3u B0 w0 K s' a.defers ex fr' e a' w'→Q e a' w')→Code.rounds P b Q n a w):=by
 induction n with
 | zero=>
   constructor
   · intro c fr s ex fr' s' K a w Q h; cases h
   · intro b fr s ex fr' s' K a w Q h; cases h
 | succ n ih=>
   obtain ⟨ihA,ihB⟩:=ih
   have hFe:∀ c fr,Fr (a0k P T call n c fr):=Fr.exec P T hF n
   have hB:∀ b fr s ex fr' s' K a w Q,a0k P T call (n+1) (.loop b) fr s=some ((ex,fr'),s')→Sim B0 w0 K s.h w→K8 K s s'→VRL K a.tmps.toList fr→GK T K →
    (∀ e a' w',a3u B0 w0 K s' a.defers ex fr' e a' w'→Q e a' w')→Code.rounds P b Q (n+1) a w:=by
    intro b fr s ex fr' s' K a w Q h S F hf hg hq
    have h1:fList fr (fun fr=>M.bind (a0k P T call n b fr) fun r=>match r.1 with
     | .normal=>a0k P T call n (.loop b) r.2
     | .exit id=>M.pure (.exit id,r.2)
     | .ret=>M.pure (.ret,r.2)) s=some ((ex,fr'),s'):=h
    rw [a1j] at h1
    obtain ⟨⟨x1,fr1⟩,s1,h2,h3⟩:=w9 h1
    show b.wp P (Exit.then (Code.rounds P b Q n) Q) a w
    cases x1 with
    | normal=>
      have h3:a0k P T call n (.loop b) fr1 s1=some ((ex,fr'),s'):=h3
      have hle:=(hFe _ _).le h3
      refine ihA b fr s .normal fr1 s1 K a w _ h2 S (F.left hle) hf hg fun e a' w' L=>?_
      obtain ⟨K1,st,r1,d1,e1⟩:=L
      have e1:e=.normal:=e1
      subst e1
      show Code.rounds P b Q n a' w'
      exact ihB b fr1 s1 ex fr' s' K1 a' w' Q h3 st.sim (F.right (hFe _ _) h2) r1 (hg.mono st.le) fun e a2 w2 L=>hq e a2 w2 (a3u.from st hle (d1 ▸ L))
    | exit id=>
      have h3:M.pure (Ex.exit id,fr1) s1=some ((ex,fr'),s'):=h3
      obtain ⟨e,rfl⟩:=o9 h3
      cases e
      refine ihA b fr s _ _ _ K a w _ h2 S F hf hg fun e a' w' L=>?_
      have he:e=.exit id:=L.choose_spec.2.2.2
      subst he
      exact hq _ _ _ L
    | ret=>
      have h3:M.pure (Ex.ret,fr1) s1=some ((ex,fr'),s'):=h3
      obtain ⟨e,rfl⟩:=o9 h3
      cases e
      refine ihA b fr s _ _ _ K a w _ h2 S F hf hg fun e a' w' L=>?_
      have he:e=.ret:=L.choose_spec.2.2.2
      subst he
      exact hq _ _ _ L
   refine ⟨fun c fr s ex fr' s' K a w Q h S F hf hg hq=>?_,hB⟩
   have h0:c2M P T call (a0k P T call n) c fr s=some ((ex,fr'),s'):=h
   cases c with
   | skip=>
     have h0:M.pure (Ex.normal,fr) s=some ((ex,fr'),s'):=h0
     obtain ⟨e,rfl⟩:=o9 h0
     cases e
     exact wp_skip (hq _ _ _ ⟨K,Step.same S rfl,hf,rfl,rfl⟩)
   | region id ops draw=>
     have h0:region P T call ops.toList draw fr s=some ((ex,fr'),s'):=h0
     cases draw with
     | false=>
       have h0:M.bind (Z9 P T call ops.toList ops.toList fr) (fun fr'=>M.pure (Ex.normal,fr')) s=some ((ex,fr'),s'):=h0
       obtain ⟨fr1,s1,h1,h2⟩:=w9 h0
       obtain ⟨e,rfl⟩:=o9 h2
       cases e
       refine wp_region ?_
       rw [List.range_eq_range']
       exact c9R hT hC hF ops ops.size 0 fr _ s _ K a w (by simp) (by simpa using h1) S F hf hg fun a' w' K' st r d=>hq _ _ _ ⟨K',st,r,d,rfl⟩
     | true=>
       have h0:M.bind (O4 P T call ops.toList ops.toList fr) (fun y=>M.guard (E9 ops.toList (H9 ops.toList y.2) [] [] 0) <| M.pure (Ex.normal,y.1)) s=some ((ex,fr'),s'):=h0
       obtain ⟨⟨fr1,feet⟩,s1,h1,h2⟩:=w9 h0
       obtain ⟨hok,h3⟩:=A8 h2
       obtain ⟨e,rfl⟩:=o9 h3
       cases e
       exact a4h hT hM hC hF ops h1 hok S F hf hg fun a' w' K' st r d=>hq _ _ _ ⟨K',st,r,d,rfl⟩
   | seq x y=>
     have h0:M.bind (a0k P T call n x fr) (fun r=>match r.1 with
      | .normal=>a0k P T call n y r.2
      | .exit id=>M.pure (.exit id,r.2)
      | .ret=>M.pure (.ret,r.2)) s=some ((ex,fr'),s'):=h0
     obtain ⟨⟨x1,fr1⟩,s1,h2,h3⟩:=w9 h0
     refine wp_seq ?_
     cases x1 with
     | normal=>
       have h3:a0k P T call n y fr1 s1=some ((ex,fr'),s'):=h3
       have hle:=(hFe _ _).le h3
       refine ihA x fr s .normal fr1 s1 K a w _ h2 S (F.left hle) hf hg fun e a' w' L=>?_
       obtain ⟨K1,st,r1,d1,e1⟩:=L
       have e1:e=.normal:=e1
       subst e1
       exact ihA y fr1 s1 ex fr' s' K1 a' w' Q h3 st.sim (F.right (hFe _ _) h2) r1 (hg.mono st.le) fun e a2 w2 L=>hq e a2 w2 (a3u.from st hle (d1 ▸ L))
     | exit id=>
       have h3:M.pure (Ex.exit id,fr1) s1=some ((ex,fr'),s'):=h3
       obtain ⟨e,rfl⟩:=o9 h3
       cases e
       refine ihA x fr s _ _ _ K a w _ h2 S F hf hg fun e a' w' L=>?_
       have he:e=.exit id:=L.choose_spec.2.2.2
       subst he
       exact hq _ _ _ L
     | ret=>
       have h3:M.pure (Ex.ret,fr1) s1=some ((ex,fr'),s'):=h3
       obtain ⟨e,rfl⟩:=o9 h3
       cases e
       refine ihA x fr s _ _ _ K a w _ h2 S F hf hg fun e a' w' L=>?_
       have he:e=.ret:=L.choose_spec.2.2.2
       subst he
       exact hq _ _ _ L
   | cond x c1 c2=>
     have h0:M.obind (J8 T fr x) (fun v=>match v with
      | .bool t=>match t with
        | true=>a0k P T call n c1 fr
        | false=>a0k P T call n c2 fr
      | _=>M.fail) s=some ((ex,fr'),s'):=h0
     obtain ⟨u,e1,h1⟩:=C9 h0
     have r:=F5 hf hg e1
     cases u with
     | bool t=>
       have hb:=a3R r
       cases t with
       | true=>exact wp_cond_true hb (ihA c1 fr s ex fr' s' K a w Q h1 S F hf hg hq)
       | false=>exact wp_cond_false hb (ihA c2 fr s ex fr' s' K a w Q h1 S F hf hg hq)
     | _=>cases h1
   | block id b=>
     have h0:M.bind (a0k P T call n b fr) (fun r=>match r.1 with
      | .normal=>M.pure (.normal,r.2)
      | .exit id'=>match Nat.beq id' id with
        | true=>M.pure (.normal,r.2)
        | false=>M.pure (.exit id',r.2)
      | .ret=>M.pure (.ret,r.2)) s=some ((ex,fr'),s'):=h0
     obtain ⟨⟨x1,fr1⟩,s1,h2,h3⟩:=w9 h0
     refine wp_block ?_
     cases x1 with
     | normal=>
       have h3:M.pure (Ex.normal,fr1) s1=some ((ex,fr'),s'):=h3
       obtain ⟨e,rfl⟩:=o9 h3
       cases e
       refine ihA b fr s _ _ _ K a w _ h2 S F hf hg fun e a' w' L=>?_
       have he:e=.normal:=L.choose_spec.2.2.2
       subst he
       exact hq _ _ _ L
     | exit id'=>
       have h3:(match Nat.beq id' id with | true=>M.pure (Ex.normal,fr1) | false=>M.pure (Ex.exit id',fr1)) s1=some ((ex,fr'),s'):=h3
       cases hb:Nat.beq id' id with
       | true=>
         rw [hb] at h3
         obtain ⟨e,rfl⟩:=o9 h3
         cases e
         refine ihA b fr s _ _ _ K a w _ h2 S F hf hg fun e a' w' L=>?_
         obtain ⟨K1,st,r1,d1,e1⟩:=L
         have e1:e=.exit id':=e1
         subst e1
         show (if id'=id then Q .normal a' w' else Q (.exit id') a' w')
         rw [if_pos (Nat.eq_of_beq_eq_true hb)]
         exact hq _ _ _ ⟨K1,st,r1,d1,rfl⟩
       | false=>
         rw [hb] at h3
         obtain ⟨e,rfl⟩:=o9 h3
         cases e
         refine ihA b fr s _ _ _ K a w _ h2 S F hf hg fun e a' w' L=>?_
         have he:e=.exit id':=L.choose_spec.2.2.2
         subst he
         show (if id'=id then Q .normal a' w' else Q (.exit id') a' w')
         rw [if_neg (fun q=>by subst q; simp at hb)]
         exact hq _ _ _ L
     | ret=>
       have h3:M.pure (Ex.ret,fr1) s1=some ((ex,fr'),s'):=h3
       obtain ⟨e,rfl⟩:=o9 h3
       cases e
       refine ihA b fr s _ _ _ K a w _ h2 S F hf hg fun e a' w' L=>?_
       have he:e=.ret:=L.choose_spec.2.2.2
       subst he
       exact hq _ _ _ L
   | loop b=>exact wp_loop_rounds (n+1) (hB b fr s ex fr' s' K a w Q h S F hf hg hq)
   | exit id=>
     have h0:M.pure (Ex.exit id,fr) s=some ((ex,fr'),s'):=h0
     obtain ⟨e,rfl⟩:=o9 h0
     cases e
     exact wp_exit (hq _ _ _ ⟨K,Step.same S rfl,hf,rfl,rfl⟩)
   | ret=>
     have h0:M.pure (Ex.ret,fr) s=some ((ex,fr'),s'):=h0
     obtain ⟨e,rfl⟩:=o9 h0
     cases e
     exact wp_ret (hq _ _ _ ⟨K,Step.same S rfl,hf,rfl,rfl⟩)
   | _=>cases h0
def b1m (tmps:Array Value):ResultVar→Sem Value
 | .tmp t=>pure (tmps.getD t undef)
 | .cell a t=>do loadVar t (← asAddr (tmps.getD a undef))
theorem b7F (hT:TabOk P T) {tmps:Array Value} (hf:VRL K tmps.toList fr):∀ (rs:List ResultVar) (vs:List Value) (s s':S),U1 T fr rs s=some (vs,s')→Sim B0 w0 K s.h w →
 s'.h=s.h∧s'.c=s.c∧∃ vs',(rs.mapM (b1m tmps)).run P w=.ok vs' w∧VRL K vs' vs:=by
 have hget:∀ t,VR K (tmps.getD t undef) (d9 fr t):=by
  intro t
  have r:=hf.lget t
  rw [U0 tmps.toList,a0g] at r
  rw [Array.getD_eq_getD_getElem?]
  exact r
 intro rs
 induction rs with
 | nil=>
   intro vs s s' h S
   have h:M.pure ([]:List Value) s=some (vs,s'):=h
   obtain ⟨e,rfl⟩:=o9 h
   cases e
   exact ⟨rfl,rfl, [],rfl,⟨rfl,fun i v' v q=>by simp at q⟩⟩
 | cons r rs ih=>
   intro vs s s' h S
   have cons:∀ {x' x:Value} {ys' ys:List Value},VR K x' x→VRL K ys' ys→VRL K (x'::ys') (x::ys):=by
    intro x' x ys' ys r1 r2
    refine ⟨by simp [r2.len],fun i v' v h1 h2=>?_⟩
    cases i with
    | zero=>simp at h1 h2; subst h1; subst h2; exact r1
    | succ i=>exact r2.at_ i v' v (by simpa using h1) (by simpa using h2)
   cases r with
   | tmp t=>
     have h:M.bind (U1 T fr rs) (fun vs=>M.pure (d9 fr t::vs)) s=some (vs,s'):=h
     obtain ⟨ys,s1,h1,h2⟩:=w9 h
     obtain ⟨e,rfl⟩:=o9 h2
     cases e
     obtain ⟨q1,q2,vs',q3,q4⟩:=ih ys _ _ h1 S
     refine ⟨q1,q2,tmps.getD t undef::vs', ?_,cons (hget t) q4⟩
     rw [List.mapM_cons]
     simp only [b1m,Sem.run_bind,Sem.run_pure,Result.andThen_ok,q3]
   | cell ad t=>
     have h:K5 (d9 fr ad) (fun ad=>M.bind (a1h T t ad) fun v=>M.bind (U1 T fr rs) fun vs=>M.pure (v::vs)) s=some (vs,s'):=h
     obtain ⟨adr,e0,h⟩:=a0f h
     obtain ⟨u,s1,h1,h2⟩:=w9 h
     obtain ⟨ys,s2,h3,h4⟩:=w9 h2
     obtain ⟨e,rfl⟩:=o9 h4
     cases e
     have r0:=hget ad
     rw [e0] at r0
     obtain ⟨ad',e1,r1⟩:=a1n r0
     obtain ⟨u',p1,p2,p3,p4⟩:=b0E hT h1 S r1
     obtain ⟨q1,q2,vs',q3,q4⟩:=ih ys _ _ h3 (by rw [p3]; exact S)
     refine ⟨q1.trans p3,q2.trans p4,u'::vs', ?_,cons p2 q4⟩
     rw [List.mapM_cons]
     simp only [b1m,e1,Sem.run_bind,Sem.run_pure]
     have:(asAddr (.pointer (some ad'))).run P w=.ok ad' w:=by rfl
     rw [this]
     simp only [Result.andThen_ok,p1,q3]
theorem a5g (hT:TabOk P T) {fn:Func} {ex:Ex} {fr':List Value} {tmps:Array Value} (h:a2f T fn (ex,fr') s=some (v,s')) (hf:VRL K tmps.toList fr') (S:Sim B0 w0 K s.h w) :
 (∀ id,ex≠.exit id)∧s'.h=s.h∧s'.c=s.c∧∃ v',(results fn tmps).run P w=.ok v' w∧VR K v' v:=by
 have key:∀ h:M.bind (U1 T fr' fn.results.toList) (fun vs=>M.pure (a4z vs)) s=some (v,s'),s'.h=s.h∧s'.c=s.c∧∃ v',(results fn tmps).run P w=.ok v' w∧VR K v' v:=by
  intro h
  obtain ⟨vs,s1,h1,h2⟩:=w9 h
  obtain ⟨e,rfl⟩:=o9 h2
  cases e
  obtain ⟨q1,q2,vs',q3,q4⟩:=b7F hT hf _ _ _ _ h1 S
  refine ⟨q1,q2,(if h:vs'.toArray.size=1 then vs'.toArray[0] else .tuple vs'.toArray), ?_, ?_⟩
  · show (do let vs ← fn.results.mapM (b1m tmps); pure (if h:vs.size=1 then vs[0] else .tuple vs):Sem Value).run P w=_
    rw [Array.mapM_eq_mapM_toList]
    simp only [Sem.run_bind,Sem.run_map,q3,Result.andThen_ok,Sem.run_pure]
  · match vs,vs',q4 with
    | [], [],_=>exact .tuple rfl (fun i v' v q=>by simp at q)
    | [x], [x'],q4=>exact q4.at_ 0 x' x rfl rfl
    | x::y::l,x'::y'::l',q4=>exact .tuple q4.len q4.at_
    | [],_::_,q4=>exact absurd q4.len (by simp)
    | _::_, [],q4=>exact absurd q4.len (by simp)
    | [_],_::_::_,q4=>exact absurd q4.len (by simp)
    | _::_::_, [_],q4=>exact absurd q4.len (by simp)
 cases ex with
 | exit id=>cases h
 | normal=>exact ⟨fun _ q=>(by cases q),key h⟩
 | ret=>exact ⟨fun _ q=>(by cases q),key h⟩
def b1i (P:Program) (T:Tab) (B0:Nat) (w0:Base) (ext:Nat→Option (List Value→M Value)):Prop:=
 (∀ f g,ext f=some g→∀ vs,Fr (g vs)) ∧
 (∀ f g,ext f=some g→∀ vs s v s' w K vs',g vs s=some (v,s')→Sim B0 w0 K s.h w→GK T K→K8 K s s'→VRL K vs' vs →
   (∃ v' w' K',(callFunc f vs'.toArray).run P w=.ok (.value v') w'∧Step B0 w0 K s' w' K'∧VR K' v' v) ∨
   ((callFunc f vs'.toArray).run P w=.ok (.enter f vs'.toArray) w∧Calls P f vs'.toArray w fun e w'=>∃ v' K',e=.returned v'∧Step B0 w0 K s' w' K'∧VR K' v' v))
theorem a3f (n:Nat):O1 n=List.replicate n undef:=by
 induction n with
 | zero=>rfl
 | succ n ih=>show undef::O1 n=_; rw [ih]; rfl
theorem VRL.replicate (n:Nat):VRL K (List.replicate n undef) (List.replicate n undef):=
 ⟨by simp,fun i v' v h1 h2=>by
  rw [List.getElem?_replicate] at h1 h2
  by_cases hi:i<n
  · rw [if_pos hi] at h1 h2; cases h1; cases h2; exact VR.undef K
  · rw [if_neg hi] at h1; cases h1⟩
theorem a2U (hT:TabOk P T) (hM:P.follows .mixedOrders=true) {ext:Nat→Option (List Value→M Value)} (hE:b1i P T B0 w0 ext) (n:Nat):X8 P T B0 w0 (a0u P T ext n):=by
 induction n with
 | zero=>intro f vs s v s' w K vs' h; cases h
 | succ n ih=>
   intro f vs s v s' w K vs' h S hg F hvs
   have h0:(match ext f with | some g=>g vs | none=>M.obind (T.funcs.get f) fun fn=>enter P T (a0u P T ext n) n fn f vs) s=some (v,s'):=h
   have hFc:=Fr.callV P T hE.1 n
   cases hx:ext f with
   | some g=>
     rw [hx] at h0
     exact hE.2 f g hx vs s v s' w K vs' h0 S hg F hvs
   | none=>
     rw [hx] at h0
     obtain ⟨fn,hfn,h1⟩:=C9 h0
     obtain ⟨hPf,hnum⟩:=hT.funcs f fn hfn
     unfold enter at h1
     cases hb:fn.body with
     | none=>
       left
       rw [hb] at h1
       obtain ⟨hpl,h2⟩:=A8 h1
       obtain ⟨x,hx1,h3⟩:=C9 h2
       obtain ⟨u,hu,h4⟩:=C9 h3
       obtain ⟨hna,h5⟩:=A8 h4
       have hxv:x=.value u:=by cases x <;> first | (cases hu; rfl) | cases hu
       subst hxv
       obtain ⟨e,rfl⟩:=o9 h5
       subst e
       have hvv:vs'=vs:=by
        apply List.ext_getElem?
        intro i
        by_cases hi:i<vs.length
        · have hi':i<vs'.length:=by rw [hvs.len]; exact hi
          have r:=hvs.at_ i _ _ (List.getElem?_eq_getElem hi') (List.getElem?_eq_getElem hi)
          rw [List.getElem?_eq_getElem hi',List.getElem?_eq_getElem hi]
          have hp:=(K9 _ _).1 hpl vs[i] (List.getElem_mem hi)
          rw [r.eq_of_plain hp]
        · rw [List.getElem?_eq_none (by rw [hvs.len]; omega),List.getElem?_eq_none (by omega)]
       rw [hvv]
       exact ⟨_,w,K,a0p hx1 w,Step.same S rfl,L8 _ _ hna⟩
     | some c=>
       right
       rw [hb] at h1
       obtain ⟨⟨ex,fr1⟩,s1,h2,h3⟩:=w9 h1
       have hle:s1.c≤s'.c:=by
        have:Fr (a2f T fn (ex,fr1)):=by
         unfold a2f; split
         · exact Fr.fail
         · exact Fr.bind (Fr.resultsV T _ _) fun _=>Fr.pure _
        exact this.le h3
       refine ⟨?_, ?_⟩
       · unfold callFunc
         simp [hPf,hb]
         simpa using hnum
       · refine calls_of_wp hPf hb ?_
         rw [I5,J2,a3f] at h2
         refine (b3y hT hM ih hFc n).1 c _ s ex fr1 s1 K _ w _ h2 S (F.left hle) ?_ hg fun e a' w' L=>?_
         · show VRL K (vs'.toArray ++ Array.replicate (fn.ntmps - vs'.toArray.size) undef).toList (vs ++ List.replicate (fn.ntmps - vs.length) undef)
           simp only [Array.toList_append,Array.toList_replicate,List.size_toArray,hvs.len]
           exact hvs.append (VRL.replicate _)
         · obtain ⟨K1,st,r1,d1,e1⟩:=L
           obtain ⟨f1,f2,f3,v',f4,f5⟩:=a5g hT h3 r1 st.sim
           have st2:Step B0 w0 K s' w' K1:=⟨st.le,fun i g hi=>st.far i g (by omega),by rw [f2]; exact st.sim⟩
           cases ex with
           | exit id=>exact absurd rfl (f1 id)
           | normal=>
             have e1:e=.normal:=e1
             subst e1
             exact ⟨d1,v',f4,v',K1,rfl,st2,f5⟩
           | ret=>
             have e1:e=.ret:=e1
             subst e1
             exact ⟨d1,v',f4,v',K1,rfl,st2,f5⟩
end
end Go.V
end
section
noncomputable section
namespace Go.V
open Go.RowKit (Below)
abbrev R3:=List (List Value)
def a3W (vs:R3):Nat→Trie VObj→Trie VObj:=
 List.rec (motive:=fun _=>Nat→Trie VObj→Trie VObj) (fun _ t=>t)
  (fun v _ ih i t=>Trie.putK (some (.cells (U8 (fun x=>(x, 0)) v) 0 true)) (i+1) t i fun t=>ih (i+1) t) vs
def a0v (vs:R3):S:=⟨F4 vs,a3W vs 0 .leaf, [], []⟩
structure LaidV (vs:R3) (w:World):Prop where
 size:vs.length≤w.heap.size
 cell:∀ (g:Nat) (l:List Value),vs[g]?=some l→∀ (off:Nat) v,l[off]?=some v→w.cell? ⟨g,off,none⟩=some v
 row:∀ (g:Nat) (l:List Value),vs[g]?=some l→l≠[]→∃ t fz,w.heap[g]?=some (.cells ⟨l⟩ t fz)
theorem LaidV.below {vs:R3} {B:Nat} {w w':World} (h:LaidV vs w) (b:Below B w w') (hB:vs.length≤B):LaidV vs w':=
 ⟨Nat.le_trans h.size b.size,fun g l hg off v hv=>by
  have hlt:g<vs.length:=(List.getElem?_eq_some_iff.1 hg).1
  rw [show w'.cell? ⟨g,off,none⟩=w.cell? ⟨g,off,none⟩ from World.cell?_of_block (w:=w) (b.block g (by omega))]
  exact h.cell g l hg off v hv,fun g l hg hl=>by
  have hlt:g<vs.length:=(List.getElem?_eq_some_iff.1 hg).1
  rw [b.block g (by omega)]
  exact h.row g l hg hl⟩
theorem b9g (vs:R3):∀ (i:Nat) (t:Trie VObj) (j:Nat),(a3W vs i t).get j =
 if i≤j then (match vs[j - i]? with | some l=>some (.cells (l.map fun x=>(x, 0)) 0 true) | none=>t.get j) else t.get j:=by
 induction vs with
 | nil=>intro i t j; show t.get j=_; split <;> simp
 | cons v vs ih=>
   intro i t j
   show (Trie.putK (some (.cells (U8 (fun x=>(x, 0)) v) 0 true)) (i+1) t i fun t=>a3W vs (i+1) t).get j=_
   rw [Trie.putK_eq,ih,Q6]
   by_cases h1:i+1≤j
   · rw [if_pos h1,if_pos (by omega),show j - i=(j - (i+1))+1 by omega,List.getElem?_cons_succ]
     cases vs[j - (i+1)]? with
     | some l=>rfl
     | none=>simp only; rw [Trie.get_put _ _ _ _ (by omega),if_neg (by omega)]
   · rw [if_neg h1]
     by_cases h2:i≤j
     · obtain rfl:j=i:=by omega
       rw [if_pos h2,Trie.get_put _ _ _ _ (by omega),if_pos rfl]
       simp
     · rw [if_neg h2,Trie.get_put _ _ _ _ (by omega),if_neg (by omega)]
section
variable {P:Program} {T:Tab} {w:World} {vs:R3}
def a0m (vs:R3):KM:=fun b g=>if b<vs.length∧g=0 then some ⟨b, 0, 0, 0,false⟩ else none
theorem P8 {b g:Nat} {l:Loc} (h:a0m vs b g=some l):b<vs.length∧g=0∧l=⟨b, 0, 0, 0,false⟩:=by
 unfold a0m at h
 split at h
 · rename_i q; cases h; exact ⟨q.1,q.2,rfl⟩
 · cases h
theorem a0d (j:Nat):(a0v vs).h.get j=match vs[j]? with | some l=>some (.cells (l.map fun x=>(x, 0)) 0 true) | none=>none:=by
 show (a3W vs 0 .leaf).get j=_
 rw [b9g,if_pos (Nat.zero_le _),Nat.sub_zero]
 cases vs[j]? with
 | some l=>rfl
 | none=>exact Trie.get_leaf j
theorem a3s {R:Nat→Prop} (hR:∀ k,w.heap.size≤k→R k) (hR0:∀ k,k<vs.length→R k) (hL:LaidV vs w) (hp:∀ l∈vs, ∀ v∈l,plain v=true):Sim w.heap.size ⟨w,R⟩ (a0m vs) (a0v vs).h w:=by
 have hcs:∀ b cs cur ro,(a0v vs).h.get b=some (.cells cs cur ro)→∃ l,vs[b]?=some l∧cs=l.map (fun x=>(x, 0))∧cur=0∧ro=true:=by
  intro b cs cur ro h
  rw [a0d] at h
  cases q:vs[b]? with
  | none=>rw [q] at h; cases h
  | some l=>rw [q] at h; cases h; exact ⟨l,rfl,rfl,rfl,rfl⟩
 refine ⟨⟨Nat.le_refl _,hR⟩,Below.refl _ _, ?_, ?_, ?_, ?_, ?_, ?_, ?_, ?_, ?_, ?_,fun b g l h _=>(P8 h).2.1⟩
 · intro b g l h
   obtain ⟨h1,_,rfl⟩:=P8 h
   exact ⟨Nat.lt_of_lt_of_le h1 hL.size,hR0 _ h1⟩
 · intro b g l h
   obtain ⟨h1,_,rfl⟩:=P8 h
   rw [a0d,List.getElem?_eq_getElem h1]
   exact ⟨_,rfl⟩
 · intro b g l h ho
   obtain ⟨_,_,rfl⟩:=P8 h
   cases ho
 · intro b g l b' g' l' h _ _ ho
   obtain ⟨_,_,rfl⟩:=P8 h
   cases ho
 · intro b g l g' l' h h'
   obtain ⟨_,_,rfl⟩:=P8 h
   obtain ⟨_,_,rfl⟩:=P8 h'
   exact ⟨rfl,fun _=>rfl⟩
 · intro b g l cs cur ro h ho
   obtain ⟨_,_,rfl⟩:=P8 h
   cases ho
 · intro b cs cur ro h
   obtain ⟨l,h1,rfl,rfl,rfl⟩:=hcs b cs cur ro h
   refine ⟨fun g l' q=>?_,fun g hg=>⟨⟨b, 0, 0, 0,false⟩, ?_⟩,fun c hc=>?_⟩
   · obtain ⟨_,rfl,rfl⟩:=P8 q
     exact ⟨Nat.le_refl _,fun e=>by cases e⟩
   · unfold a0m; rw [if_pos ⟨(List.getElem?_eq_some_iff.1 h1).1,Nat.le_zero.1 hg⟩]
   · obtain ⟨x,_,rfl⟩:=List.mem_map.1 hc
     exact Nat.le_refl _
 · intro b cs cur ro g l h hk off v st hv hst hlo
   obtain ⟨l',h1,rfl,rfl,rfl⟩:=hcs b cs cur ro h
   obtain ⟨_,rfl,rfl⟩:=P8 hk
   rw [List.getElem?_map] at hv
   cases q:l'[off]? with
   | none=>rw [q] at hv; cases hv
   | some x=>
     rw [q] at hv
     cases hv
     refine ⟨v, ?_,.plain (hp l' (List.mem_of_getElem? h1) v (List.mem_of_getElem? q))⟩
     show w.cell? ⟨b, 0+(off - 0),none⟩=some v
     rw [Nat.zero_add,Nat.sub_zero]
     exact hL.cell b l' h1 off v q
 · intro b es h
   rw [a0d] at h
   cases q:vs[b]? with
   | none=>rw [q] at h; cases h
   | some l=>rw [q] at h; cases h
 · intro b x pos h
   rw [a0d] at h
   cases q:vs[b]? with
   | none=>rw [q] at h; cases h
   | some l=>rw [q] at h; cases h
theorem a4t (h:T.ng≤vs.length):GK T (a0m vs):=fun g hg=>
 ⟨⟨g, 0, 0, 0,false⟩,by unfold a0m; rw [if_pos ⟨by omega,rfl⟩],rfl,rfl,rfl⟩
def Y5 (P:Program) (T:Tab) (vs:R3) (ext:Nat→Option (List Value→M Value)):Prop:=
 ∀ B0 w0,LaidV vs w0.w→vs.length≤B0→b1i P T B0 w0 ext
theorem b9a:Y5 P T vs (fun _=>none):=fun _ _ _ _=>⟨fun _ _ h=>(by cases h),fun _ _ h=>(by cases h)⟩
def a0t (P:Program) (vs:R3) (f:Nat) (args:List Value) (v:Value):Prop:=
 ∀ w,LaidV vs w→(callFunc f args.toArray).run P w=.ok (.enter f args.toArray) w∧Calls P f args.toArray w fun e w'=>e=.returned v∧Below w.heap.size w w'
theorem N7 {f:Nat} {fn:Func} {c:Code} {args:Array Value} (hPf:P.funcs[f]?=some fn) (hnum:(fn.name == "runtime.NumGoroutine")=false) (hb:fn.body=some c) :
 (callFunc f args).run P w=.ok (.enter f args) w:=by
 unfold callFunc
 simp [hPf,hb]
 simpa using hnum
theorem a2X {K:KM} {l:List Value} (h:L6 (G8 8) l=true):VRL K l l:=
 ⟨rfl,fun i v' v h1 h2=>by
  rw [h1] at h2; cases h2
  exact L8 8 _ ((K9 _ _).1 h _ (List.mem_of_getElem? h1))⟩
theorem b9t (hT:TabOk P T) (hM:P.follows .mixedOrders=true) (hng:T.ng≤vs.length) (hp:∀ l∈vs, ∀ v∈l,plain v=true)
 {ext:Nat→Option (List Value→M Value)} (hE:Y5 P T vs ext) {n f:Nat} {fn:Func} {c:Code} {args:List Value} {v:Value} {s':S}
 (hPf:P.funcs[f]?=some fn) (hnum:(fn.name == "runtime.NumGoroutine")=false) (hb:fn.body=some c)
 (ha:L6 (G8 8) args=true) (hv:G8 8 v=true) (h:a0u P T ext n f args (a0v vs)=some (v,s')):a0t P vs f args v:=by
 intro w hL
 have hE':=hE w.heap.size ⟨w,fun _=>True⟩ hL hL.size
 refine ⟨N7 hPf hnum hb, ?_⟩
 rcases a2U hT hM hE' n f args (a0v vs) v s' w (a0m vs) args h (a3s (fun _ _=>trivial) (fun _ _=>trivial) hL hp) (a4t hng) (fun i hi _=>by
  rw [a0d]
  have:vs.length≤i:=by have:=hi; unfold a0v at this; rw [J2] at this; exact this
  rw [List.getElem?_eq_none this]) (a2X ha) with ⟨v',w',K',q1,_⟩ | ⟨_,q⟩
 · rw [N7 hPf hnum hb] at q1; cases q1
 · refine q.mono fun e w' ⟨v',K',e1,st,r⟩=>?_
   rw [e1,r.eq_of_noAddr 8 hv]
   exact ⟨rfl,st.sim.below⟩
def a1I (ext:Nat→Option (List Value→M Value)) (f:Nat) (A9:List Value→Option Value):Nat→Option (List Value→M Value):=fun g=>match Nat.beq g f with
 | true=>some fun args=>M.lift (A9 args)
 | false=>ext g
theorem a1u {ext:Nat→Option (List Value→M Value)} (hE:Y5 P T vs ext) {f:Nat} {A9:List Value→Option Value}
 (ht:∀ args v,A9 args=some v→L6 (G8 8) args=true∧G8 8 v=true∧a0t P vs f args v):Y5 P T vs (a1I ext f A9):=by
 intro B0 w0 hL hB
 have h0:=hE B0 w0 hL hB
 constructor
 · intro g m hm aS9
   unfold a1I at hm
   cases hb:Nat.beq g f with
   | true=>rw [hb] at hm; cases hm; exact Fr.lift _
   | false=>rw [hb] at hm; exact h0.1 g m hm aS9
 · intro g m hm aS9 s v s' w K vs' h S hg F hvs
   unfold a1I at hm
   cases hb:Nat.beq g f with
   | true=>
     rw [hb] at hm
     cases hm
     obtain rfl:=Nat.eq_of_beq_eq_true hb
     right
     obtain ⟨e1,e2⟩:=a1H h
     obtain ⟨t1,t2,t3⟩:=ht aS9 v e1
     have hvv:vs'=aS9:=by
      apply List.ext_getElem?
      intro i
      by_cases hi:i<aS9.length
      · have hi':i<vs'.length:=by rw [hvs.len]; exact hi
        have r:=hvs.at_ i _ _ (List.getElem?_eq_getElem hi') (List.getElem?_eq_getElem hi)
        rw [List.getElem?_eq_getElem hi',List.getElem?_eq_getElem hi,r.eq_of_noAddr 8 ((K9 _ _).1 t1 aS9[i] (List.getElem_mem hi))]
      · rw [List.getElem?_eq_none (by rw [hvs.len]; omega),List.getElem?_eq_none (by omega)]
     rw [hvv]
     obtain ⟨c1,c2⟩:=t3 w (hL.below S.below hB)
     refine ⟨c1,c2.mono fun e w' ⟨q1,q2⟩=>⟨v,K,q1,⟨KM.le_refl K,fun _ _ _=>rfl, ?_⟩,L8 8 v t2⟩⟩
     subst e2
     exact a0z S ⟨q2.os,q2.tape,q2.output,q2.size,q2.block⟩
   | false=>rw [hb] at hm; exact h0.2 g m hm aS9 s v s' w K vs' h S hg F hvs
end
end Go.V
end
section
noncomputable section
namespace Go.V
def Trie.items {α:Type} (t:Trie α):List (Nat×α):=
 Trie.rec (motive:=fun _=>List (Nat×α)) [] (fun v _ _ l r=>G7 (match v with | some v=>[(0,v)] | none=>[]) (G7 (U8 (fun x=>(2 * x.1+1,x.2)) l) (U8 (fun x=>(2 * x.1+2,x.2)) r))) t
theorem Trie.mem_items {α:Type} {t:Trie α}:∀ {k:Nat} {v:α},t.get k=some v→(k,v)∈t.items:=by
 induction t with
 | leaf=>intro k v h; rw [Trie.get_leaf] at h; cases h
 | node o l r ihl ihr=>
   intro k v h
   show (k,v)∈G7 (match o with | some v=>[(0,v)] | none=>[]) (G7 (U8 (fun x=>(2 * x.1+1,x.2)) l.items) (U8 (fun x=>(2 * x.1+2,x.2)) r.items))
   simp only [I5,Q6,List.mem_append,List.mem_map]
   cases k with
   | zero=>
     rw [Trie.get_node_zero] at h
     subst h
     left; simp
   | succ k=>
     right
     rw [Trie.get_node_succ] at h
     by_cases hk:k % 2=0
     · rw [if_pos hk] at h
       exact Or.inl ⟨(k / 2,v),ihl h,by simp; omega⟩
     · rw [if_neg hk] at h
       exact Or.inr ⟨(k / 2,v),ihr h,by simp; omega⟩
theorem d3p {P:Program} {T:Tab}
 (h1:T.types.items.map (fun x=>(P.info? x.1).map fun i=>(i.size,i.bytes,i.zero))=T.types.items.map (fun x=>some (x.2.size,x.2.bytes,some x.2.zero)))
 (h2:T.types.items.map (fun x=>P.underlying x.1)=T.types.items.map (fun x=>some x.2.und))
 (h3:(T.types.items.all fun x=>x.2.zero.cells.size == x.2.size)=true)
 (h4:T.funcs.items.map (fun x=>(P.funcs[x.1]?,x.2.name == "runtime.NumGoroutine"))=T.funcs.items.map (fun x=>(some x.2,false))):TabOk P T:=by
 have inj:∀ {α β:Type} {f g:α→β} {l:List α},l.map f=l.map g→∀ x∈l,f x=g x:=fun h x hx=>by
  exact List.map_inj_left.1 h x hx
 constructor
 · intro t i h
   have hm:=Trie.mem_items h
   have e1:=inj h1 _ hm
   have e2:=inj h2 _ hm
   have e3:=List.all_eq_true.1 h3 _ hm
   dsimp only at e1 e2 e3
   cases hi:P.info? t with
   | none=>rw [hi] at e1; cases e1
   | some info=>
     rw [hi] at e1
     simp only [Option.map_some,Option.some.injEq,Prod.mk.injEq] at e1
     exact ⟨info,rfl,e2,e1.1,e1.2.1,e1.2.2,by simpa using e3⟩
 · intro f fn h
   have e:=inj h4 _ (Trie.mem_items h)
   simp only [Prod.mk.injEq] at e
   exact e
end Go.V
end
