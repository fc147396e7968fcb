import Derived.Lib.Fields
import Derived.Test.YtmomonnlmbljoaaGreatDoorRak
import Derived.Test.YtmomonnlmbljoaaGreatDoorRan
import Derived.Test.YtmomonnlmbljoaaGreatDoorRao
section
noncomputable section
namespace Go.V
open Go.RowKit (Below)
section
variable {P:Program} {T:Tab}
theorem b0s {call:Nat→List Value→M Value} (n:Nat):∀ c fr log s ex fr' log' s',R6 P T call n c fr log s=some ((ex,(fr',log')),s')→log <+: log':=by
 induction n with
 | zero=>intro c fr log s ex fr' log' s' h; cases h
 | succ n ih=>
   intro c fr log s ex fr' log' s' h
   have h0:a5t P T call (R6 P T call n) c fr log s=some ((ex,(fr',log')),s'):=h
   unfold a5t at h0
   split at h0
   · obtain ⟨e,_⟩:=o9 h0; cases e; exact List.prefix_rfl
   · obtain ⟨r,s1,h1,h2⟩:=w9 h0
     obtain ⟨e,_⟩:=o9 h2; cases e; exact List.prefix_rfl
   · rename_i ca cb
     cases hp:a1U ca cb with
     | some p=>
       rw [hp] at h0
       obtain ⟨fr1,s1,h1,h2⟩:=w9 h0
       obtain ⟨⟨l',vs⟩,hyo,h3⟩:=C9 h2
       obtain ⟨hgd,h4⟩:=A8 h3
       obtain ⟨u,s2,h5,h6⟩:=w9 h4
       rw [a1j,I5] at h6
       obtain ⟨e7,_⟩:=o9 h6
       cases e7
       exact List.prefix_append _ _
     | none=>
       rw [hp] at h0
       obtain ⟨⟨x1,fr1,log1⟩,s1,h1,h2⟩:=w9 h0
       have p1:=ih _ _ _ _ _ _ _ _ h1
       cases x1 with
       | normal=>exact p1.trans (ih _ _ _ _ _ _ _ _ h2)
       | exit id=>obtain ⟨e,_⟩:=o9 h2; cases e; exact p1
       | ret=>obtain ⟨e,_⟩:=o9 h2; cases e; exact p1
   · obtain ⟨u,e1,h1⟩:=C9 h0
     cases u with
     | bool t=>cases t <;> exact ih _ _ _ _ _ _ _ _ h1
     | _=>cases h1
   · rename_i bid cb
     obtain ⟨⟨x1,fr1,log1⟩,s1,h1,h2⟩:=w9 h0
     have p1:=ih _ _ _ _ _ _ _ _ h1
     cases x1 with
     | normal=>obtain ⟨e,_⟩:=o9 h2; cases e; exact p1
     | exit id'=>
       dsimp only at h2
       cases hb:Nat.beq id' bid with
       | true=>rw [hb] at h2; obtain ⟨e,_⟩:=o9 h2; cases e; exact p1
       | false=>rw [hb] at h2; obtain ⟨e,_⟩:=o9 h2; cases e; exact p1
     | ret=>obtain ⟨e,_⟩:=o9 h2; cases e; exact p1
   · rw [a1j] at h0
     obtain ⟨⟨x1,fr1,log1⟩,s1,h1,h2⟩:=w9 h0
     have p1:=ih _ _ _ _ _ _ _ _ h1
     cases x1 with
     | normal=>exact p1.trans (ih _ _ _ _ _ _ _ _ h2)
     | exit id=>obtain ⟨e,_⟩:=o9 h2; cases e; exact p1
     | ret=>obtain ⟨e,_⟩:=o9 h2; cases e; exact p1
   · obtain ⟨e,_⟩:=o9 h0; cases e; exact List.prefix_rfl
   · obtain ⟨e,_⟩:=o9 h0; cases e; exact List.prefix_rfl
   · cases h0
structure Ways (T:Tab) (K4:R3) (R:Nat→Prop) (J Jx:List (List Value)→World→Prop) (ds:List Deferred) (ex:Ex) (fr':List Value) (log':Log) (s':S) (Q:Exit→Act→World→Prop):Prop where
 on:∀ e a' w',YAt T K4 R J ds log' fr' s' a' w'→e0E ex e→Q e a' w'
 off:∀ a' w' pre,pre <+: log'.map (·.2)→Jx pre w'→a'.defers=ds→Q .ret a' w'
theorem c8S (hT:TabOk P T) (hM:P.follows .mixedOrders=true) {call:Nat→List Value→M Value} {K4:R3} (hC:∀ B0 w0,LaidV K4 w0.w→K4.length≤B0→X8 P T B0 w0 call) (hF:∀ f vs,Fr (call f vs))
 {R:Nat→Prop} {l m:Nat} {full:List (List Value)} {J Jx:List (List Value)→World→Prop} (hR:Rounds P R l m J Jx full) (hRv:∀ k,k<K4.length→R k) {ds:List Deferred} (n:Nat) :
 (∀ c fr log s ex fr' log' s' a w Q,R6 P T call n c fr log s=some ((ex,(fr',log')),s')→YAt T K4 R J ds log fr s a w→(∀ e∈log',e.1=l)→log'.map (·.2) <+: full →
   Ways T K4 R J Jx ds ex fr' log' s' Q→c.wp P Q a w) ∧
 (∀ b fr log s ex fr' log' s' a w Q,R6 P T call n (.loop b) fr log s=some ((ex,(fr',log')),s')→YAt T K4 R J ds log fr s a w→(∀ e∈log',e.1=l)→log'.map (·.2) <+: full →
   Ways T K4 R J Jx ds ex fr' log' s' Q→Code.rounds P b Q n a w):=by
 induction n with
 | zero=>
   constructor
   · intro c fr log s ex fr' log' s' a w Q h; cases h
   · intro b fr log s ex fr' log' s' a w Q h; cases h
 | succ n ih=>
   obtain ⟨ihA,ihB⟩:=ih
   have sub:∀ {log1 log':Log},log1 <+: log'→(∀ e∈log',e.1=l)→log'.map (·.2) <+: full→(∀ e∈log1,e.1=l)∧log1.map (·.2) <+: full:=
    fun hp h1 h2=>⟨fun e he=>h1 e (hp.subset he),(hp.map _).trans h2⟩
   have hB:∀ b fr log s ex fr' log' s' a w Q,R6 P T call (n+1) (.loop b) fr log s=some ((ex,(fr',log')),s')→YAt T K4 R J ds log fr s a w→(∀ e∈log',e.1=l)→log'.map (·.2) <+: full →
    Ways T K4 R J Jx ds ex fr' log' s' Q→Code.rounds P b Q (n+1) a w:=by
    intro b fr log s ex fr' log' s' a w Q h hY hl hN hW
    have h1:fList fr (fun fr=>M.bind (R6 P T call n b fr log) fun r=>match r.1 with
     | .normal=>R6 P T call n (.loop b) r.2.1 r.2.2
     | .exit id=>M.pure (.exit id,r.2)
     | .ret=>M.pure (.ret,r.2)) s=some ((ex,(fr',log')),s'):=h
    rw [a1j] at h1
    obtain ⟨⟨x1,fr1,log1⟩,s1,h2,h3⟩:=w9 h1
    show b.wp P (Exit.then (Code.rounds P b Q n) Q) a w
    cases x1 with
    | normal=>
      have h3:R6 P T call n (.loop b) fr1 log1 s1=some ((ex,(fr',log')),s'):=h3
      have hp:=b0s n _ _ _ _ _ _ _ _ h3
      obtain ⟨q1,q2⟩:=sub hp hl hN
      refine ihA b fr log s .normal fr1 log1 s1 a w _ h2 hY q1 q2 ⟨fun e a' w' y he=>?_,fun a' w' pre hpre hx hd=>?_⟩
      · have he:e=.normal:=he
        subst he
        exact ihB b fr1 log1 s1 ex fr' log' s' a' w' Q h3 y hl hN hW
      · exact hW.off a' w' pre (hpre.trans (hp.map _)) hx hd
    | exit id=>
      have h3:M.pure (Ex.exit id,(fr1,log1)) s1=some ((ex,(fr',log')),s'):=h3
      obtain ⟨e,rfl⟩:=o9 h3
      cases e
      refine ihA b fr log s _ _ _ _ a w _ h2 hY hl hN ⟨fun e a' w' y he=>?_,fun a' w' pre hpre hx hd=>hW.off a' w' pre hpre hx hd⟩
      have he':e=.exit id:=he
      subst he'
      exact hW.on _ _ _ y he
    | ret=>
      have h3:M.pure (Ex.ret,(fr1,log1)) s1=some ((ex,(fr',log')),s'):=h3
      obtain ⟨e,rfl⟩:=o9 h3
      cases e
      refine ihA b fr log s _ _ _ _ a w _ h2 hY hl hN ⟨fun e a' w' y he=>?_,fun a' w' pre hpre hx hd=>hW.off a' w' pre hpre hx hd⟩
      have he':e=.ret:=he
      subst he'
      exact hW.on _ _ _ y he
   refine ⟨fun c fr log s ex fr' log' s' a w Q h hY hl hN hW=>?_,hB⟩
   have h0:a5t P T call (R6 P T call n) c fr log s=some ((ex,(fr',log')),s'):=h
   cases c with
   | skip=>
     have h0:M.pure (Ex.normal,(fr,log)) s=some ((ex,(fr',log')),s'):=h0
     obtain ⟨e,rfl⟩:=o9 h0
     cases e
     exact wp_skip (hW.on _ _ _ hY rfl)
   | region id ops draw=>
     have h0:M.bind (region P T call ops.toList draw fr) (fun r=>M.pure (r.1,(r.2,log))) s=some ((ex,(fr',log')),s'):=h0
     obtain ⟨⟨x1,fr1⟩,s1,h1,h2⟩:=w9 h0
     obtain ⟨e,rfl⟩:=o9 h2
     cases e
     obtain ⟨B0,w0,K,S,hwR,hB0,hJ,hf,hg,hds,hfr,hL0,hLB⟩:=hY
     refine (b3y hT hM (hC B0 w0 hL0 hLB) hF 1).1 (.region id ops draw) fr s _ _ _ K a w Q h1 S (hfr.free _ _) hf hg fun e a' w' L=>?_
     obtain ⟨K',st,r,d,q⟩:=L
     refine hW.on e a' w' ⟨B0,w0,K',st.sim,hwR,hB0,hJ,r,hg.mono st.le,by rw [d,hds],hfr.next (Fr.region P T hF _ _ _) h1,hL0,hLB⟩ ?_
     cases x1 <;> exact q
   | seq x y=>
     cases hp:a1U x y with
     | some p=>
       have h0:(match a1U x y with
        | some p=>a1W P T call p fr log
        | none=>M.bind (R6 P T call n x fr log) fun r=>match r.1 with
          | .normal=>R6 P T call n y r.2.1 r.2.2
          | .exit id=>M.pure (.exit id,r.2)
          | .ret=>M.pure (.ret,r.2)) s=some ((ex,(fr',log')),s'):=h0
       rw [hp] at h0
       exact b0I hT hC hF hR hRv hp h0 hY hl hN hW.on hW.off
     | none=>
       have h0:(match a1U x y with
        | some p=>a1W P T call p fr log
        | none=>M.bind (R6 P T call n x fr log) fun r=>match r.1 with
          | .normal=>R6 P T call n y r.2.1 r.2.2
          | .exit id=>M.pure (.exit id,r.2)
          | .ret=>M.pure (.ret,r.2)) s=some ((ex,(fr',log')),s'):=h0
       rw [hp] at h0
       obtain ⟨⟨x1,fr1,log1⟩,s1,h2,h3⟩:=w9 h0
       refine wp_seq ?_
       cases x1 with
       | normal=>
         have h3:R6 P T call n y fr1 log1 s1=some ((ex,(fr',log')),s'):=h3
         have hp:=b0s n _ _ _ _ _ _ _ _ h3
         obtain ⟨q1,q2⟩:=sub hp hl hN
         refine ihA x fr log s .normal fr1 log1 s1 a w _ h2 hY q1 q2 ⟨fun e a' w' y' he=>?_,fun a' w' pre hpre hx hd=>?_⟩
         · have he:e=.normal:=he
           subst he
           exact ihA y fr1 log1 s1 ex fr' log' s' a' w' Q h3 y' hl hN hW
         · exact hW.off a' w' pre (hpre.trans (hp.map _)) hx hd
       | exit id=>
         have h3:M.pure (Ex.exit id,(fr1,log1)) s1=some ((ex,(fr',log')),s'):=h3
         obtain ⟨e,rfl⟩:=o9 h3
         cases e
         refine ihA x fr log s _ _ _ _ a w _ h2 hY hl hN ⟨fun e a' w' y he=>?_,fun a' w' pre hpre hx hd=>hW.off a' w' pre hpre hx hd⟩
         have he':e=.exit id:=he
         subst he'
         exact hW.on _ _ _ y he
       | ret=>
         have h3:M.pure (Ex.ret,(fr1,log1)) s1=some ((ex,(fr',log')),s'):=h3
         obtain ⟨e,rfl⟩:=o9 h3
         cases e
         refine ihA x fr log s _ _ _ _ a w _ h2 hY hl hN ⟨fun e a' w' y he=>?_,fun a' w' pre hpre hx hd=>hW.off a' w' pre hpre hx hd⟩
         have he':e=.ret:=he
         subst he'
         exact hW.on _ _ _ y he
   | cond x c1 c2=>
     have h0:M.obind (J8 T fr x) (fun v=>match v with
      | .bool t=>match t with
        | true=>R6 P T call n c1 fr log
        | false=>R6 P T call n c2 fr log
      | _=>M.fail) s=some ((ex,(fr',log')),s'):=h0
     obtain ⟨u,e1,h1⟩:=C9 h0
     have hY':=hY
     obtain ⟨B0,w0,K,S,hwR,hB0,hJ,hf,hg,hds,hfr,hL0,hLB⟩:=hY'
     have r:=F5 hf hg e1
     cases u with
     | bool t=>
       have hb:=a3R r
       cases t with
       | true=>exact wp_cond_true hb (ihA c1 fr log s ex fr' log' s' a w Q h1 hY hl hN hW)
       | false=>exact wp_cond_false hb (ihA c2 fr log s ex fr' log' s' a w Q h1 hY hl hN hW)
     | _=>cases h1
   | block id b=>
     have h0:M.bind (R6 P T call n b fr log) (fun r=>match r.1 with
      | .normal=>M.pure (.normal,r.2)
      | .exit id'=>match Nat.beq id' id with
        | true=>M.pure (.normal,r.2)
        | false=>M.pure (.exit id',r.2)
      | .ret=>M.pure (.ret,r.2)) s=some ((ex,(fr',log')),s'):=h0
     obtain ⟨⟨x1,fr1,log1⟩,s1,h2,h3⟩:=w9 h0
     refine wp_block ?_
     cases x1 with
     | normal=>
       have h3:M.pure (Ex.normal,(fr1,log1)) s1=some ((ex,(fr',log')),s'):=h3
       obtain ⟨e,rfl⟩:=o9 h3
       cases e
       refine ihA b fr log s _ _ _ _ a w _ h2 hY hl hN ⟨fun e a' w' y he=>?_,fun a' w' pre hpre hx hd=>hW.off a' w' pre hpre hx hd⟩
       have he':e=.normal:=he
       subst he'
       exact hW.on _ _ _ y he
     | exit id'=>
       have h3:(match Nat.beq id' id with | true=>M.pure (Ex.normal,(fr1,log1)) | false=>M.pure (Ex.exit id',(fr1,log1))) s1=some ((ex,(fr',log')),s'):=h3
       cases hb:Nat.beq id' id with
       | true=>
         rw [hb] at h3
         obtain ⟨e,rfl⟩:=o9 h3
         cases e
         refine ihA b fr log s _ _ _ _ a w _ h2 hY hl hN ⟨fun e a' w' y he=>?_,fun a' w' pre hpre hx hd=>hW.off a' w' pre hpre hx hd⟩
         have he':e=.exit id':=he
         subst he'
         show (if id'=id then Q .normal a' w' else Q (.exit id') a' w')
         rw [if_pos (Nat.eq_of_beq_eq_true hb)]
         exact hW.on _ _ _ y rfl
       | false=>
         rw [hb] at h3
         obtain ⟨e,rfl⟩:=o9 h3
         cases e
         refine ihA b fr log s _ _ _ _ a w _ h2 hY hl hN ⟨fun e a' w' y he=>?_,fun a' w' pre hpre hx hd=>hW.off a' w' pre hpre hx hd⟩
         have he':e=.exit id':=he
         subst he'
         show (if id'=id then Q .normal a' w' else Q (.exit id') a' w')
         rw [if_neg (fun q=>by subst q; simp at hb)]
         exact hW.on _ _ _ y he
     | ret=>
       have h3:M.pure (Ex.ret,(fr1,log1)) s1=some ((ex,(fr',log')),s'):=h3
       obtain ⟨e,rfl⟩:=o9 h3
       cases e
       refine ihA b fr log s _ _ _ _ a w _ h2 hY hl hN ⟨fun e a' w' y he=>?_,fun a' w' pre hpre hx hd=>hW.off a' w' pre hpre hx hd⟩
       have he':e=.ret:=he
       subst he'
       exact hW.on _ _ _ y he
   | loop b=>exact wp_loop_rounds (n+1) (hB b fr log s ex fr' log' s' a w Q h hY hl hN hW)
   | exit id=>
     have h0:M.pure (Ex.exit id,(fr,log)) s=some ((ex,(fr',log')),s'):=h0
     obtain ⟨e,rfl⟩:=o9 h0
     cases e
     exact wp_exit (hW.on _ _ _ hY rfl)
   | ret=>
     have h0:M.pure (Ex.ret,(fr,log)) s=some ((ex,(fr',log')),s'):=h0
     obtain ⟨e,rfl⟩:=o9 h0
     cases e
     exact wp_ret (hW.on _ _ _ hY rfl)
   | _=>cases h0
end
end Go.V
end
section
noncomputable section
namespace Go.V
open Go.RowKit (Below)
section
variable {P:Program} {T:Tab} {vs:R3}
theorem a3i {fn:Func} {tmps:Array Value} {w:World} (h:fn.results=#[]):(results fn tmps).run P w=.ok (.tuple #[]) w:=by
 unfold results
 rw [h]
 simp
def RB (vs:R3) (B:Nat):Nat→Prop:=fun k=>k<vs.length∨B≤k
theorem b0P (hT:TabOk P T) (hM:P.follows .mixedOrders=true) (hng:T.ng≤vs.length) (hp:∀ l∈vs, ∀ v∈l,plain v=true) {ext:Nat→Option (List Value→M Value)} (hE:Y5 P T vs ext) {n m f:Nat} {fn:Func} {c:Code} {α:Type} {enc:α→List Value} {full:List α}
 (hPf:P.funcs[f]?=some fn) (hb:fn.body=some c) (hres:fn.results=#[])
 (hrun:∀ l:Nat, ∃ ex fr' s',R6 P T (a0u P T ext n) n c (Value.func (.yield l) #[] #[]::List.replicate (fn.ntmps - 1) undef) [] (a0v vs)=some ((ex,(fr',full.map fun x=>(l,enc x))),s')∧∀ id,ex≠.exit id)
 {w:World} (hL:LaidV vs w) {B:Nat} (hB:B≤w.heap.size) (hBv:vs.length≤w.heap.size) :
 SeqStopsK Fence.wide m P f #[] (fun x:α=>(enc x).toArray) (KeepsR (RB vs B)) (fun xs=>xs=full) (fun pre=>pre <+: full) full.length w:=by
 intro l J Jx W hW hJ hJx hround h0
 refine callsIn_wide.2 (calls_of_wp hPf hb ?_)
 have hLW:LaidV vs W:=hL.below hW hBv
 let J0:List (List Value)→World→Prop:=fun xs W=>∃ pre,xs=pre.map enc∧pre <+: full∧J pre W
 let Jx0:List (List Value)→World→Prop:=fun xs W=>∃ pre,xs=pre.map enc∧pre <+: full∧Jx pre W
 have hR:Rounds P (RB vs B) l (m - 1) J0 Jx0 (full.map enc):=by
  refine ⟨fun xs W1 W2 h hb2=>?_,fun xs x W1 h hpre=>?_⟩
  · obtain ⟨pre,e,hp1,hj⟩:=h
    exact ⟨pre,e,hp1,hJ pre W1 W2 none hj ⟨hb2.os,hb2.tape,hb2.output,hb2.size,fun k hk _=>hb2.block k hk⟩ (fun r q=>by cases q)⟩
  · obtain ⟨pre,rfl,⟨rest,rfl⟩,hj⟩:=h
    cases rest with
    | nil=>
      have:=hpre.length_le
      simp at this
      omega
    | cons y ys=>
      have hx:x=enc y:=by
       rw [List.map_append,List.prefix_append_right_inj] at hpre
       obtain ⟨t,ht⟩:=hpre
       simp at ht
       exact ht.1
      subst hx
      obtain ⟨f0,tm,as0,bd,q1,q2⟩:=hround pre y W1 hj (by simp)
      have hp2:pre ++ [y] <+: pre ++ y::ys:=⟨ys,by simp⟩
      refine ⟨f0,tm,as0,bd,q1,q2.mono fun e W' he=>?_⟩
      rcases he with ⟨e1,e2,e3⟩ | ⟨e1,e2⟩
      · exact Or.inl ⟨e1,⟨pre ++ [y],by simp,hp2,e2⟩,e3⟩
      · exact Or.inr ⟨e1,pre ++ [y],by simp,hp2,e2⟩
 obtain ⟨ex,fr',s',hr,hex⟩:=hrun l
 have hC:∀ B0 w0,LaidV vs w0.w→vs.length≤B0→X8 P T B0 w0 (a0u P T ext n):=fun B0 w0 h1 h2=>a2U hT hM (hE B0 w0 h1 h2) n
 have hF:∀ f aS9,Fr (a0u P T ext n f aS9):=Fr.callV P T (hE W.heap.size ⟨W,fun _=>True⟩ hLW hLW.size).1 n
 have hlen:(full.map fun x=>(l,enc x)).map (·.2)=full.map enc:=by rw [List.map_map]; rfl
 refine (c8S hT hM hC hF hR (fun k hk=>Or.inl hk) (ds:=[]) n).1 c _ [] (a0v vs) ex fr' _ s' _ W _ hr ⟨W.heap.size,⟨W,RB vs B⟩,a0m vs, ?_,rfl,rfl,⟨[],rfl,List.nil_prefix,h0⟩, ?_,a4t hng,rfl, ?_,hLW,hLW.size⟩ ?_ (by rw [hlen]; exact List.prefix_rfl) ⟨?_, ?_⟩
 · exact a3s (fun k hk=>Or.inr (Nat.le_trans hB (Nat.le_trans hW.size hk))) (fun k hk=>Or.inl hk) hLW hp
 · simp only [Array.toList_append,Array.toList_replicate]
   show VRL (a0m vs) ([Value.func (.yield l) #[] #[]] ++ List.replicate (fn.ntmps - 1) undef) ([Value.func (.yield l) #[] #[]] ++ List.replicate (fn.ntmps - 1) undef)
   refine VRL.append ⟨rfl,fun i v' v h1 h2=>?_⟩ (VRL.replicate _)
   rw [h1] at h2
   cases h2
   cases i with
   | zero=>cases h1; exact .func rfl (fun i v' v q=>by simp at q) rfl (fun i v' v q=>by simp at q)
   | succ i=>simp at h1
 · intro i hi
   rw [a0d]
   have:vs.length≤i:=by have:=hi; unfold a0v at this; rw [J2] at this; exact this
   rw [List.getElem?_eq_none this]
 · intro e he
   obtain ⟨x,_,rfl⟩:=List.mem_map.1 he
   rfl
 · intro e a' w' y he
   obtain ⟨B0,w0,K,S,hwR,hB0,hJ',hf,hg,hds,hfr,_,_⟩:=y
   rw [hlen] at hJ'
   obtain ⟨pre,e1,e2,hJw⟩:=hR.abides _ _ _ hJ' (by rw [← hB0]; exact S.below)
   have e3:pre=full:=e2.eq_of_length (by have:=congrArg List.length e1; simpa using this.symm)
   subst e3
   have post:a'.defers=[]∧∃ v,(results fn a'.tmps).run P w'=.ok v w'∧((∃ u,Ending.returned v=.returned u)∧((∃ xs,xs=pre∧J xs w')∨(∃ pre',pre' <+: pre∧Jx pre' w'))):=
    ⟨hds,_,a3i hres,⟨_,rfl⟩,Or.inl ⟨_,rfl,hJw⟩⟩
   cases ex with
   | exit id=>exact absurd rfl (hex id)
   | normal=>have he:e=.normal:=he; subst he; exact post
   | ret=>have he:e=.ret:=he; subst he; exact post
 · intro a' w' pre hpre hx hd
   obtain ⟨pre',_,e2,hx⟩:=hx
   exact ⟨hd,_,a3i hres,⟨_,rfl⟩,Or.inr ⟨pre',e2,hx⟩⟩
end
end Go.V
end
section
noncomputable section
namespace Go.V
open Go.RowKit (Below)
def Y6 (ext:Nat→Option (List Value→M Value)) (f:Nat) (g:List Value→M Value):Nat→Option (List Value→M Value):=fun i=>match Nat.beq i f with
 | true=>some g
 | false=>ext i
section
variable {P:Program} {T:Tab} {vs:R3}
def a0s (P:Program) (T:Tab) (vs:R3) (f:Nat) (g:List Value→M Value):Prop:=(∀ aS9,Fr (g aS9)) ∧
 ∀ B0 w0,LaidV vs w0.w→vs.length≤B0→∀ aS9 s v s' w K as',g aS9 s=some (v,s')→Sim B0 w0 K s.h w→GK T K→K8 K s s'→VRL K as' aS9 →
   (∃ v' w' K',(callFunc f as'.toArray).run P w=.ok (.value v') w'∧Step B0 w0 K s' w' K'∧VR K' v' v) ∨
   ((callFunc f as'.toArray).run P w=.ok (.enter f as'.toArray) w∧Calls P f as'.toArray w fun e w'=>∃ v' K',e=.returned v'∧Step B0 w0 K s' w' K'∧VR K' v' v)
theorem a1w {ext:Nat→Option (List Value→M Value)} (hE:Y5 P T vs ext) {f:Nat} {g:List Value→M Value} (hg:a0s P T vs f g):Y5 P T vs (Y6 ext f g):=by
 intro B0 w0 hL hB
 have h0:=hE B0 w0 hL hB
 constructor
 · intro i m hm aS9
   unfold Y6 at hm
   cases hb:Nat.beq i f with
   | true=>rw [hb] at hm; cases hm; exact hg.1 aS9
   | false=>rw [hb] at hm; exact h0.1 i m hm aS9
 · intro i m hm
   unfold Y6 at hm
   cases hb:Nat.beq i f with
   | true=>
     rw [hb] at hm
     cases hm
     obtain rfl:=Nat.eq_of_beq_eq_true hb
     exact hg.2 B0 w0 hL hB
   | false=>rw [hb] at hm; exact h0.2 i m hm
theorem a1s {K:KM} {as' aS9:List Value} (h:VRL K as' aS9) (hn:L6 (G8 8) aS9=true):as'=aS9:=by
 apply List.ext_getElem?
 intro i
 by_cases hi:i<aS9.length
 · have hi':i<as'.length:=by rw [h.len]; exact hi
   have r:=h.at_ i _ _ (List.getElem?_eq_getElem hi') (List.getElem?_eq_getElem hi)
   rw [List.getElem?_eq_getElem hi',List.getElem?_eq_getElem hi,r.eq_of_noAddr 8 ((K9 _ _).1 hn aS9[i] (List.getElem_mem hi))]
 · rw [List.getElem?_eq_none (by rw [h.len]; omega),List.getElem?_eq_none (by omega)]
def a5q (f:List Value→Option (List Value)) (aS9:List Value):M Value:=
 M.obind (f aS9) fun xs=>M.bind (M9 xs) fun a=>a1b (F4 xs) fun n=>M.pure (.slice (some a) n 1)
theorem b3d {f:Nat} {g:List Value→Option (List Value)}
 (hg:∀ aS9 xs,g aS9=some xs→L6 (G8 8) aS9=true∧L6 plain xs=true∧∀ w,LaidV vs w →
   (callFunc f aS9.toArray).run P w=.ok (.enter f aS9.toArray) w∧Calls P f aS9.toArray w fun e w'=>e=.returned (.slice (some ⟨w.heap.size, 0,none⟩) xs.length xs.length)∧∃ t,w'=w.alloc (.cells xs.toArray t)) :
 a0s P T vs f (a5q g):=by
 refine ⟨fun aS9=>Fr.obind _ fun xs=>Fr.bind (Fr.newCells _) fun a=>?_, ?_⟩
 · rw [Y9]; exact Fr.pure _
 · intro B0 w0 hL hB aS9 s v s' w K as' h S hG F has
   obtain ⟨xs,e1,h1⟩:=C9 h
   obtain ⟨a,s1,h2,h3⟩:=w9 h1
   rw [Y9,J2] at h3
   obtain ⟨e2,rfl⟩:=o9 h3
   obtain ⟨g1,g2,g3⟩:=hg aS9 xs e1
   rw [a1s has g1]
   obtain ⟨c1,c2⟩:=g3 w (hL.below S.below hB)
   refine Or.inr ⟨c1,c2.mono fun e w' ⟨q1,t,q2⟩=>?_⟩
   have hblk:w'.heap[w.heap.size]?=some (.cells xs.toArray t (0, 0)):=by rw [q2]; exact World.alloc_heap_new w _
   have hx:VRL K xs xs:=⟨rfl,fun i v' v h1 h2=>by
    rw [h1] at h2; cases h2
    exact .plain ((K9 _ _).1 g2 _ (List.mem_of_getElem? h1))⟩
   obtain ⟨K',k1,k2,k3⟩:=Z6 (rest:=[]) h2 S F hx (by rw [q2]; exact Grew.alloc w _) hblk (by simp) (fun o _=>by simp)
   refine ⟨_,K',q1,k1, ?_⟩
   rw [e2,k3]
   refine VR.slice (a':=⟨w.heap.size, 0,none⟩) k2 (Nat.zero_le _) (by omega) (Nat.le_refl _) (Or.inr rfl) (Or.inr ⟨rfl,rfl,fun _=>by simp⟩)
end
def a2k (l:List UInt8):List UInt8→List (List UInt8):=
 List.rec (motive:=fun _=>List UInt8→List (List UInt8)) (fun cur=>match cur with
  | []=>[]
  | c::cs=>[c::cs])
  (fun b _ ih cur=>match Lib.isSp b with
    | true=>match cur with
      | []=>ih []
      | c::cs=>(c::cs)::ih []
    | false=>ih (G7 cur [b])) l
theorem c1G (l:List UInt8):∀ cur,a2k l cur=Lib.fieldsGo cur l:=by
 induction l with
 | nil=>intro cur; cases cur <;> rfl
 | cons b l ih=>
   intro cur
   show (match Lib.isSp b with | true=>(match cur with | []=>a2k l [] | c::cs=>(c::cs)::a2k l []) | false=>a2k l (G7 cur [b]))=_
   rw [Lib.fieldsGo]
   cases Lib.isSp b with
   | true=>cases cur <;> simp [ih]
   | false=>simp [ih,I5]
def a2q (aS9:List Value):Option (List Value):=match aS9 with
 | []=>none
 | v::rest=>match rest with
   | []=>match v with
     | .string s=>match L6 (fun b=>Nat.blt b.toNat 128) s.data.toList && Nat.blt (F4 s.data.toList) 4294967281 with
       | true=>some (U8 (fun l=>Value.string ⟨⟨l⟩⟩) (a2k s.data.toList []))
       | false=>none
     | _=>none
   | _::_=>none
theorem b9b {aS9 xs:List Value} (h:a2q aS9=some xs):∃ s:ByteArray,aS9=[.string s]∧s.size<4294967281∧(∀ (j:Nat) b,s.data.toList[j]?=some b→b.toNat<128)∧xs=(Lib.fields s.data.toList).map fun l=>Value.string ⟨l.toArray⟩:=by
 unfold a2q at h
 split at h
 · cases h
 · split at h
   · split at h
     · rename_i s
       cases hb:L6 (fun b=>Nat.blt b.toNat 128) s.data.toList && Nat.blt (F4 s.data.toList) 4294967281 with
       | false=>rw [hb] at h; cases h
       | true=>
         rw [hb] at h
         cases h
         simp only [Bool.and_eq_true] at hb
         refine ⟨s,rfl, ?_,fun j b hj=>?_, ?_⟩
         · have:=hb.2
           rw [J2] at this
           have:s.data.toList.length<4294967281:=by simpa using this
           simpa using this
         · have:=(K9 _ _).1 hb.1 b (List.mem_of_getElem? hj)
           simpa using this
         · rw [Q6,c1G]; rfl
     · cases h
   · cases h
end Go.V
end
section
namespace Go.V
open Go.RowKit (Below)
end Go.V
end
section
noncomputable section
namespace Go.V
section
variable {α β:Type} (c:Nat) (h:Trie VObj) (r w:List Nat)
theorem e9P (m:M α) (f:α→M β):M.bind m f ⟨c,h,r,w⟩=match m ⟨c,h,r,w⟩ with
 | none=>none
 | some x=>f x.1 x.2:=Eq.trans rfl rfl
theorem e8y (a:α):M.pure a ⟨c,h,r,w⟩=some (a,⟨c,h,r,w⟩):=Eq.trans rfl rfl
end
theorem a2J {a b:Nat} (h:a<b):Nat.blt a b=true:=by simpa [Nat.blt_eq] using h
theorem d2j {a b:Nat} (h:a≠b):Nat.beq a b=false:=by
 cases q:Nat.beq a b with
 | false=>rfl
 | true=>exact absurd (Nat.eq_of_beq_eq_true q) h
theorem d4U (a:Nat):Nat.beq a a=true:=by simp
theorem F7 {α:Type}:F4 ([]:List α)=0:=Eq.trans rfl rfl
theorem D9 {α:Type} (x:α) (l:List α):F4 (x::l)=F4 l+1:=Eq.trans rfl rfl
def U5 {α:Type} (r:Option (α×S)) (Q:α→S→Prop):Prop:=∃ a s,r=some (a,s)∧Q a s
theorem U5.mono {α:Type} {r:Option (α×S)} {Q R:α→S→Prop} (h:U5 r Q) (k:∀ a s,Q a s→R a s):U5 r R:=
 let ⟨a,s,e,q⟩:=h; ⟨a,s,e,k a s q⟩
theorem U5.pure {α:Type} {a:α} {s:S} {Q:α→S→Prop} (h:Q a s):U5 (M.pure a s) Q:=⟨a,s,rfl,h⟩
theorem U5.some {α:Type} {a:α} {s:S} {Q:α→S→Prop} (h:Q a s):U5 (Option.some (a,s)) Q:=⟨a,s,rfl,h⟩
theorem U5.bind {α β:Type} {m:M α} {f:α→M β} {s:S} {P:α→S→Prop} {Q:β→S→Prop} (h:U5 (m s) P) (k:∀ a s',P a s'→U5 (f a s') Q):U5 (M.bind m f s) Q:=by
 obtain ⟨a,s',e,p⟩:=h
 show U5 (match m s with | none=>none | Option.some x=>f x.1 x.2) Q
 rw [e]
 exact k a s' p
abbrev X4:=List Nat×List Nat
section
variable (p:Program) (T:Tab)
def a1C (v:Value) (vs:List Value) (k:Nat→List Value→M Value):M Value:=match v with
 | .func fn first captured=>match fn with
   | .func g=>k g (G7 first.toList (G7 vs captured.toList))
   | _=>M.fail
 | _=>M.fail
def c5h (call:Nat→List Value→M Value) (ops:List Oper) (fr:List Value) (o:Oper):M (Value×X4):=
 l8 (M6 ops fr o) (M.foot (M7 p T call fr o.op)) (M.pure (undef,([], [])))
def b1f {β:Type} (call:Nat→List Value→M Value) (ops os:List Oper):List Value→List X4→(List Value→List X4→M β)→M β:=
 List.rec (motive:=fun _=>List Value→List X4→(List Value→List X4→M β)→M β) (fun fr acc k=>k fr acc)
  (fun o _ ih fr acc k=>M.bind (c5h p T call ops fr o) fun x=>ih (G5 fr o x.1) (G7 acc [x.2]) k) os
theorem d3y {β:Type} (call:Nat→List Value→M Value) (ops:List Oper):∀ (os:List Oper) (fr:List Value) (acc:List X4) (k:List Value→List X4→M β),
 M.bind (O4 p T call ops os fr) (fun y=>k y.1 (acc ++ y.2))=b1f p T call ops os fr acc k:=by
 intro os
 induction os with
 | nil=>
   intro fr acc k
   show M.bind (M.pure (fr, [])) _=k fr acc
   rw [V.e7R,List.append_nil]
 | cons o os ih=>
   intro fr acc k
   show M.bind (match M6 ops fr o with
    | true=>M.bind (M.foot (M7 p T call fr o.op)) fun x=>a0R x.1 fun v=>M.bind (O4 p T call ops os (G5 fr o v)) fun y=>M.pure (y.1,x.2::y.2)
    | false=>M.bind (O4 p T call ops os (G5 fr o undef)) fun y=>M.pure (y.1,([], [])::y.2)) _=M.bind (c5h p T call ops fr o) fun x=>b1f p T call ops os (G5 fr o x.1) (G7 acc [x.2]) k
   have key:∀ (v:Value) (F:X4),M.bind (M.bind (O4 p T call ops os (G5 fr o v)) fun y=>M.pure (y.1,F::y.2)) (fun y=>k y.1 (acc ++ y.2))=b1f p T call ops os (G5 fr o v) (G7 acc [F]) k:=by
    intro v F
    rw [N8, ← ih,I5]
    congr 1
    funext y
    rw [V.e7R]
    simp
   unfold c5h
   cases M6 ops fr o with
   | true=>
     rw [d9z]
     simp only
     rw [N8]
     congr 1
     funext x
     rw [a0V]
     exact key x.1 x.2
   | false=>
     rw [d9o,V.e7R]
     exact key undef ([], [])
theorem F6 (call:j4) (ops:List Oper) (n:Nat) (U:List Nat) (vs:List Value) (W:List Nat) :
 a5M p T call ops n U vs W=b1f p T (D7 call) ops ops (I6 U vs (O1 n)) [] fun fr F=>M.guard (E9 ops (H9 ops F) [] [] 0) (M.pure (.normal,J9 fr W)):=by
 rw [← d3y]
 rfl
end
def a5u (ops:List Oper) (pj:List Nat) (j:Nat) (y:Oper) (xs:List Oper):Nat→Option (List (Nat×Nat)):=
 List.rec (motive:=fun _=>Nat→Option (List (Nat×Nat))) (fun _=>some []) (fun x _ ih i=>match a0j i pj with
  | true=>ih (i+1)
  | false=>match Q5 (O9 x) (Q7 ops y) && Q5 (O9 x) (O9 y) && Q5 (O9 y) (Q7 ops x) with
    | true=>match ih (i+1) with
      | some L=>some ((i,j)::L)
      | none=>none
    | false=>none) xs
def b2s (ops:List Oper) (ys:List Oper):List Oper→List (List Nat)→Nat→Option (List (Nat×Nat)):=
 List.rec (motive:=fun _=>List Oper→List (List Nat)→Nat→Option (List (Nat×Nat))) (fun _ _ _=>some [])
  (fun y _ ih xs ps n=>match a0I n y.after.toList with
    | true=>match a5u ops (X6 (Z0 ps) y.after.toList) n y xs 0 with
      | some L=>match ih (G7 xs [y]) (G7 ps [X6 (Z0 ps) y.after.toList]) (n+1) with
        | some L'=>some (G7 L L')
        | none=>none
      | none=>none
    | false=>none) ys
def a1M (x y:X4):Bool:=Q5 x.2 y.1 && Q5 x.2 y.2 && Q5 y.2 x.1
def G9 (L:List (Nat×Nat)) (F:List X4):Bool:=L6 (fun ij=>match M8 F ij.1 with
 | some x=>match M8 F ij.2 with
   | some y=>a1M x y
   | none=>false
 | none=>false) L
theorem d2w {α β:Type}:∀ (l:List α) (m:List β),F4 m=F4 l→(H9 l m).map (·.1)=l∧(∀ (k:Nat) x,(H9 l m)[k]?=some x→m[k]?=some x.2):=by
 intro l
 induction l with
 | nil=>intro m _; exact ⟨rfl,fun k x h=>by simp [H9] at h⟩
 | cons a l ih=>
   intro m hm
   cases m with
   | nil=>simp [J2] at hm
   | cons b m=>
     obtain ⟨h1,h2⟩:=ih m (by simpa [J2] using hm)
     refine ⟨by show a::(H9 l m).map (·.1)=_; rw [h1],fun k x hx=>?_⟩
     cases k with
     | zero=>
       have:some (a,b)=some x:=hx
       cases this; rfl
     | succ k=>exact h2 k x hx
end Go.V
end
section
namespace Go.Proofs.YtmomonnlmbljoaaGreatDoor
open Go.V Go.Proofs
set_option maxRecDepth 100000
set_option linter.unusedVariables false
noncomputable def bn (op:BinOp) (t:TypeId) (x y:Operand) (a b:Value):M Value:=P7 Tryz.prog A9 op t x y a b
noncomputable def un (op:UnOp) (a:Value):M Value:=xUn Tryz.prog op a
noncomputable def mx (ts:Array TypeId) (vs:List Value):M Value:=e9L Tryz.prog ts vs
noncomputable def dr (call:j4) (ops:List Oper) (n:Nat) (U:List Nat) (vs:List Value) (W:List Nat):M (Xc×List Value):=a5M Tryz.prog A9 call ops n U vs W
end Go.Proofs.YtmomonnlmbljoaaGreatDoor
end
