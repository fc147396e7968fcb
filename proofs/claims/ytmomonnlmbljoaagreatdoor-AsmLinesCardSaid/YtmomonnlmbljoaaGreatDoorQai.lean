import Derived.Test.YtmomonnlmbljoaaGreatDoorQaf
import Derived.Test.YtmomonnlmbljoaaGreatDoorQag
import Derived.Test.YtmomonnlmbljoaaGreatDoorQah
section
namespace Go.V
open Go.RowKit (Below)
section
variable {p:Program} {T:Tab} {call:j5}
theorem Fr.condM {β:Type} (v:Value) {x y:M β} (hx:Fr x) (hy:Fr y):Fr (K3 v x y):=by
 cases v with
 | bool b=>cases b with
   | true=>exact hx
   | false=>exact hy
 | _=>exact Fr.fail
theorem Fr.crCase {β:Type} (r:CR) {kn kp:Value → M β} (h1:∀ v,Fr (kn v)) (h2:∀ v,Fr (kp v)):Fr (a3Y r kn kp):=by
 cases r with
 | ret v=>exact h1 v
 | pan v=>exact h2 v
theorem Fr.xcase {β:Type} (x:Xc) {a:M β} {b:Nat → M β} {c:M β} {d:Value → M β} (h1:Fr a) (h2:∀ i,Fr (b i)) (h3:Fr c) (h4:∀ v,Fr (d v)):Fr (M5 x a b c d):=by
 cases x with
 | normal=>exact h1
 | exit i=>exact h2 i
 | ret=>exact h3
 | pan v=>exact h4 v
theorem Fr.okCall (hc:∀ f vs,Fr (call f vs)) (f:Nat) (vs:List Value):Fr (a2g call f vs):=Fr.bind (hc f vs) fun r=>Fr.crCase r (fun _=>Fr.pure _) (fun _=>Fr.fail)
theorem Fr.noCall (f:Nat) (vs:List Value):Fr (b6H f vs):=Fr.fail
theorem c1O {β:Type} {fr:List Value} {o:Op} {kn kp:Value → M β} {s:S} {r:β × S} (h:a5W p T G8 call fr o kn kp s=some r) :
 (∃ v s1,a3E p T b6H fr o s=some (v,s1) ∧ kn v s1=some r) ∨
 (∃ c f ga cr s1,o=.call c ∧ c.callee=.value f ∧ a9X T fr f c.args.toList=some ga ∧ call ga.1 ga.2 s=some (cr,s1) ∧ a3Y cr kn kp s1=some r) ∨
 (∃ x v,o=.panic x ∧ a2H T fr x=some v ∧ a7r v=true ∧ kp v s=some r):=by
 have hs:∀ m:M Value,G8.bv β m kn s=some r → ∃ v s1,m s=some (v,s1) ∧ kn v s1=some r:=fun m q=>by
  obtain ⟨v,s1,q1,q2⟩:=M8 (s2:=r.2) (b:=r.1) (f:=kn) q
  exact ⟨v,s1,q1,q2⟩
 have ho:∀ x:Option Value,M.obind x kn s=some r → ∃ v s1,M.lift x s=some (v,s1) ∧ kn v s1=some r:=fun x q=>by
  cases x with
  | none=>cases q
  | some v=>exact ⟨v,s,rfl,q⟩
 cases o with
 | move x=>exact Or.inl (ho _ h)
 | assign x=>exact Or.inl (ho _ h)
 | call c=>
   obtain ⟨cal,args,ts⟩:=c
   cases cal with
   | value f=>
     obtain ⟨ga,q0,q⟩:=U4 (s2:=r.2) (b:=r.1) h
     obtain ⟨cr,s1,q1,q2⟩:=M8 (f:=fun r=>a3Y r kn kp) q
     exact Or.inr (Or.inl ⟨_,f,ga,cr,s1,rfl,rfl,q0,q1,q2⟩)
   | builtin b=>exact Or.inl (hs _ h)
   | invoke r m=>cases h
 | panic x=>
   obtain ⟨v,q0,q⟩:=U4 (s2:=r.2) (b:=r.1) h
   obtain ⟨q1,q2⟩:=R4 q
   exact Or.inr (Or.inr ⟨x,v,rfl,q0,q1,q2⟩)
 | _=>exact Or.inl (hs _ h)
theorem Fr.stepK {β:Type} (hc:∀ f vs,Fr (call f vs)) (fr:List Value) (o:Op) {kn kp:Value → M β} (h1:∀ v,Fr (kn v)) (h2:∀ v,Fr (kp v)):Fr (a5W p T G8 call fr o kn kp):=by
 have hs:∀ m:M Value,Fr m → Fr (G8.bv β m kn):=fun m hm=>Fr.bind hm h1
 cases o with
 | move x=>exact Fr.obind _ h1
 | assign x=>exact Fr.obind _ h1
 | call c=>
   obtain ⟨cal,args,ts⟩:=c
   cases cal with
   | value f=>exact Fr.obind _ fun ga=>Fr.bind (hc _ _) fun r=>Fr.crCase r h1 h2
   | builtin b=>exact hs _ (Fr.opBuiltin p T _ _ _ _)
   | invoke r m=>exact Fr.fail
 | panic x=>exact Fr.obind _ fun v=>Fr.guard _ (h2 v)
 | _=>exact hs _ (Fr.simpleOp p T _ _)
theorem Fr.runC (hc:∀ f vs,Fr (call f vs)) (ops os:List Oper):∀ fr,Fr (a6a p T call ops os fr):=by
 induction os with
 | nil=>intro fr; exact Fr.pure _
 | cons o os ih=>
   intro fr
   rw [a5Q]
   cases a3r ops fr o with
   | true=>exact Fr.stepK hc _ _ (fun v=>ih _) (fun v=>Fr.pure _)
   | false=>exact ih _
theorem Fr.regionC (hc:∀ f vs,Fr (call f vs)) (ops:List Oper) (draw:Bool) (fr:List Value):Fr (b1V p T call ops draw fr):=by
 cases draw with
 | false=>exact Fr.runC hc _ _ _
 | true=>
   show Fr (M.bind (V.a4y p T (V.a2g call) ops ops fr) fun y=>M.guard (a1b ops (a2I ops y.2) [] [] 0) <| M.pure (Xc.normal,y.1))
   exact Fr.bind (Fr.runD p T (Fr.okCall hc) _ _ _) fun _=>Fr.guard _ (Fr.pure _)
theorem Fr.loopN {σ:Type} {body:σ → M (Xc × σ)} (h:∀ x,Fr (body x)) (n:Nat):∀ x,Fr (a4d body n x):=by
 induction n with
 | zero=>intro x; exact Fr.fail
 | succ n ih=>intro x; rw [a4W]; exact Fr.bind (h x) fun r=>Fr.xcase r.1 (ih _) (fun _=>Fr.pure _) (Fr.pure _) (fun _=>Fr.pure _)
theorem Fr.execC (hc:∀ f vs,Fr (call f vs)) (N:Nat):∀ c fr,Fr (a2Q p T N call c fr):=by
 intro c
 induction c with
 | skip=>intro fr; exact Fr.pure _
 | region id ops draw=>intro fr; exact Fr.regionC hc _ _ _
 | seq a b iha ihb=>intro fr; exact Fr.bind (iha fr) fun r=>Fr.xcase r.1 (ihb _) (fun _=>Fr.pure _) (Fr.pure _) (fun _=>Fr.pure _)
 | cond x a b iha ihb=>intro fr; exact Fr.obind _ fun v=>Fr.condM v (iha fr) (ihb fr)
 | block id b ih=>intro fr; exact Fr.bind (ih fr) fun r=>Fr.pure _
 | loop b ih=>intro fr; exact Fr.loopN ih N fr
 | exit id=>intro fr; exact Fr.pure _
 | ret=>intro fr; exact Fr.pure _
 | _=>intro fr; exact Fr.fail
theorem Fr.resK {β:Type} (fr:List Value) (rs:List ResultVar):∀ {k:List Value → M β},(∀ vs,Fr (k vs)) → Fr (b0Y T G8 fr rs k):=by
 induction rs with
 | nil=>intro k h; exact h []
 | cons r rs ih=>
   intro k h
   cases r with
   | tmp t=>exact ih fun vs=>h _
   | cell a t=>exact Fr.asPtr _ fun ad=>Fr.bind (Fr.loadV T _ _) fun v=>ih fun vs=>h _
theorem Fr.finK (fn:Func) (ex:Xc) (fr:List Value):Fr (b8i T G8 fn ex fr):=
 Fr.xcase ex (Fr.resK _ _ fun _=>Fr.pure _) (fun _=>Fr.fail) (Fr.resK _ _ fun _=>Fr.pure _) (fun _=>Fr.pure _)
theorem Fr.enterC (hc:∀ f vs,Fr (call f vs)) (N:Nat) (fn:Func) (f:Nat) (args:List Value):Fr (a7a p T N call fn f args):=by
 unfold V.a7a
 split
 · exact Fr.bind (Fr.externV p _ _) fun _=>Fr.pure _
 · exact Fr.bind (Fr.execC hc N _ _) fun r=>Fr.finK _ _ _
theorem Fr.callC {ext:Nat → Option (List Value → M Value)} (he:∀ f g,ext f=some g → ∀ vs,Fr (g vs)) (N n:Nat):∀ f vs,Fr (b3z p T ext N n f vs):=by
 induction n with
 | zero=>intro f vs; exact Fr.fail
 | succ n ih=>
   intro f vs
   show Fr (match ext f with
    | some g=>M.bind (g vs) fun v=>M.pure (CR.ret v)
    | none=>M.obind (T.funcs.get f) fun fn=>V.a7a p T N (V.b3z p T ext N n) fn f vs)
   cases hx:ext f with
   | some g=>exact Fr.bind (he f g hx vs) fun _=>Fr.pure _
   | none=>exact Fr.obind _ fun fn=>Fr.enterC ih N fn f vs
end
section
variable {P:Program} {T:Tab} {B0:Nat} {w0:Base} {w:World} {K:KM} {s s':S} {a:Act} {fr:List Value} {v:Value} {call:j5}
def c4e (v:Value):List PanicEntry:=[{ v:=v,recovered:=false }]
def d1Y (B0:Nat) (w0:Base) (K:KM) (s':S) (r:CR) (e:Ending) (w':World):Prop:=match r with
 | .ret v=>∃ v' K',e=.returned v' ∧ Step B0 w0 K s' w' K' ∧ VR K' v' v
 | .pan v=>∃ v' K',e=.panicked (c4e v') ∧ Step B0 w0 K s' w' K' ∧ VR K' v' v
def a8b (P:Program) (T:Tab) (B0:Nat) (w0:Base) (call:j5):Prop:=
 ∀ f vs s r s' w K vs',call f vs s=some (r,s') → Sim B0 w0 K s.h w → GK T K → a2S K s s' → VRL K vs' vs →
   (∃ v v' w' K',r=.ret v ∧ (callFunc f vs'.toArray).run P w=.ok (.value v') w' ∧ Step B0 w0 K s' w' K' ∧ VR K' v' v) ∨
   ((callFunc f vs'.toArray).run P w=.ok (.enter f vs'.toArray) w ∧ Calls P f vs'.toArray w (d1Y B0 w0 K s' r))
theorem c0g (hC:a8b P T B0 w0 call):a5Z P T B0 w0 (a2g call):=by
 intro f vs s v s' w K vs' h S hg F hv
 obtain ⟨r,s1,h1,h2⟩:=M8 h
 cases r with
 | pan u=>cases h2
 | ret u=>
   obtain ⟨rfl,rfl⟩:=J3 h2
   rcases hC f vs s _ _ w K vs' h1 S hg F hv with ⟨x,v',w',K',e,q1,q2,q3⟩ | ⟨q1,q2⟩
   · cases e; exact Or.inl ⟨v',w',K',q1,q2,q3⟩
   · exact Or.inr ⟨q1,q2⟩
theorem b9U:a5Z P T B0 w0 b6H:=fun _ _ _ _ _ _ _ _ h=>by cases h
def exC (K':KM):Xc → Exit → Prop
 | .normal,e=>e=.normal
 | .exit id,e=>e=.exit id
 | .ret,e=>e=.ret
 | .pan v,e=>∃ v',e=.panic (c4e v') ∧ VR K' v' v
def a7E (B0:Nat) (w0:Base) (K:KM) (s':S) (ds:List Deferred) (ex:Xc) (fr':List Value):Exit → Act → World → Prop:=fun e a' w'=>
 ∃ K',Step B0 w0 K s' w' K' ∧ VRL K' a'.tmps.toList fr' ∧ a'.defers=ds ∧ exC K' ex e
theorem a7E.from {s1:S} {w1:World} {K1:KM} {ds:List Deferred} {ex:Xc} {fr':List Value} {e:Exit} {a':Act} {w':World}
 (h1:Step B0 w0 K s1 w1 K1) (hc:s1.c ≤ s'.c) (h:a7E B0 w0 K1 s' ds ex fr' e a' w'):a7E B0 w0 K s' ds ex fr' e a' w':=by
 obtain ⟨K',st,r,d,q⟩:=h
 exact ⟨K',h1.trans st hc,r,d,q⟩
theorem b8y {f:Operand} {args:List Operand} {ga:Nat × List Value} (h:a9X T fr f args=some ga) :
 ∃ first captured vs,a2H T fr f=some (.func (.func ga.1) first captured) ∧ a3i T fr args=some vs ∧ ga.2=first.toList ++ (vs ++ captured.toList):=by
 unfold a9X at h
 cases h1:a2H T fr f with
 | none=>rw [h1] at h; cases h
 | some v=>
   rw [h1] at h
   cases h2:a3i T fr args with
   | none=>rw [h2] at h; cases h
   | some vs=>
     rw [h2] at h
     cases v with
     | func fn first captured=>cases fn with
       | func g=>cases h; exact ⟨first,captured,vs,rfl,rfl,by simp only [M7]⟩
       | _=>cases h
     | _=>cases h
theorem c3b (hT:TabOk P T) (hC:a8b P T B0 w0 call) (hF:∀ f vs,Fr (call f vs)) {β:Type} {o:Oper} {kn kp:Value → M β} {r:β × S} (h:a5W P T G8 call fr o.op kn kp s=some r) (S:Sim B0 w0 K s.h w)
 (F:∀ s1,s1.c ≤ r.2.c → a2S K s s1) (hkn:∀ v,Fr (kn v)) (hkp:∀ v,Fr (kp v)) (hf:VRL K a.tmps.toList fr) (hg:GK T K) {next:Act → World → Prop} {Q:Exit → Act → World → Prop}
 (hn:∀ v s1 v' w' K',kn v s1=some r → Step B0 w0 K s1 w' K' → (∀ K2,a2S K2 s1 r.2) → s1.c ≤ r.2.c → VR K' v' v → next (a.put o.dst v') w')
 (hp:∀ v s1 v' w' K',kp v s1=some r → Step B0 w0 K s1 w' K' → (∀ K2,a2S K2 s1 r.2) → s1.c ≤ r.2.c → VR K' v' v → Q (.panic (c4e v')) a w'):o.wp P a w next Q:=by
 have Fall:∀ s1,s1.c ≤ r.2.c → a2S K s s1:=F
 rcases c1O h with ⟨v,s1,h1,h2⟩ | ⟨c,f,ga,cr,s1,e1,e2,e3,e4,e5⟩ | ⟨x,v,e1,e2,e3,e4⟩
 · have hle:=(hkn v).le h2
   refine a9c hT b9U h1 S (Fall _ hle) hf hg fun v' w' K' st rr=>?_
   exact hn v s1 v' w' K' h2 st (fun K2=>a2S.right (F _ (Nat.le_refl _)) (Fr.stepOp P T Fr.noCall _ _) h1) hle rr
 · have hfr:Fr (a3Y cr kn kp):=Fr.crCase cr hkn hkp
   have hle:=hfr.le e5
   have hfree:∀ K2,a2S K2 s1 r.2:=fun K2=>a2S.right (F _ (Nat.le_refl _)) (hF _ _) e4
   obtain ⟨first,captured,vs,q1,q2,q3⟩:=b8y e3
   have rf:=a0C hf hg q1
   have rs:=a6E hf hg q2
   obtain ⟨f1,c1,ef,rf1,rc1⟩:=b3P rf
   have rargs:VRL K (f1.toList ++ (c.args.toList.map a.eval ++ c1.toList)) ga.2:=by rw [q3]; exact rf1.append (rs.append rc1)
   have e:execOp a.eval o=callFunc ga.1 (f1.toList ++ (c.args.toList.map a.eval ++ c1.toList)).toArray:=by
    unfold execOp
    rw [e1]
    show (do let d ← resolve a.eval c o.type; invoke d.target d.args)=_
    unfold resolve
    rw [e2]
    show (do let d ← Deferred.ofValue (a.eval f) (c.args.map a.eval); invoke d.target d.args)=_
    rw [ef]
    show callFunc ga.1 (f1 ++ c.args.map a.eval ++ c1)=_
    congr 1
    apply Array.ext'
    simp
   unfold Oper.wp
   rw [e]
   rcases hC ga.1 ga.2 s cr s1 w K _ e4 S hg (Fall _ hle) rargs with ⟨u,v',w',K',r1,r2,r3,r4⟩ | ⟨r1,r2⟩
   · subst r1
     rw [r2]
     exact hn u s1 v' w' K' e5 r3 hfree hle r4
   · rw [r1]
     refine r2.mono fun en w' hq=>?_
     cases cr with
     | ret u=>
       obtain ⟨v',K',rfl,t1,t2⟩:=hq
       exact hn u s1 v' w' K' e5 t1 hfree hle t2
     | pan u=>
       obtain ⟨v',K',rfl,t1,t2⟩:=hq
       exact hp u s1 v' w' K' e5 t1 hfree hle t2
 · have rx:=a0C hf hg e2
   have hv:∃ t y y',v=.iface t y ∧ a.eval x=.iface t y':=by
    cases v with
    | iface t y=>
      generalize hz:Value.iface t y=z at rx
      generalize hu:a.eval x=u at rx
      cases rx with
      | plain hpl=>subst hz; simp [V.plain] at hpl
      | iface q=>cases hz; exact ⟨_,_,_,rfl,rfl⟩
      | _=>cases hz
    | _=>cases e3
   obtain ⟨t,y,y',rfl,ey⟩:=hv
   unfold Oper.wp
   have e:(execOp a.eval o).run P w=.halt (.panic (.iface t y')) w:=by
    unfold execOp
    rw [e1]
    show (do let v ← Instr.panic (a.eval x); pure (Next.value v):Sem Next).run P w=_
    rw [ey]
    rfl
   rw [e]
   rw [ey] at rx
   exact hp _ s _ w K e4 (Step.same S rfl) (fun K2=>fun i hi hi2=>F _ (Nat.le_refl _) i hi hi2) ((hkp _).le e4) rx
theorem c6o (hT:TabOk P T) (hC:a8b P T B0 w0 call) (hF:∀ f vs,Fr (call f vs)) (ops:Array Oper) {Q:Exit → Act → World → Prop} :
 ∀ (n k:Nat) (fr:List Value) (x:Xc × List Value) (s s':S) (K:KM) (a:Act) (w:World),k + n=ops.size → a6a P T call ops.toList (ops.toList.drop k) fr s=some (x,s') → Sim B0 w0 K s.h w → a2S K s s' → VRL K a.tmps.toList fr → GK T K →
   (∀ e a' w',a7E B0 w0 K s' a.defers x.1 x.2 e a' w' → Q e a' w') → wpOps P ops Q (List.range' k n) a w:=by
 intro n
 induction n with
 | zero=>
   intro k fr x s s' K a w hk h S F hf hg hq
   have:ops.toList.drop k=[]:=List.drop_eq_nil_of_le (by simp; omega)
   rw [this] at h
   obtain ⟨rfl,rfl⟩:=J3 h
   exact hq _ a w ⟨K,Step.same S rfl,hf,rfl,rfl⟩
 | succ n ih=>
   intro k fr x s s' K a w hk h S F hf hg hq
   have hlt:k < ops.size:=by omega
   have hd:ops.toList.drop k=ops[k] :: ops.toList.drop (k + 1):=by
    rw [List.drop_eq_getElem_cons (by simpa using hlt)]; simp
   rw [hd,a5Q] at h
   rw [List.range'_succ]
   simp only [wpOps,Array.getElem?_eq_getElem hlt]
   rw [a8G ops a.tmps hf]
   cases hw:a3r ops.toList fr ops[k] with
   | true=>
     rw [hw] at h
     simp only [if_true] at h ⊢
     left
     refine c3b hT hC hF h S (fun s1 h1=>F.left h1) (fun v=>Fr.runC hF _ _ _) (fun v=>Fr.pure _) hf hg (fun v s1 v' w' K' h2 st fre hle r=>?_) (fun v s1 v' w' K' h2 st fre hle r=>?_)
     · refine ih (k + 1) _ x s1 s' K' _ w' (by omega) h2 st.sim (fre K') (a7W (hf.mono st.le) _ r) (hg.mono st.le) fun e a2 w2 L=>?_
       rw [a4D] at L
       exact hq e a2 w2 (a7E.from st hle L)
     · obtain ⟨rfl,rfl⟩:=J3 h2
       exact hq _ a w' ⟨K',st,hf.mono st.le,rfl,v',rfl,r⟩
   | false=>
     rw [hw] at h
     simp only [Bool.false_eq_true,if_false] at h ⊢
     refine ih (k + 1) _ x s s' K _ w (by omega) h S F (a7W hf _ (VR.undef K)) hg fun e a2 w2 L=>?_
     rw [a4D] at L
     exact hq e a2 w2 L
theorem a7E.cases {K:KM} {ds:List Deferred} {x:Xc} {fr':List Value} {e:Exit} {a':Act} {w':World} (hx:x ≠ .normal) (h:a7E B0 w0 K s' ds x fr' e a' w'):e ≠ .normal:=by
 obtain ⟨K',_,_,_,q⟩:=h
 cases x with
 | normal=>exact absurd rfl hx
 | exit id=>intro e'; subst e'; cases q
 | ret=>intro e'; subst e'; cases q
 | pan v=>obtain ⟨v',rfl,_⟩:=q; intro e'; cases e'
theorem b3l {next:Act → World → Prop} {Q:Exit → Act → World → Prop} {e:Exit} {a:Act} {w:World} (he:e ≠ .normal) (h:Q e a w):Exit.then next Q e a w:=by
 cases e with
 | normal=>exact absurd rfl he
 | _=>exact h
theorem c1D (hT:TabOk P T) (hM:P.follows .mixedOrders=true) (hC:a8b P T B0 w0 call) (hF:∀ f vs,Fr (call f vs)) (N:Nat) :
 ∀ c fr s x s' K a w Q,a2Q P T N call c fr s=some (x,s') → Sim B0 w0 K s.h w → a2S K s s' → VRL K a.tmps.toList fr → GK T K →
   (∀ e a' w',a7E B0 w0 K s' a.defers x.1 x.2 e a' w' → Q e a' w') → c.wp P Q a w:=by
 have hFe:∀ c fr,Fr (a2Q P T N call c fr):=Fr.execC hF N
 intro c
 induction c with
 | skip=>
   intro fr s x s' K a w Q h S F hf hg hq
   obtain ⟨rfl,rfl⟩:=J3 h
   exact wp_skip (hq _ _ _ ⟨K,Step.same S rfl,hf,rfl,rfl⟩)
 | region id ops draw=>
   intro fr s x s' K a w Q h S F hf hg hq
   cases draw with
   | false=>
     have h:a6a P T call ops.toList ops.toList fr s=some (x,s'):=h
     refine wp_region ?_
     rw [List.range_eq_range']
     exact c6o hT hC hF ops ops.size 0 fr x s s' K a w (by simp) (by simpa using h) S F hf hg hq
   | true=>
     have h:M.bind (a4y P T (a2g call) ops.toList ops.toList fr) (fun y=>M.guard (a1b ops.toList (a2I ops.toList y.2) [] [] 0) <| M.pure (Xc.normal,y.1)) s=some (x,s'):=h
     obtain ⟨⟨fr1,feet⟩,s1,h1,h2⟩:=M8 h
     obtain ⟨hok,h3⟩:=R4 h2
     obtain ⟨rfl,rfl⟩:=J3 h3
     exact b2i hT hM (c0g hC) (Fr.okCall hF) ops h1 hok S F hf hg fun a' w' K' st r d=>hq _ _ _ ⟨K',st,r,d,rfl⟩
 | seq c1 c2 ih1 ih2=>
   intro fr s x s' K a w Q h S F hf hg hq
   have h:M.bind (a2Q P T N call c1 fr) (fun r=>M5 r.1 (a2Q P T N call c2 r.2) (fun id=>M.pure (.exit id,r.2)) (M.pure (.ret,r.2)) (fun v=>M.pure (.pan v,r.2))) s=some (x,s'):=h
   obtain ⟨⟨x1,fr1⟩,s1,h2,h3⟩:=M8 h
   refine wp_seq ?_
   by_cases hx:x1=.normal
   · subst hx
     have h3:a2Q P T N call c2 fr1 s1=some (x,s'):=h3
     have hle:=(hFe _ _).le h3
     refine ih1 fr s (.normal,fr1) s1 K a w _ h2 S (F.left hle) hf hg fun e a' w' L=>?_
     obtain ⟨K1,st,r1,d1,e1⟩:=L
     have e1:e=.normal:=e1
     subst e1
     exact ih2 fr1 s1 x s' K1 a' w' Q h3 st.sim (F.right (hFe _ _) h2) r1 (hg.mono st.le) fun e a2 w2 L=>hq e a2 w2 (a7E.from st hle (d1 ▸ L))
   · have h4:M.pure (x1,fr1) s1=some (x,s'):=by
      cases x1 with
      | normal=>exact absurd rfl hx
      | _=>exact h3
     obtain ⟨rfl,rfl⟩:=J3 h4
     refine ih1 fr s _ _ K a w _ h2 S F hf hg fun e a' w' L=>?_
     exact b3l (L.cases hx) (hq _ _ _ L)
 | cond o c1 c2 ih1 ih2=>
   intro fr s x s' K a w Q h S F hf hg hq
   obtain ⟨u,e1,h1⟩:=U4 h
   have r:=a0C hf hg e1
   rcases b4T h1 with ⟨rfl,h2⟩ | ⟨rfl,h2⟩
   · exact wp_cond_true (b1z r) (ih1 fr s x s' K a w Q h2 S F hf hg hq)
   · exact wp_cond_false (b1z r) (ih2 fr s x s' K a w Q h2 S F hf hg hq)
 | block id b ih=>
   intro fr s x s' K a w Q h S F hf hg hq
   obtain ⟨⟨x1,fr1⟩,s1,h2,h3⟩:=M8 h
   obtain ⟨rfl,rfl⟩:=J3 h3
   refine wp_block ?_
   refine ih fr s _ _ K a w _ h2 S F hf hg fun e a' w' L=>?_
   obtain ⟨K1,st,r1,d1,e1⟩:=L
   cases x1 with
   | normal=>
     have e1:e=.normal:=e1
     subst e1
     exact hq _ _ _ ⟨K1,st,r1,d1,rfl⟩
   | exit id'=>
     have e1:e=.exit id':=e1
     subst e1
     show (if id'=id then Q .normal a' w' else Q (.exit id') a' w')
     cases hb:Nat.beq id' id with
     | true=>
       rw [if_pos (Nat.eq_of_beq_eq_true hb)]
       refine hq _ _ _ ⟨K1,st,r1,d1, ?_⟩
       show exC K1 (a6i id (.exit id')) .normal
       unfold a6i; simp only [hb]; rfl
     | false=>
       rw [if_neg (fun q=>by subst q; simp at hb)]
       refine hq _ _ _ ⟨K1,st,r1,d1, ?_⟩
       show exC K1 (a6i id (.exit id')) (.exit id')
       unfold a6i; simp only [hb]; rfl
   | ret=>
     have e1:e=.ret:=e1
     subst e1
     exact hq _ _ _ ⟨K1,st,r1,d1,rfl⟩
   | pan v=>
     obtain ⟨v',rfl,q⟩:=e1
     exact hq _ _ _ ⟨K1,st,r1,d1,v',rfl,q⟩
 | loop b ih=>
   intro fr s x s' K a w Q h S F hf hg hq
   have h:a4d (a2Q P T N call b) N fr s=some (x,s'):=h
   refine wp_loop_rounds N ?_
   have hFl:∀ n fr,Fr (a4d (a2Q P T N call b) n fr):=fun n=>Fr.loopN (hFe b) n
   have key:∀ n fr s K a w,a4d (a2Q P T N call b) n fr s=some (x,s') → Sim B0 w0 K s.h w → a2S K s s' → VRL K a.tmps.toList fr → GK T K → (∀ e a' w',a7E B0 w0 K s' a.defers x.1 x.2 e a' w' → Q e a' w') → Code.rounds P b Q n a w:=by
    intro n
    induction n with
    | zero=>intro fr s K a w h; cases h
    | succ n ihn=>
      intro fr s K a w h S F hf hg hq
      rw [a4W] at h
      obtain ⟨⟨x1,fr1⟩,s1,h2,h3⟩:=M8 h
      show b.wp P (Exit.then (Code.rounds P b Q n) Q) a w
      by_cases hx:x1=.normal
      · subst hx
        have h3:a4d (a2Q P T N call b) n fr1 s1=some (x,s'):=h3
        have hle:=(hFl _ _).le h3
        refine ih fr s (.normal,fr1) s1 K a w _ h2 S (F.left hle) hf hg fun e a' w' L=>?_
        obtain ⟨K1,st,r1,d1,e1⟩:=L
        have e1:e=.normal:=e1
        subst e1
        exact ihn fr1 s1 K1 a' w' h3 st.sim (F.right (hFe _ _) h2) r1 (hg.mono st.le) fun e a2 w2 L=>hq e a2 w2 (a7E.from st hle (d1 ▸ L))
      · have h4:M.pure (x1,fr1) s1=some (x,s'):=by
         cases x1 with
         | normal=>exact absurd rfl hx
         | _=>exact h3
        obtain ⟨rfl,rfl⟩:=J3 h4
        refine ih fr s _ _ K a w _ h2 S F hf hg fun e a' w' L=>?_
        exact b3l (L.cases hx) (hq _ _ _ L)
   exact key N fr s K a w h S F hf hg hq
 | exit id=>
   intro fr s x s' K a w Q h S F hf hg hq
   obtain ⟨rfl,rfl⟩:=J3 h
   exact wp_exit (hq _ _ _ ⟨K,Step.same S rfl,hf,rfl,rfl⟩)
 | ret=>
   intro fr s x s' K a w Q h S F hf hg hq
   obtain ⟨rfl,rfl⟩:=J3 h
   exact wp_ret (hq _ _ _ ⟨K,Step.same S rfl,hf,rfl,rfl⟩)
 | _=>intro fr s x s' K a w Q h; cases h
theorem c5X {β:Type} (fr:List Value) (rs:List ResultVar):∀ (k:List Value → M β),b0Y T G8 fr rs k=M.bind (a5E T fr rs) k:=by
 induction rs with
 | nil=>intro k; rfl
 | cons r rs ih=>
   intro k
   cases r with
   | tmp t=>
     show b0Y T G8 fr rs (fun vs=>k (d9 fr t :: vs))=M.bind (M.bind (a5E T fr rs) fun vs=>M.pure (d9 fr t :: vs)) k
     rw [a4f,ih]; rfl
   | cell ad t=>
     show a5e (d9 fr ad) (fun ad=>M.bind (a8k T t ad) fun v=>b0Y T G8 fr rs fun vs=>k (v :: vs))=M.bind (a5e (d9 fr ad) fun ad=>M.bind (a8k T t ad) fun v=>M.bind (a5E T fr rs) fun vs=>M.pure (v :: vs)) k
     cases d9 fr ad with
     | pointer o=>cases o with
       | none=>rfl
       | some ad=>
         show M.bind (a8k T t ad) (fun v=>b0Y T G8 fr rs fun vs=>k (v :: vs))=M.bind (M.bind (a8k T t ad) fun v=>M.bind (a5E T fr rs) fun vs=>M.pure (v :: vs)) k
         rw [a4f]; congr 1; funext v; rw [ih,a4f]; rfl
     | _=>rfl
theorem c3s {fn:Func} {ex:Xc} {r:CR} (h:b8i T G8 fn ex fr s=some (r,s')) :
 ((ex=.normal ∨ ex=.ret) ∧ ∃ v,r=.ret v ∧ b0a T fn (.ret,fr) s=some (v,s')) ∨ ∃ v,ex=.pan v ∧ r=.pan v ∧ s'=s:=by
 have key:b0Y T G8 fr fn.results.toList (fun vs=>M.pure (CR.ret (b2z vs))) s=some (r,s') → ∃ v,r=.ret v ∧ b0a T fn (.ret,fr) s=some (v,s'):=by
  intro h
  rw [c5X] at h
  obtain ⟨vs,s1,h1,h2⟩:=M8 h
  obtain ⟨rfl,rfl⟩:=J3 h2
  refine ⟨b2z vs,rfl, ?_⟩
  show M.bind (a5E T fr fn.results.toList) (fun vs=>M.pure (b2z vs)) s=_
  exact a3o h1 rfl
 cases ex with
 | normal=>exact Or.inl ⟨Or.inl rfl,key h⟩
 | exit id=>cases h
 | ret=>exact Or.inl ⟨Or.inr rfl,key h⟩
 | pan v=>obtain ⟨rfl,rfl⟩:=J3 h; exact Or.inr ⟨v,rfl,rfl,rfl⟩
theorem c1I (hT:TabOk P T) (hM:P.follows .mixedOrders=true) {ext:Nat → Option (List Value → M Value)} (hE:b5t P T B0 w0 ext) (N n:Nat):a8b P T B0 w0 (b3z P T ext N n):=by
 induction n with
 | zero=>intro f vs s r s' w K vs' h; cases h
 | succ n ih=>
   intro f vs s r s' w K vs' h S hg F hvs
   have h0:(match ext f with | some g=>M.bind (g vs) fun v=>M.pure (CR.ret v) | none=>M.obind (T.funcs.get f) fun fn=>a7a P T N (b3z P T ext N n) fn f vs) s=some (r,s'):=h
   have hFc:=Fr.callC (p:=P) (T:=T) hE.1 N n
   cases hx:ext f with
   | some g=>
     rw [hx] at h0
     obtain ⟨v,s1,h1,h2⟩:=M8 h0
     obtain ⟨rfl,rfl⟩:=J3 h2
     rcases hE.2 f g hx vs s v _ w K vs' h1 S hg F hvs with ⟨v',w',K',q1,q2,q3⟩ | ⟨q1,q2⟩
     · exact Or.inl ⟨v,v',w',K',rfl,q1,q2,q3⟩
     · exact Or.inr ⟨q1,q2⟩
   | none=>
     rw [hx] at h0
     obtain ⟨fn,hfn,h1⟩:=U4 h0
     obtain ⟨hPf,hnum⟩:=hT.funcs f fn hfn
     unfold a7a at h1
     cases hb:fn.body with
     | none=>
       rw [hb] at h1
       obtain ⟨v,s1,h2,h3⟩:=M8 h1
       obtain ⟨rfl,rfl⟩:=J3 h3
       have h4:a7l P T (fun _=>none) 1 f vs s=some (v,s'):=by
        show M.obind (T.funcs.get f) (fun fn=>enter P T (a7l P T (fun _=>none) 0) 0 fn f vs) s=_
        rw [hfn]
        show enter P T (a7l P T (fun _=>none) 0) 0 fn f vs s=_
        unfold enter
        rw [hb]
        exact h2
       rcases b1l hT hM (ext:=fun _=>none) (B0:=B0) (w0:=w0) ⟨fun _ _ q=>(by cases q),fun _ _ q=>(by cases q)⟩ 1 f vs s v s' w K vs' h4 S hg F hvs with ⟨v',w',K',q1,q2,q3⟩ | ⟨q1,q2⟩
       · exact Or.inl ⟨v,v',w',K',rfl,q1,q2,q3⟩
       · exact Or.inr ⟨q1,q2⟩
     | some c=>
       right
       rw [hb] at h1
       obtain ⟨⟨ex,fr1⟩,s1,h2,h3⟩:=M8 h1
       have hle:s1.c ≤ s'.c:=(Fr.finK fn ex fr1).le h3
       refine ⟨?_, ?_⟩
       · unfold callFunc
         simp [hPf,hb]
         simpa using hnum
       · refine calls_of_wp hPf hb ?_
         rw [M7,a0m,b1n] at h2
         refine c1D hT hM ih hFc N c _ s (ex,fr1) s1 K _ w _ h2 S (F.left hle) ?_ hg fun e a' w' L=>?_
         · show VRL K (vs'.toArray ++ Array.replicate (fn.ntmps - vs'.toArray.size) undef).toList (vs ++ List.replicate (fn.ntmps - vs.length) undef)
           simp only [Array.toList_append,Array.toList_replicate,List.size_toArray,hvs.len]
           exact hvs.append (VRL.replicate _)
         · obtain ⟨K1,st,r1,d1,e1⟩:=L
           rcases c3s h3 with ⟨hex,v,rfl,hfin⟩ | ⟨v,hex,rfl,rfl⟩
           · obtain ⟨f1,f2,f3,v',f4,f5⟩:=b2Q hT hfin r1 st.sim
             have st2:Step B0 w0 K s' w' K1:=⟨st.le,fun i g hi=>st.far i g (by omega),by rw [f2]; exact st.sim⟩
             rcases hex with rfl | rfl
             · have e1:e=.normal:=e1
               subst e1
               exact ⟨d1,v',f4,v',K1,rfl,st2,f5⟩
             · have e1:e=.ret:=e1
               subst e1
               exact ⟨d1,v',f4,v',K1,rfl,st2,f5⟩
           · subst hex
             obtain ⟨v',rfl,q⟩:=e1
             exact ⟨d1,v',K1,rfl,st,q⟩
theorem Le.foot {α:Type} {m m':M α} (h:Le m m'):Le (M.foot m) (M.foot m'):=fun s r e=>by
 unfold M.foot at e ⊢
 cases hm:m ⟨s.c,s.h, [], []⟩ with
 | none=>rw [hm] at e; cases e
 | some x=>rw [hm] at e; rw [h _ _ hm]; exact e
theorem Le.xcase {β:Type} {x:Xc} {a a':M β} {b b':Nat → M β} {c c':M β} {d d':Value → M β} (h1:Le a a') (h2:∀ i,Le (b i) (b' i)) (h3:Le c c') (h4:∀ v,Le (d v) (d' v)):Le (M5 x a b c d) (M5 x a' b' c' d'):=
 a7p (fun _=>h1) (fun i _=>h2 i) (fun _=>h3) (fun v _=>h4 v)
section
variable {c c':j5} (hc:∀ f vs,Le (c f vs) (c' f vs))
include hc
theorem b8F (f:Nat) (vs:List Value):Le (a2g c f vs) (a2g c' f vs):=Le.bind (hc f vs) fun _=>Le.refl _
theorem c0z {β:Type} (fr:List Value) (o:Op) {kn kp kn' kp':Value → M β} (h1:∀ v,Le (kn v) (kn' v)) (h2:∀ v,Le (kp v) (kp' v)):Le (a5W P T G8 c fr o kn kp) (a5W P T G8 c' fr o kn' kp'):=by
 have hs:∀ m:M Value,Le (G8.bv β m kn) (G8.bv β m kn'):=fun m=>Le.bind (Le.refl _) h1
 cases o with
 | move x=>exact Le.obind fun v _=>h1 v
 | assign x=>exact Le.obind fun v _=>h1 v
 | call cl=>
   obtain ⟨cal,args,ts⟩:=cl
   cases cal with
   | value f=>
     refine Le.obind fun ga _=>?_
     show Le (M.bind (c ga.1 ga.2) fun r=>a3Y r kn kp) (M.bind (c' ga.1 ga.2) fun r=>a3Y r kn' kp')
     refine Le.bind (hc _ _) fun r=>?_
     cases r with
     | ret v=>exact h1 v
     | pan v=>exact h2 v
   | builtin b=>exact hs _
   | invoke r m=>exact Le.fail _
 | panic x=>
   refine Le.obind fun v _=>?_
   cases a7r v with
   | true=>exact h2 v
   | false=>exact Le.fail _
 | _=>exact hs _
theorem c1P (ops os:List Oper):∀ fr,Le (a6a P T c ops os fr) (a6a P T c' ops os fr):=by
 induction os with
 | nil=>intro fr; exact Le.refl _
 | cons o os ih=>
   intro fr
   rw [a5Q,a5Q]
   cases a3r ops fr o with
   | true=>exact c0z hc _ _ (fun v=>ih _) (fun v=>Le.refl _)
   | false=>exact ih _
theorem b9c (fr:List Value) (o:Op):Le (a3E P T (a2g c) fr o) (a3E P T (a2g c') fr o):=by
 unfold a3E
 cases a9W o with
 | none=>exact Le.refl _
 | some cl=>
   obtain ⟨cal,args,ts⟩:=cl
   cases cal with
   | value f=>
     show Le (a8T T fr f args.toList (a2g c)) (a8T T fr f args.toList (a2g c'))
     unfold a8T ev evs
     refine Le.obind fun v _=>Le.obind fun vs _=>?_
     cases v with
     | func fn first captured=>cases fn with
       | func g=>exact b8F hc _ _
       | _=>exact Le.fail _
     | _=>exact Le.fail _
   | builtin b=>exact Le.refl _
   | invoke r m=>exact Le.fail _
theorem c1W (ops os:List Oper):∀ fr,Le (a4y P T (a2g c) ops os fr) (a4y P T (a2g c') ops os fr):=by
 induction os with
 | nil=>intro fr; exact Le.refl _
 | cons o os ih=>
   intro fr
   rw [a6O,a6O]
   split
   · exact Le.bind (Le.foot (b9c hc _ _)) fun x=>Le.bind (ih _) fun _=>Le.refl _
   · exact Le.bind (ih _) fun _=>Le.refl _
theorem c0U (N:Nat):∀ k fr,Le (a2Q P T N c k fr) (a2Q P T N c' k fr):=by
 intro k
 induction k with
 | region id ops draw=>
   intro fr
   cases draw with
   | false=>exact c1P hc _ _ _
   | true=>
     show Le (M.bind (a4y P T (a2g c) ops.toList ops.toList fr) fun y=>M.guard (a1b ops.toList (a2I ops.toList y.2) [] [] 0) <| M.pure (Xc.normal,y.1)) (M.bind (a4y P T (a2g c') ops.toList ops.toList fr) fun y=>M.guard (a1b ops.toList (a2I ops.toList y.2) [] [] 0) <| M.pure (Xc.normal,y.1))
     exact Le.bind (c1W hc _ _ _) fun _=>Le.refl _
 | seq a b iha ihb=>intro fr; exact Le.bind (iha fr) fun r=>Le.xcase (ihb _) (fun _=>Le.refl _) (Le.refl _) (fun _=>Le.refl _)
 | cond x a b iha ihb=>
   intro fr
   refine Le.obind fun v _=>?_
   cases v with
   | bool t=>cases t with
     | true=>exact iha fr
     | false=>exact ihb fr
   | _=>exact Le.fail _
 | block id b ih=>intro fr; exact Le.bind (ih fr) fun r=>Le.refl _
 | loop b ih=>
   intro fr
   have key:∀ n fr,Le (a4d (a2Q P T N c b) n fr) (a4d (a2Q P T N c' b) n fr):=by
    intro n
    induction n with
    | zero=>intro fr; exact Le.fail _
    | succ n ihn=>intro fr; rw [a4W,a4W]; exact Le.bind (ih fr) fun r=>Le.xcase (ihn _) (fun _=>Le.refl _) (Le.refl _) (fun _=>Le.refl _)
   exact key N fr
 | _=>intro fr; exact Le.refl _
theorem b8B (N:Nat) (fn:Func) (f:Nat) (args:List Value):Le (a7a P T N c fn f args) (a7a P T N c' fn f args):=by
 unfold a7a
 cases fn.body with
 | none=>exact Le.refl _
 | some k=>exact Le.bind (c0U hc N k _) fun _=>Le.refl _
end
noncomputable def atF (P:Program) (T:Tab) (ext:Nat → Option (List Value → M Value)) (N:Nat) (f:Nat) (call:j5) (args:List Value):M CR:=match ext f with
 | some g=>M.bind (g args) fun v=>M.pure (CR.ret v)
 | none=>M.obind (T.funcs.get f) fun fn=>a7a P T N call fn f args
def a7O (P:Program) (T:Tab) (ext:Nat → Option (List Value → M Value)) (N:Nat) (sh:a2i):Prop:=∀ f g,sh.get f=some g → ∀ call args,Le (g call args) (atF P T ext N f call args)
theorem c3H {ext:Nat → Option (List Value → M Value)} {N:Nat} {sh:a2i} (h:a7O P T ext N sh) (n:Nat):∀ f vs,Le (J9 sh n f vs) (b3z P T ext N n f vs):=by
 induction n with
 | zero=>intro f vs; exact Le.fail _
 | succ n ih=>
   intro f vs
   show Le (M.obind (sh.get f) fun g=>g (J9 sh n) vs) (atF P T ext N f (b3z P T ext N n) vs)
   cases hg:sh.get f with
   | none=>exact Le.fail _
   | some g=>
     refine Le.trans (h f g hg _ _) ?_
     unfold atF
     cases ext f with
     | some g=>exact Le.refl _
     | none=>exact Le.obind fun fn _=>b8B ih N fn f vs
theorem b3u {ext:Nat → Option (List Value → M Value)} {N f:Nat} {fn:Func} {c:Code} (he:ext f=none) (hf:T.funcs.get f=some fn) (hb:fn.body=some c) (pn:Bool) (pl:Pl) {call:j5} {args:List Value} {m:M CR}
 (h:a0i P T X3 pn N call fn c pl args=m):Le m (atF P T ext N f call args):=by
 subst h
 unfold atF
 rw [he,hf]
 show Le _ (a7a P T N call fn f args)
 unfold a7a a0i
 rw [hb,b0V]
 exact c3k N c pl CR _ _ (fun ex fr=>b8i T G8 fn ex fr) fun _ _=>Le.refl _
theorem c6Z {ext:Nat → Option (List Value → M Value)} {N f:Nat} {g:List Value → M Value} (he:ext f=some g) {call:j5} {args:List Value}:Le (M.bind (g args) fun v=>M.pure (CR.ret v)) (atF P T ext N f call args):=by
 unfold atF; rw [he]; exact Le.refl _
theorem a9l (hT:TabOk P T) (hM:P.follows .mixedOrders=true) {ext:Nat → Option (List Value → M Value)} (hE:b5t P T B0 w0 ext) {N:Nat} {sh:a2i} (hs:a7O P T ext N sh) (n:Nat):a8b P T B0 w0 (J9 sh n):=
 fun f vs s r s' w K vs' h=>c1I hT hM hE N n f vs s r s' w K vs' (c3H hs n f vs s _ h)
end
end Go.V
end
section
noncomputable section
namespace Go.V
abbrev R2:=Xc × List Value
def N7 {β:Type}:Value → M β:=fun _=>M.fail
def K5 (v:Value):M Value:=a5e v fun a=>M.bind (loadN a 1) fun vs=>M.pure (d9 vs 0)
def a3p (n:Nat) (v:Value):M Value:=a5e v fun a=>M.bind (loadN a n) fun vs=>M.pure (.agg ⟨vs⟩)
def a4M (n:Nat) (va v:Value):M Value:=a5e va fun a=>M.bind (M.guard (!(Nat.beq n 0) && Nat.beq (M4 v.cells.toList) n) <| storeN a v.cells.toList) fun _=>M.pure undef
def b0A (zs:List Value):M Value:=M.bind (a2q zs) fun a=>M.pure (.pointer (some a))
def a6X (v:Value):M Value:=M.guard (!(F3 v.cells.toList)) <| M.bind (a2q v.cells.toList) fun a=>M.pure (.pointer (some a))
def a8J (os:List (Nat × Nat)):List Value → List Value → Option (List Value):=
 List.rec (motive:=fun _=>List Value → List Value → Option (List Value)) (fun _ cs=>some cs) (fun q _ ih vs cs=>match vs with
  | []=>none
  | v :: vs=>match Nat.beq (M4 v.cells.toList) q.2 && Nat.ble (q.1 + q.2) (M4 cs) with
    | true=>ih vs (a4E v.cells.toList cs q.1)
    | false=>none) os
def a0c (os:List (Nat × Nat)) (vs zs:List Value):M Value:=M.obind (a8J os vs zs) fun cs=>M.pure (.agg ⟨cs⟩)
def a2p (n len:Nat) (os:List (Nat × Nat)) (vs zs:List Value):M Value:=M.obind (a8J os vs zs) fun cs=>M.bind (a2q cs) fun a=>M.pure (.slice (some a) len n)
def X0 (vc va vb:Value):M Value:=match vc with
 | .bool t=>match t with
   | true=>M.pure va
   | false=>M.pure vb
 | _=>M.fail
def b0p (k:IntKind) (x:Value):M Value:=match x with
 | .int _ n=>M.pure (.int k (a1d k n))
 | _=>M.fail
def xFA (off:Nat) (x:Value):M Value:=a5e x fun a=>M.pure (.pointer (some (fwd a off)))
def elemAtN (n:Nat) (a:Addr) (i len:Nat):M Value:=M.guard (Nat.blt i len && !(Nat.beq n 0)) <| M.pure (.pointer (some (fwd a (i * n))))
def a5I (n:Nat) (x ix:Value):M Value:=M.obind (a8i ix) fun i=>match x with
 | .slice a len es=>M.obind a fun a=>M.guard (Nat.beq es n) <| elemAtN n a i len
 | _=>M.fail
def a9z (i:Nat) (a:Value):M Value:=match a with
 | .tuple vs=>M.obind (a3s vs.toList i) M.pure
 | _=>M.fail
def c0H (x:Value):M Value:=match x with
 | .string s=>M.pure (goInt (M4 s.data.toList))
 | _=>M.fail
def a4q (x:Value):M Value:=match x with
 | .slice _ n _=>M.pure (goInt n)
 | _=>M.fail
def a4g (e:TI) (s x:Value):M Value:=M.bind (a8W e.size x) fun vs=>fList vs fun vs=>a4s e s vs
def a8P (x:Value) (lo hi:Option Value):M Value:=match x with
 | .string s=>b1v s lo hi
 | _=>M.fail
def c0O (fn:Fn) (va vb:List Value):M Value:=M.pure (.func fn ⟨va⟩ ⟨vb⟩)
section
variable (p:Program) (T:Tab)
def a4r (op:BinOp) (t:TypeId) (x y:Operand) (a b:Value):M Value:=match a with
 | .int k n=>match b with
   | .int k' m=>match a5n op k k' n m with
     | some v=>M.pure v
     | none=>a8z p T op t x y a b
   | _=>M.fail
 | .string s=>match b with
   | .string s'=>M.lift (b1H op s.data.toList s'.data.toList)
   | _=>M.fail
 | _=>a8z p T op t x y a b
def xUn (op:UnOp) (a:Value):M Value:=M.guard (plain a) <| pureV (a3e p (Op.unary op a))
def e2s (ts:Array TypeId) (vs:List Value):M Value:=M.guard (a0N plain vs) <| pureV (a3e p (Builtin.max_ ts 0 ⟨vs⟩))
end
def b0F:Code → Nat → Option (List Oper)
 | .region i ops _,id=>match Nat.beq i id with
   | true=>some ops.toList
   | false=>none
 | .seq a b,id=>match b0F a id with
   | some l=>some l
   | none=>b0F b id
 | .cond _ a b,id=>match b0F a id with
   | some l=>some l
   | none=>b0F b id
 | .block _ b,id=>b0F b id
 | .loop b,id=>b0F b id
 | _,_=>none
def a6b (c:Code) (id:Nat):List Oper:=match b0F c id with
 | some l=>l
 | none=>[]
def a0x (f:Func):Code:=match f.body with
 | some c=>c
 | none=>.skip
end Go.V
end
section
noncomputable section
namespace Go.V
theorem U6 {β:Type} (m:M Value) (k:Value → M β):G8.bv β m k=M.bind m k:=Eq.trans rfl rfl
theorem V6 {β:Type} (m:M CR) (kn kp:Value → M β):G8.bc β m kn kp=M.bind m fun r=>a3Y r kn kp:=Eq.trans rfl rfl
theorem a0d {β:Type} (m:M (Xc × List Value)) (k:Xc → List Value → M β):G8.bj β m k=M.bind m fun r=>k r.1 r.2:=Eq.trans rfl rfl
theorem a2F (b:List Value → M (Xc × List Value)) (n:Nat) (x:List Value):G8.lp b n x=a4d b n x:=Eq.trans rfl rfl
theorem c9o {β:Type} (v:Value) (kn kp:Value → M β):a3Y (.ret v) kn kp=kn v:=Eq.trans rfl rfl
theorem L9 {β:Type} (a:M β) (b:Nat → M β) (c:M β) (d:Value → M β):M5 .normal a b c d=a:=Eq.trans rfl rfl
theorem a6z {β:Type} (i:Nat) (a:M β) (b:Nat → M β) (c:M β) (d:Value → M β):M5 (.exit i) a b c d=b i:=Eq.trans rfl rfl
theorem a9s {β:Type} (a:M β) (b:Nat → M β) (c:M β) (d:Value → M β):M5 .ret a b c d=c:=Eq.trans rfl rfl
theorem K4 {α:Type} (x y:α):bcase true x y=x:=Eq.trans rfl rfl
theorem J4 {α:Type} (x y:α):bcase false x y=y:=Eq.trans rfl rfl
theorem a5g (b:Bool):O7 true (.bool b)=b:=by cases b <;> rfl
theorem a3a (b:Bool):O7 false (.bool b)=!b:=by cases b <;> rfl
theorem P5 {β:Type} (b:Bool) (x y:M β):K3 (.bool b) x y=bcase b x y:=Eq.trans rfl rfl
theorem a3n {α:Type} (b:Bool) (x y:α):bcase b (M.pure x) (M.pure y)=M.pure (bcase b x y):=by cases b <;> rfl
theorem a4k (b:Bool) (x:Xc) (l m:List Value):bcase b (x,l) (x,m)=(x,bcase b l m):=by cases b <;> rfl
theorem a4m (b:Bool) (l m:List Value) (i:Nat):d9 (bcase b l m) i=bcase b (d9 l i) (d9 m i):=by cases b <;> rfl
theorem a7k {α:Type} (b:Bool) (x y:α):bcase (!b) x y=bcase b y x:=by cases b <;> rfl
theorem a5G (b c:Bool):X0 (.bool b) (bcase b (.bool c) undef) (.bool false)=M.pure (.bool (b && c)):=by cases b <;> rfl
theorem b9n (b c:Bool):X0 (.bool b) (.bool true) (bcase b undef (.bool c))=M.pure (.bool (b || c)):=by cases b <;> rfl
theorem l_0 (v:Value) (l:List Value):d9 (v :: l) 0=v:=Eq.trans rfl rfl
theorem l_s (v:Value) (l:List Value) (i:Nat):d9 (v :: l) (i + 1)=d9 l i:=Eq.trans rfl rfl
section
variable (p:Program) (T:Tab)
theorem a6R {op:BinOp} {t:TypeId} {x y:Operand} {k:IntKind} {n m:Int} {v:Value} (h1:a6J (a6c op k) n m=none) (h:b1R op k n m=some v):a4r p T op t x y (.int k n) (.int k m)=M.pure v:=by
 have hk:a2Y k k=true:=by cases k <;> rfl
 have:a5n op k k n m=some v:=by
  unfold a5n; rw [h1]; simp only [hk,h]
 unfold a4r; simp only [this]
theorem a6D {op:BinOp} (h:op ≠ .shl) (h':op ≠ .shr) (k:IntKind) (n m:Int):a6J (a6c op k) n m=none:=by
 unfold a6J
 cases n with
 | ofNat n=>cases m with
   | ofNat m=>cases op <;> first | rfl | exact absurd rfl h | exact absurd rfl h'
   | negSucc m=>rfl
 | negSucc n=>rfl
theorem a2l (t:TypeId) (x y:Operand) (k:IntKind) (n m:Int):a4r p T .lss t x y (.int k n) (.int k m)=M.pure (.bool (decide (n < m))):=a6R p T (a6D (by decide) (by decide) _ _ _) rfl
theorem a8d (t:TypeId) (x y:Operand) (k:IntKind) (n m:Int):a4r p T .leq t x y (.int k n) (.int k m)=M.pure (.bool (decide (n ≤ m))):=a6R p T (a6D (by decide) (by decide) _ _ _) rfl
theorem a5i (t:TypeId) (x y:Operand) (k:IntKind) (n m:Int):a4r p T .gtr t x y (.int k n) (.int k m)=M.pure (.bool (decide (m < n))):=a6R p T (a6D (by decide) (by decide) _ _ _) rfl
theorem a6H (t:TypeId) (x y:Operand) (k:IntKind) (n m:Int):a4r p T .geq t x y (.int k n) (.int k m)=M.pure (.bool (decide (m ≤ n))):=a6R p T (a6D (by decide) (by decide) _ _ _) rfl
theorem Q7 (t:TypeId) (x y:Operand) (k:IntKind) (n m:Int):a4r p T .eql t x y (.int k n) (.int k m)=M.pure (.bool (decide (n=m))):=a6R p T (a6D (by decide) (by decide) _ _ _) rfl
theorem a0S (t:TypeId) (x y:Operand) (k:IntKind) (n m:Int):a4r p T .neq t x y (.int k n) (.int k m)=M.pure (.bool (!(decide (n=m)))):=a6R p T (a6D (by decide) (by decide) _ _ _) rfl
theorem a2R (t:TypeId) (x y:Operand) (k:IntKind) (n m:Int):a4r p T .add t x y (.int k n) (.int k m)=M.pure (.int k (a1d k (n + m))):=a6R p T (a6D (by decide) (by decide) _ _ _) rfl
theorem a7Y (t:TypeId) (x y:Operand) (k:IntKind) (n m:Int):a4r p T .sub t x y (.int k n) (.int k m)=M.pure (.int k (a1d k (n - m))):=a6R p T (a6D (by decide) (by decide) _ _ _) rfl
theorem U3 (b:Bool):xUn p .not (.bool b)=M.pure (.bool (!b)):=by cases b <;> rfl
end
end Go.V
end
section
noncomputable section
namespace Go.V
def ar0 (f:j5 → M CR):j5 → List Value → M CR:=fun call args=>match args with
 | []=>f call
 | _=>M.fail
def ar1 (f:j5 → Value → M CR):j5 → List Value → M CR:=fun call args=>match args with
 | [a]=>f call a
 | _=>M.fail
def ar2 (f:j5 → Value → Value → M CR):j5 → List Value → M CR:=fun call args=>match args with
 | [a,b]=>f call a b
 | _=>M.fail
def ar3 (f:j5 → Value → Value → Value → M CR):j5 → List Value → M CR:=fun call args=>match args with
 | [a,b,c]=>f call a b c
 | _=>M.fail
def arX (g:List Value → M Value):j5 → List Value → M CR:=fun _ args=>M.bind (g args) fun v=>M.pure (.ret v)
section
variable {P:Program} {T:Tab} {ext:Nat → Option (List Value → M Value)} {N f:Nat} {fn:Func} {c:Code} {pn:Bool} {pl:Pl}
def Fit (P:Program) (T:Tab) (ext:Nat → Option (List Value → M Value)) (N f:Nat) (g:j5 → List Value → M CR):Prop:=∀ call args,Le (g call args) (atF P T ext N f call args)
theorem b1U {sh:Cb → Nat → j5 → M CR} (he:ext f=none) (hf:T.funcs.get f=some fn) (hb:fn.body=some c) (h:∀ cb N call,a0i P T cb pn N call fn c pl []=sh cb N call):Fit P T ext N f (ar0 (sh X3 N)):=by
 intro call args
 unfold ar0
 split
 · exact b3u he hf hb pn pl (h X3 N call)
 · exact Le.fail _
theorem a2n {sh:Cb → Nat → j5 → Value → M CR} (he:ext f=none) (hf:T.funcs.get f=some fn) (hb:fn.body=some c) (h:∀ cb N call a,a0i P T cb pn N call fn c pl [a]=sh cb N call a):Fit P T ext N f (ar1 (sh X3 N)):=by
 intro call args
 unfold ar1
 split
 · exact b3u he hf hb pn pl (h X3 N call _)
 · exact Le.fail _
theorem a8H {sh:Cb → Nat → j5 → Value → Value → M CR} (he:ext f=none) (hf:T.funcs.get f=some fn) (hb:fn.body=some c) (h:∀ cb N call a b,a0i P T cb pn N call fn c pl [a,b]=sh cb N call a b):Fit P T ext N f (ar2 (sh X3 N)):=by
 intro call args
 unfold ar2
 split
 · exact b3u he hf hb pn pl (h X3 N call _ _)
 · exact Le.fail _
theorem d4b {sh:Cb → Nat → j5 → Value → Value → Value → M CR} (he:ext f=none) (hf:T.funcs.get f=some fn) (hb:fn.body=some c) (h:∀ cb N call a b d,a0i P T cb pn N call fn c pl [a,b,d]=sh cb N call a b d):Fit P T ext N f (ar3 (sh X3 N)):=by
 intro call args
 unfold ar3
 split
 · exact b3u he hf hb pn pl (h X3 N call _ _ _)
 · exact Le.fail _
theorem a9m {g:List Value → M Value} (he:ext f=some g):Fit P T ext N f (arX g):=fun _ _=>c6Z he
inductive OAll (Q:(j5 → List Value → M CR) → Prop):Option (j5 → List Value → M CR) → Prop
 | none:OAll Q Option.none
 | some {g:j5 → List Value → M CR}:Q g → OAll Q (Option.some g)
inductive TAll:(Nat → (j5 → List Value → M CR) → Prop) → a2i → Prop
 | leaf {Q:Nat → (j5 → List Value → M CR) → Prop}:TAll Q .leaf
 | node {Q:Nat → (j5 → List Value → M CR) → Prop} {v:Option (j5 → List Value → M CR)} {l r:a2i}:OAll (Q 0) v → TAll (fun k=>Q (2 * k + 1)) l → TAll (fun k=>Q (2 * k + 2)) r → TAll Q (.node v l r)
theorem TAll.get {Q:Nat → (j5 → List Value → M CR) → Prop} {t:a2i} (h:TAll Q t):∀ f g,t.get f=some g → Q f g:=by
 induction h with
 | leaf=>intro f g e; cases e
 | node hv _ _ ihl ihr=>
   intro f g e
   cases f with
   | zero=>cases hv with
     | none=>cases e
     | some q=>cases e; exact q
   | succ k=>
     rw [Trie.get_node_succ] at e
     split at e
     · rename_i hk
       have:_:=ihl _ _ e
       simp only [] at this
       rw [show 2 * (k / 2) + 1=k + 1 by omega] at this
       exact this
     · rename_i hk
       have:_:=ihr _ _ e
       simp only [] at this
       rw [show 2 * (k / 2) + 2=k + 1 by omega] at this
       exact this
theorem c6C {sh:a2i} (h:TAll (Fit P T ext N) sh):a7O P T ext N sh:=fun f g e=>h.get f g e
end
end Go.V
end
section
namespace Go.V
open Go.RowKit (Below)
section
variable {P:Program} {T:Tab} {w:World} {vs:a4i}
theorem a9w (hT:TabOk P T) (hM:P.follows .mixedOrders=true) (hng:T.ng ≤ vs.length) (hp:∀ l ∈ vs, ∀ v ∈ l,plain v=true)
 {ext:Nat → Option (List Value → M Value)} (hE:a4P P T vs ext) {N:Nat} {sh:a2i} (hs:a7O P T ext N sh) {n f:Nat} {fn:Func} {c:Code} {args:List Value} {v:Value} {s':S}
 (hPf:P.funcs[f]?=some fn) (hnum:(fn.name == "runtime.NumGoroutine")=false) (hb:fn.body=some c)
 (ha:a0N (a0y 8) args=true) (hv:a0y 8 v=true) (h:J9 sh n f args (a5f vs)=some (.ret v,s')):a7d P vs f args v:=by
 intro w hL
 have hE':=hE w.heap.size ⟨w,fun _=>True⟩ hL hL.size
 refine ⟨a2d hPf hnum hb, ?_⟩
 rcases a9l hT hM hE' hs n f args (a5f vs) (.ret v) s' w (a6L vs) args h (a9g (fun _ _=>trivial) (fun _ _=>trivial) hL hp) (b0u hng) (fun i hi _=>by
  rw [a4c]
  have:vs.length ≤ i:=by have:=hi; unfold a5f at this; rw [a0m] at this; exact this
  rw [List.getElem?_eq_none this]) (b1a ha) with ⟨v1,v',w',K',_,q1,_⟩ | ⟨_,q⟩
 · rw [a2d hPf hnum hb] at q1; cases q1
 · refine q.mono fun e w' hq=>?_
   obtain ⟨v',K',e1,st,r⟩:=hq
   rw [e1,r.eq_of_noAddr 8 hv]
   exact ⟨rfl,st.sim.below⟩
end
end Go.V
end
