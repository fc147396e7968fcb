import Derived.Test.YtmomonnlmbljoaaGreatDoorRaj
import Derived.Test.YtmomonnlmbljoaaGreatDoorRal
import Derived.Test.YtmomonnlmbljoaaGreatDoorRam
section
namespace Go.V
open Go.RowKit (Below)
section
variable {p:Program} {T:Tab} {call:j4}
theorem Fr.condM {β:Type} (v:Value) {x y:M β} (hx:Fr x) (hy:Fr y):Fr (j6 v x y):=by
 cases v with
 | bool b=>cases b with
   | true=>exact hx
   | false=>exact hy
 | _=>exact Fr.fail
theorem Fr.crCase {β:Type} (r:CR) {kn kp:Value→M β} (h1:∀ v,Fr (kn v)) (h2:∀ v,Fr (kp v)):Fr (P5 r kn kp):=by
 cases r with
 | ret v=>exact h1 v
 | pan v=>exact h2 v
theorem Fr.xcase {β:Type} (x:Xc) {a:M β} {b:Nat→M β} {c:M β} {d:Value→M β} (h1:Fr a) (h2:∀ i,Fr (b i)) (h3:Fr c) (h4:∀ v,Fr (d v)):Fr (l7 x a b c d):=by
 cases x with
 | normal=>exact h1
 | exit i=>exact h2 i
 | ret=>exact h3
 | pan v=>exact h4 v
theorem Fr.okCall (hc:∀ f vs,Fr (call f vs)) (f:Nat) (vs:List Value):Fr (D7 call f vs):=Fr.bind (hc f vs) fun r=>Fr.crCase r (fun _=>Fr.pure _) (fun _=>Fr.fail)
theorem Fr.noCall (f:Nat) (vs:List Value):Fr (b8G f vs):=Fr.fail
theorem d1m {β:Type} {fr:List Value} {o:Op} {kn kp:Value→M β} {s:S} {r:β×S} (h:X5 p T D8 call fr o kn kp s=some r) :
 (∃ v s1,M7 p T b8G fr o s=some (v,s1)∧kn v s1=some r) ∨
 (∃ c f ga cr s1,o=.call c∧c.callee=.value f∧a2o T fr f c.args.toList=some ga∧call ga.1 ga.2 s=some (cr,s1)∧P5 cr kn kp s1=some r) ∨
 (∃ x v,o=.panic x∧J8 T fr x=some v∧a0A v=true∧kp v s=some r):=by
 have hs:∀ m:M Value,D8.bv β m kn s=some r→∃ v s1,m s=some (v,s1)∧kn v s1=some r:=fun m q=>by
  obtain ⟨v,s1,q1,q2⟩:=w9 (s2:=r.2) (b:=r.1) (f:=kn) q
  exact ⟨v,s1,q1,q2⟩
 have ho:∀ x:Option Value,M.obind x kn s=some r→∃ v s1,M.lift x s=some (v,s1)∧kn v s1=some r:=fun x q=>by
  cases x with
  | none=>cases q
  | some v=>exact ⟨v,s,rfl,q⟩
 cases o with
 | move x=>exact Or.inl (ho _ h)
 | assign x=>exact Or.inl (ho _ h)
 | call c=>
   obtain ⟨cal,args,ts⟩:=c
   cases cal with
   | value f=>
     obtain ⟨ga,q0,q⟩:=C9 (s2:=r.2) (b:=r.1) h
     obtain ⟨cr,s1,q1,q2⟩:=w9 (f:=fun r=>P5 r kn kp) q
     exact Or.inr (Or.inl ⟨_,f,ga,cr,s1,rfl,rfl,q0,q1,q2⟩)
   | builtin b=>exact Or.inl (hs _ h)
   | invoke r m=>cases h
 | panic x=>
   obtain ⟨v,q0,q⟩:=C9 (s2:=r.2) (b:=r.1) h
   obtain ⟨q1,q2⟩:=A8 q
   exact Or.inr (Or.inr ⟨x,v,rfl,q0,q1,q2⟩)
 | _=>exact Or.inl (hs _ h)
theorem Fr.stepK {β:Type} (hc:∀ f vs,Fr (call f vs)) (fr:List Value) (o:Op) {kn kp:Value→M β} (h1:∀ v,Fr (kn v)) (h2:∀ v,Fr (kp v)):Fr (X5 p T D8 call fr o kn kp):=by
 have hs:∀ m:M Value,Fr m→Fr (D8.bv β m kn):=fun m hm=>Fr.bind hm h1
 cases o with
 | move x=>exact Fr.obind _ h1
 | assign x=>exact Fr.obind _ h1
 | call c=>
   obtain ⟨cal,args,ts⟩:=c
   cases cal with
   | value f=>exact Fr.obind _ fun ga=>Fr.bind (hc _ _) fun r=>Fr.crCase r h1 h2
   | builtin b=>exact hs _ (Fr.opBuiltin p T _ _ _ _)
   | invoke r m=>exact Fr.fail
 | panic x=>exact Fr.obind _ fun v=>Fr.guard _ (h2 v)
 | _=>exact hs _ (Fr.simpleOp p T _ _)
theorem Fr.runC (hc:∀ f vs,Fr (call f vs)) (ops os:List Oper):∀ fr,Fr (Y0 p T call ops os fr):=by
 induction os with
 | nil=>intro fr; exact Fr.pure _
 | cons o os ih=>
   intro fr
   rw [V6]
   cases M6 ops fr o with
   | true=>exact Fr.stepK hc _ _ (fun v=>ih _) (fun v=>Fr.pure _)
   | false=>exact ih _
theorem Fr.regionC (hc:∀ f vs,Fr (call f vs)) (ops:List Oper) (draw:Bool) (fr:List Value):Fr (a3U p T call ops draw fr):=by
 cases draw with
 | false=>exact Fr.runC hc _ _ _
 | true=>
   show Fr (M.bind (V.O4 p T (V.D7 call) ops ops fr) fun y=>M.guard (E9 ops (H9 ops y.2) [] [] 0) <| M.pure (Xc.normal,y.1))
   exact Fr.bind (Fr.runD p T (Fr.okCall hc) _ _ _) fun _=>Fr.guard _ (Fr.pure _)
theorem Fr.loopN {σ:Type} {body:σ→M (Xc×σ)} (h:∀ x,Fr (body x)) (n:Nat):∀ x,Fr (U4 body n x):=by
 induction n with
 | zero=>intro x; exact Fr.fail
 | succ n ih=>intro x; rw [Q0]; exact Fr.bind (h x) fun r=>Fr.xcase r.1 (ih _) (fun _=>Fr.pure _) (Fr.pure _) (fun _=>Fr.pure _)
theorem Fr.execC (hc:∀ f vs,Fr (call f vs)) (N:Nat):∀ c fr,Fr (K6 p T N call c fr):=by
 intro c
 induction c with
 | skip=>intro fr; exact Fr.pure _
 | region id ops draw=>intro fr; exact Fr.regionC hc _ _ _
 | seq a b iha ihb=>intro fr; exact Fr.bind (iha fr) fun r=>Fr.xcase r.1 (ihb _) (fun _=>Fr.pure _) (Fr.pure _) (fun _=>Fr.pure _)
 | cond x a b iha ihb=>intro fr; exact Fr.obind _ fun v=>Fr.condM v (iha fr) (ihb fr)
 | block id b ih=>intro fr; exact Fr.bind (ih fr) fun r=>Fr.pure _
 | loop b ih=>intro fr; exact Fr.loopN ih N fr
 | exit id=>intro fr; exact Fr.pure _
 | ret=>intro fr; exact Fr.pure _
 | _=>intro fr; exact Fr.fail
theorem Fr.resK {β:Type} (fr:List Value) (rs:List ResultVar):∀ {k:List Value→M β},(∀ vs,Fr (k vs))→Fr (a3K T D8 fr rs k):=by
 induction rs with
 | nil=>intro k h; exact h []
 | cons r rs ih=>
   intro k h
   cases r with
   | tmp t=>exact ih fun vs=>h _
   | cell a t=>exact Fr.asPtr _ fun ad=>Fr.bind (Fr.loadV T _ _) fun v=>ih fun vs=>h _
theorem Fr.finK (fn:Func) (ex:Xc) (fr:List Value):Fr (b6b T D8 fn ex fr):=
 Fr.xcase ex (Fr.resK _ _ fun _=>Fr.pure _) (fun _=>Fr.fail) (Fr.resK _ _ fun _=>Fr.pure _) (fun _=>Fr.pure _)
theorem Fr.enterC (hc:∀ f vs,Fr (call f vs)) (N:Nat) (fn:Func) (f:Nat) (args:List Value):Fr (a0o p T N call fn f args):=by
 unfold V.a0o
 split
 · exact Fr.bind (Fr.externV p _ _) fun _=>Fr.pure _
 · exact Fr.bind (Fr.execC hc N _ _) fun r=>Fr.finK _ _ _
theorem Fr.callC {ext:Nat→Option (List Value→M Value)} (he:∀ f g,ext f=some g→∀ vs,Fr (g vs)) (N n:Nat):∀ f vs,Fr (a5A p T ext N n f vs):=by
 induction n with
 | zero=>intro f vs; exact Fr.fail
 | succ n ih=>
   intro f vs
   show Fr (match ext f with
    | some g=>M.bind (g vs) fun v=>M.pure (CR.ret v)
    | none=>M.obind (T.funcs.get f) fun fn=>V.a0o p T N (V.a5A p T ext N n) fn f vs)
   cases hx:ext f with
   | some g=>exact Fr.bind (he f g hx vs) fun _=>Fr.pure _
   | none=>exact Fr.obind _ fun fn=>Fr.enterC ih N fn f vs
end
section
variable {P:Program} {T:Tab} {B0:Nat} {w0:Base} {w:World} {K:KM} {s s':S} {a:Act} {fr:List Value} {v:Value} {call:j4}
def d3b (v:Value):List PanicEntry:=[{ v:=v,recovered:=false }]
def e4f (B0:Nat) (w0:Base) (K:KM) (s':S) (r:CR) (e:Ending) (w':World):Prop:=match r with
 | .ret v=>∃ v' K',e=.returned v'∧Step B0 w0 K s' w' K'∧VR K' v' v
 | .pan v=>∃ v' K',e=.panicked (d3b v')∧Step B0 w0 K s' w' K'∧VR K' v' v
def a0W (P:Program) (T:Tab) (B0:Nat) (w0:Base) (call:j4):Prop:=
 ∀ f vs s r s' w K vs',call f vs s=some (r,s')→Sim B0 w0 K s.h w→GK T K→K8 K s s'→VRL K vs' vs →
   (∃ v v' w' K',r=.ret v∧(callFunc f vs'.toArray).run P w=.ok (.value v') w'∧Step B0 w0 K s' w' K'∧VR K' v' v) ∨
   ((callFunc f vs'.toArray).run P w=.ok (.enter f vs'.toArray) w∧Calls P f vs'.toArray w (e4f B0 w0 K s' r))
theorem c2d (hC:a0W P T B0 w0 call):X8 P T B0 w0 (D7 call):=by
 intro f vs s v s' w K vs' h S hg F hv
 obtain ⟨r,s1,h1,h2⟩:=w9 h
 cases r with
 | pan u=>cases h2
 | ret u=>
   obtain ⟨rfl,rfl⟩:=o9 h2
   rcases hC f vs s _ _ w K vs' h1 S hg F hv with ⟨x,v',w',K',e,q1,q2,q3⟩ | ⟨q1,q2⟩
   · cases e; exact Or.inl ⟨v',w',K',q1,q2,q3⟩
   · exact Or.inr ⟨q1,q2⟩
theorem c0G:X8 P T B0 w0 b8G:=fun _ _ _ _ _ _ _ _ h=>by cases h
def exC (K':KM):Xc→Exit→Prop
 | .normal,e=>e=.normal
 | .exit id,e=>e=.exit id
 | .ret,e=>e=.ret
 | .pan v,e=>∃ v',e=.panic (d3b v')∧VR K' v' v
def a0P (B0:Nat) (w0:Base) (K:KM) (s':S) (ds:List Deferred) (ex:Xc) (fr':List Value):Exit→Act→World→Prop:=fun e a' w'=>
 ∃ K',Step B0 w0 K s' w' K'∧VRL K' a'.tmps.toList fr'∧a'.defers=ds∧exC K' ex e
theorem a0P.from {s1:S} {w1:World} {K1:KM} {ds:List Deferred} {ex:Xc} {fr':List Value} {e:Exit} {a':Act} {w':World}
 (h1:Step B0 w0 K s1 w1 K1) (hc:s1.c≤s'.c) (h:a0P B0 w0 K1 s' ds ex fr' e a' w'):a0P B0 w0 K s' ds ex fr' e a' w':=by
 obtain ⟨K',st,r,d,q⟩:=h
 exact ⟨K',h1.trans st hc,r,d,q⟩
theorem b9f {f:Operand} {args:List Operand} {ga:Nat×List Value} (h:a2o T fr f args=some ga) :
 ∃ first captured vs,J8 T fr f=some (.func (.func ga.1) first captured)∧M0 T fr args=some vs∧ga.2=first.toList ++ (vs ++ captured.toList):=by
 unfold a2o at h
 cases h1:J8 T fr f with
 | none=>rw [h1] at h; cases h
 | some v=>
   rw [h1] at h
   cases h2:M0 T fr args with
   | none=>rw [h2] at h; cases h
   | some vs=>
     rw [h2] at h
     cases v with
     | func fn first captured=>cases fn with
       | func g=>cases h; exact ⟨first,captured,vs,rfl,rfl,by simp only [I5]⟩
       | _=>cases h
     | _=>cases h
theorem d3R (hT:TabOk P T) (hC:a0W P T B0 w0 call) (hF:∀ f vs,Fr (call f vs)) {β:Type} {o:Oper} {kn kp:Value→M β} {r:β×S} (h:X5 P T D8 call fr o.op kn kp s=some r) (S:Sim B0 w0 K s.h w)
 (F:∀ s1,s1.c≤r.2.c→K8 K s s1) (hkn:∀ v,Fr (kn v)) (hkp:∀ v,Fr (kp v)) (hf:VRL K a.tmps.toList fr) (hg:GK T K) {next:Act→World→Prop} {Q:Exit→Act→World→Prop}
 (hn:∀ v s1 v' w' K',kn v s1=some r→Step B0 w0 K s1 w' K'→(∀ K2,K8 K2 s1 r.2)→s1.c≤r.2.c→VR K' v' v→next (a.put o.dst v') w')
 (hp:∀ v s1 v' w' K',kp v s1=some r→Step B0 w0 K s1 w' K'→(∀ K2,K8 K2 s1 r.2)→s1.c≤r.2.c→VR K' v' v→Q (.panic (d3b v')) a w'):o.wp P a w next Q:=by
 have Fall:∀ s1,s1.c≤r.2.c→K8 K s s1:=F
 rcases d1m h with ⟨v,s1,h1,h2⟩ | ⟨c,f,ga,cr,s1,e1,e2,e3,e4,e5⟩ | ⟨x,v,e1,e2,e3,e4⟩
 · have hle:=(hkn v).le h2
   refine a1P hT c0G h1 S (Fall _ hle) hf hg fun v' w' K' st rr=>?_
   exact hn v s1 v' w' K' h2 st (fun K2=>K8.right (F _ (Nat.le_refl _)) (Fr.stepOp P T Fr.noCall _ _) h1) hle rr
 · have hfr:Fr (P5 cr kn kp):=Fr.crCase cr hkn hkp
   have hle:=hfr.le e5
   have hfree:∀ K2,K8 K2 s1 r.2:=fun K2=>K8.right (F _ (Nat.le_refl _)) (hF _ _) e4
   obtain ⟨first,captured,vs,q1,q2,q3⟩:=b9f e3
   have rf:=F5 hf hg q1
   have rs:=a0e hf hg q2
   obtain ⟨f1,c1,ef,rf1,rc1⟩:=a9r rf
   have rargs:VRL K (f1.toList ++ (c.args.toList.map a.eval ++ c1.toList)) ga.2:=by rw [q3]; exact rf1.append (rs.append rc1)
   have e:execOp a.eval o=callFunc ga.1 (f1.toList ++ (c.args.toList.map a.eval ++ c1.toList)).toArray:=by
    unfold execOp
    rw [e1]
    show (do let d ← resolve a.eval c o.type; invoke d.target d.args)=_
    unfold resolve
    rw [e2]
    show (do let d ← Deferred.ofValue (a.eval f) (c.args.map a.eval); invoke d.target d.args)=_
    rw [ef]
    show callFunc ga.1 (f1 ++ c.args.map a.eval ++ c1)=_
    congr 1
    apply Array.ext'
    simp
   unfold Oper.wp
   rw [e]
   rcases hC ga.1 ga.2 s cr s1 w K _ e4 S hg (Fall _ hle) rargs with ⟨u,v',w',K',r1,r2,r3,r4⟩ | ⟨r1,r2⟩
   · subst r1
     rw [r2]
     exact hn u s1 v' w' K' e5 r3 hfree hle r4
   · rw [r1]
     refine r2.mono fun en w' hq=>?_
     cases cr with
     | ret u=>
       obtain ⟨v',K',rfl,t1,t2⟩:=hq
       exact hn u s1 v' w' K' e5 t1 hfree hle t2
     | pan u=>
       obtain ⟨v',K',rfl,t1,t2⟩:=hq
       exact hp u s1 v' w' K' e5 t1 hfree hle t2
 · have rx:=F5 hf hg e2
   have hv:∃ t y y',v=.iface t y∧a.eval x=.iface t y':=by
    cases v with
    | iface t y=>
      generalize hz:Value.iface t y=z at rx
      generalize hu:a.eval x=u at rx
      cases rx with
      | plain hpl=>subst hz; simp [V.plain] at hpl
      | iface q=>cases hz; exact ⟨_,_,_,rfl,rfl⟩
      | _=>cases hz
    | _=>cases e3
   obtain ⟨t,y,y',rfl,ey⟩:=hv
   unfold Oper.wp
   have e:(execOp a.eval o).run P w=.halt (.panic (.iface t y')) w:=by
    unfold execOp
    rw [e1]
    show (do let v ← Instr.panic (a.eval x); pure (Next.value v):Sem Next).run P w=_
    rw [ey]
    rfl
   rw [e]
   rw [ey] at rx
   exact hp _ s _ w K e4 (Step.same S rfl) (fun K2=>fun i hi hi2=>F _ (Nat.le_refl _) i hi hi2) ((hkp _).le e4) rx
theorem d7R (hT:TabOk P T) (hC:a0W P T B0 w0 call) (hF:∀ f vs,Fr (call f vs)) (ops:Array Oper) {Q:Exit→Act→World→Prop} :
 ∀ (n k:Nat) (fr:List Value) (x:Xc×List Value) (s s':S) (K:KM) (a:Act) (w:World),k+n=ops.size→Y0 P T call ops.toList (ops.toList.drop k) fr s=some (x,s')→Sim B0 w0 K s.h w→K8 K s s'→VRL K a.tmps.toList fr→GK T K →
   (∀ e a' w',a0P B0 w0 K s' a.defers x.1 x.2 e a' w'→Q e a' w')→wpOps P ops Q (List.range' k n) a w:=by
 intro n
 induction n with
 | zero=>
   intro k fr x s s' K a w hk h S F hf hg hq
   have:ops.toList.drop k=[]:=List.drop_eq_nil_of_le (by simp; omega)
   rw [this] at h
   obtain ⟨rfl,rfl⟩:=o9 h
   exact hq _ a w ⟨K,Step.same S rfl,hf,rfl,rfl⟩
 | succ n ih=>
   intro k fr x s s' K a w hk h S F hf hg hq
   have hlt:k<ops.size:=by omega
   have hd:ops.toList.drop k=ops[k]::ops.toList.drop (k+1):=by
    rw [List.drop_eq_getElem_cons (by simpa using hlt)]; simp
   rw [hd,V6] at h
   rw [List.range'_succ]
   simp only [wpOps,Array.getElem?_eq_getElem hlt]
   rw [a1y ops a.tmps hf]
   cases hw:M6 ops.toList fr ops[k] with
   | true=>
     rw [hw] at h
     simp only [if_true] at h ⊢
     left
     refine d3R hT hC hF h S (fun s1 h1=>F.left h1) (fun v=>Fr.runC hF _ _ _) (fun v=>Fr.pure _) hf hg (fun v s1 v' w' K' h2 st fre hle r=>?_) (fun v s1 v' w' K' h2 st fre hle r=>?_)
     · refine ih (k+1) _ x s1 s' K' _ w' (by omega) h2 st.sim (fre K') (a1a (hf.mono st.le) _ r) (hg.mono st.le) fun e a2 w2 L=>?_
       rw [O5] at L
       exact hq e a2 w2 (a0P.from st hle L)
     · obtain ⟨rfl,rfl⟩:=o9 h2
       exact hq _ a w' ⟨K',st,hf.mono st.le,rfl,v',rfl,r⟩
   | false=>
     rw [hw] at h
     simp only [Bool.false_eq_true,if_false] at h ⊢
     refine ih (k+1) _ x s s' K _ w (by omega) h S F (a1a hf _ (VR.undef K)) hg fun e a2 w2 L=>?_
     rw [O5] at L
     exact hq e a2 w2 L
theorem a0P.cases {K:KM} {ds:List Deferred} {x:Xc} {fr':List Value} {e:Exit} {a':Act} {w':World} (hx:x≠.normal) (h:a0P B0 w0 K s' ds x fr' e a' w'):e≠.normal:=by
 obtain ⟨K',_,_,_,q⟩:=h
 cases x with
 | normal=>exact absurd rfl hx
 | exit id=>intro e'; subst e'; cases q
 | ret=>intro e'; subst e'; cases q
 | pan v=>obtain ⟨v',rfl,_⟩:=q; intro e'; cases e'
theorem a5o {next:Act→World→Prop} {Q:Exit→Act→World→Prop} {e:Exit} {a:Act} {w:World} (he:e≠.normal) (h:Q e a w):Exit.then next Q e a w:=by
 cases e with
 | normal=>exact absurd rfl he
 | _=>exact h
theorem d0S (hT:TabOk P T) (hM:P.follows .mixedOrders=true) (hC:a0W P T B0 w0 call) (hF:∀ f vs,Fr (call f vs)) (N:Nat) :
 ∀ c fr s x s' K a w Q,K6 P T N call c fr s=some (x,s')→Sim B0 w0 K s.h w→K8 K s s'→VRL K a.tmps.toList fr→GK T K →
   (∀ e a' w',a0P B0 w0 K s' a.defers x.1 x.2 e a' w'→Q e a' w')→c.wp P Q a w:=by
 have hFe:∀ c fr,Fr (K6 P T N call c fr):=Fr.execC hF N
 intro c
 induction c with
 | skip=>
   intro fr s x s' K a w Q h S F hf hg hq
   obtain ⟨rfl,rfl⟩:=o9 h
   exact wp_skip (hq _ _ _ ⟨K,Step.same S rfl,hf,rfl,rfl⟩)
 | region id ops draw=>
   intro fr s x s' K a w Q h S F hf hg hq
   cases draw with
   | false=>
     have h:Y0 P T call ops.toList ops.toList fr s=some (x,s'):=h
     refine wp_region ?_
     rw [List.range_eq_range']
     exact d7R hT hC hF ops ops.size 0 fr x s s' K a w (by simp) (by simpa using h) S F hf hg hq
   | true=>
     have h:M.bind (O4 P T (D7 call) ops.toList ops.toList fr) (fun y=>M.guard (E9 ops.toList (H9 ops.toList y.2) [] [] 0) <| M.pure (Xc.normal,y.1)) s=some (x,s'):=h
     obtain ⟨⟨fr1,feet⟩,s1,h1,h2⟩:=w9 h
     obtain ⟨hok,h3⟩:=A8 h2
     obtain ⟨rfl,rfl⟩:=o9 h3
     exact a4h hT hM (c2d hC) (Fr.okCall hF) ops h1 hok S F hf hg fun a' w' K' st r d=>hq _ _ _ ⟨K',st,r,d,rfl⟩
 | seq c1 c2 ih1 ih2=>
   intro fr s x s' K a w Q h S F hf hg hq
   have h:M.bind (K6 P T N call c1 fr) (fun r=>l7 r.1 (K6 P T N call c2 r.2) (fun id=>M.pure (.exit id,r.2)) (M.pure (.ret,r.2)) (fun v=>M.pure (.pan v,r.2))) s=some (x,s'):=h
   obtain ⟨⟨x1,fr1⟩,s1,h2,h3⟩:=w9 h
   refine wp_seq ?_
   by_cases hx:x1=.normal
   · subst hx
     have h3:K6 P T N call c2 fr1 s1=some (x,s'):=h3
     have hle:=(hFe _ _).le h3
     refine ih1 fr s (.normal,fr1) s1 K a w _ h2 S (F.left hle) hf hg fun e a' w' L=>?_
     obtain ⟨K1,st,r1,d1,e1⟩:=L
     have e1:e=.normal:=e1
     subst e1
     exact ih2 fr1 s1 x s' K1 a' w' Q h3 st.sim (F.right (hFe _ _) h2) r1 (hg.mono st.le) fun e a2 w2 L=>hq e a2 w2 (a0P.from st hle (d1 ▸ L))
   · have h4:M.pure (x1,fr1) s1=some (x,s'):=by
      cases x1 with
      | normal=>exact absurd rfl hx
      | _=>exact h3
     obtain ⟨rfl,rfl⟩:=o9 h4
     refine ih1 fr s _ _ K a w _ h2 S F hf hg fun e a' w' L=>?_
     exact a5o (L.cases hx) (hq _ _ _ L)
 | cond o c1 c2 ih1 ih2=>
   intro fr s x s' K a w Q h S F hf hg hq
   obtain ⟨u,e1,h1⟩:=C9 h
   have r:=F5 hf hg e1
   rcases b0B h1 with ⟨rfl,h2⟩ | ⟨rfl,h2⟩
   · exact wp_cond_true (a3R r) (ih1 fr s x s' K a w Q h2 S F hf hg hq)
   · exact wp_cond_false (a3R r) (ih2 fr s x s' K a w Q h2 S F hf hg hq)
 | block id b ih=>
   intro fr s x s' K a w Q h S F hf hg hq
   obtain ⟨⟨x1,fr1⟩,s1,h2,h3⟩:=w9 h
   obtain ⟨rfl,rfl⟩:=o9 h3
   refine wp_block ?_
   refine ih fr s _ _ K a w _ h2 S F hf hg fun e a' w' L=>?_
   obtain ⟨K1,st,r1,d1,e1⟩:=L
   cases x1 with
   | normal=>
     have e1:e=.normal:=e1
     subst e1
     exact hq _ _ _ ⟨K1,st,r1,d1,rfl⟩
   | exit id'=>
     have e1:e=.exit id':=e1
     subst e1
     show (if id'=id then Q .normal a' w' else Q (.exit id') a' w')
     cases hb:Nat.beq id' id with
     | true=>
       rw [if_pos (Nat.eq_of_beq_eq_true hb)]
       refine hq _ _ _ ⟨K1,st,r1,d1, ?_⟩
       show exC K1 (Y3 id (.exit id')) .normal
       unfold Y3; simp only [hb]; rfl
     | false=>
       rw [if_neg (fun q=>by subst q; simp at hb)]
       refine hq _ _ _ ⟨K1,st,r1,d1, ?_⟩
       show exC K1 (Y3 id (.exit id')) (.exit id')
       unfold Y3; simp only [hb]; rfl
   | ret=>
     have e1:e=.ret:=e1
     subst e1
     exact hq _ _ _ ⟨K1,st,r1,d1,rfl⟩
   | pan v=>
     obtain ⟨v',rfl,q⟩:=e1
     exact hq _ _ _ ⟨K1,st,r1,d1,v',rfl,q⟩
 | loop b ih=>
   intro fr s x s' K a w Q h S F hf hg hq
   have h:U4 (K6 P T N call b) N fr s=some (x,s'):=h
   refine wp_loop_rounds N ?_
   have hFl:∀ n fr,Fr (U4 (K6 P T N call b) n fr):=fun n=>Fr.loopN (hFe b) n
   have key:∀ n fr s K a w,U4 (K6 P T N call b) n fr s=some (x,s')→Sim B0 w0 K s.h w→K8 K s s'→VRL K a.tmps.toList fr→GK T K→(∀ e a' w',a0P B0 w0 K s' a.defers x.1 x.2 e a' w'→Q e a' w')→Code.rounds P b Q n a w:=by
    intro n
    induction n with
    | zero=>intro fr s K a w h; cases h
    | succ n ihn=>
      intro fr s K a w h S F hf hg hq
      rw [Q0] at h
      obtain ⟨⟨x1,fr1⟩,s1,h2,h3⟩:=w9 h
      show b.wp P (Exit.then (Code.rounds P b Q n) Q) a w
      by_cases hx:x1=.normal
      · subst hx
        have h3:U4 (K6 P T N call b) n fr1 s1=some (x,s'):=h3
        have hle:=(hFl _ _).le h3
        refine ih fr s (.normal,fr1) s1 K a w _ h2 S (F.left hle) hf hg fun e a' w' L=>?_
        obtain ⟨K1,st,r1,d1,e1⟩:=L
        have e1:e=.normal:=e1
        subst e1
        exact ihn fr1 s1 K1 a' w' h3 st.sim (F.right (hFe _ _) h2) r1 (hg.mono st.le) fun e a2 w2 L=>hq e a2 w2 (a0P.from st hle (d1 ▸ L))
      · have h4:M.pure (x1,fr1) s1=some (x,s'):=by
         cases x1 with
         | normal=>exact absurd rfl hx
         | _=>exact h3
        obtain ⟨rfl,rfl⟩:=o9 h4
        refine ih fr s _ _ K a w _ h2 S F hf hg fun e a' w' L=>?_
        exact a5o (L.cases hx) (hq _ _ _ L)
   exact key N fr s K a w h S F hf hg hq
 | exit id=>
   intro fr s x s' K a w Q h S F hf hg hq
   obtain ⟨rfl,rfl⟩:=o9 h
   exact wp_exit (hq _ _ _ ⟨K,Step.same S rfl,hf,rfl,rfl⟩)
 | ret=>
   intro fr s x s' K a w Q h S F hf hg hq
   obtain ⟨rfl,rfl⟩:=o9 h
   exact wp_ret (hq _ _ _ ⟨K,Step.same S rfl,hf,rfl,rfl⟩)
 | _=>intro fr s x s' K a w Q h; cases h
theorem d8g {β:Type} (fr:List Value) (rs:List ResultVar):∀ (k:List Value→M β),a3K T D8 fr rs k=M.bind (U1 T fr rs) k:=by
 induction rs with
 | nil=>intro k; rfl
 | cons r rs ih=>
   intro k
   cases r with
   | tmp t=>
     show a3K T D8 fr rs (fun vs=>k (d9 fr t::vs))=M.bind (M.bind (U1 T fr rs) fun vs=>M.pure (d9 fr t::vs)) k
     rw [N8,ih]; rfl
   | cell ad t=>
     show K5 (d9 fr ad) (fun ad=>M.bind (a1h T t ad) fun v=>a3K T D8 fr rs fun vs=>k (v::vs))=M.bind (K5 (d9 fr ad) fun ad=>M.bind (a1h T t ad) fun v=>M.bind (U1 T fr rs) fun vs=>M.pure (v::vs)) k
     cases d9 fr ad with
     | pointer o=>cases o with
       | none=>rfl
       | some ad=>
         show M.bind (a1h T t ad) (fun v=>a3K T D8 fr rs fun vs=>k (v::vs))=M.bind (M.bind (a1h T t ad) fun v=>M.bind (U1 T fr rs) fun vs=>M.pure (v::vs)) k
         rw [N8]; congr 1; funext v; rw [ih,N8]; rfl
     | _=>rfl
theorem d4Q {fn:Func} {ex:Xc} {r:CR} (h:b6b T D8 fn ex fr s=some (r,s')) :
 ((ex=.normal∨ex=.ret)∧∃ v,r=.ret v∧a2f T fn (.ret,fr) s=some (v,s'))∨∃ v,ex=.pan v∧r=.pan v∧s'=s:=by
 have key:a3K T D8 fr fn.results.toList (fun vs=>M.pure (CR.ret (a4z vs))) s=some (r,s')→∃ v,r=.ret v∧a2f T fn (.ret,fr) s=some (v,s'):=by
  intro h
  rw [d8g] at h
  obtain ⟨vs,s1,h1,h2⟩:=w9 h
  obtain ⟨rfl,rfl⟩:=o9 h2
  refine ⟨a4z vs,rfl, ?_⟩
  show M.bind (U1 T fr fn.results.toList) (fun vs=>M.pure (a4z vs)) s=_
  exact M5 h1 rfl
 cases ex with
 | normal=>exact Or.inl ⟨Or.inl rfl,key h⟩
 | exit id=>cases h
 | ret=>exact Or.inl ⟨Or.inr rfl,key h⟩
 | pan v=>obtain ⟨rfl,rfl⟩:=o9 h; exact Or.inr ⟨v,rfl,rfl,rfl⟩
theorem d1M (hT:TabOk P T) (hM:P.follows .mixedOrders=true) {ext:Nat→Option (List Value→M Value)} (hE:b1i P T B0 w0 ext) (N n:Nat):a0W P T B0 w0 (a5A P T ext N n):=by
 induction n with
 | zero=>intro f vs s r s' w K vs' h; cases h
 | succ n ih=>
   intro f vs s r s' w K vs' h S hg F hvs
   have h0:(match ext f with | some g=>M.bind (g vs) fun v=>M.pure (CR.ret v) | none=>M.obind (T.funcs.get f) fun fn=>a0o P T N (a5A P T ext N n) fn f vs) s=some (r,s'):=h
   have hFc:=Fr.callC (p:=P) (T:=T) hE.1 N n
   cases hx:ext f with
   | some g=>
     rw [hx] at h0
     obtain ⟨v,s1,h1,h2⟩:=w9 h0
     obtain ⟨rfl,rfl⟩:=o9 h2
     rcases hE.2 f g hx vs s v _ w K vs' h1 S hg F hvs with ⟨v',w',K',q1,q2,q3⟩ | ⟨q1,q2⟩
     · exact Or.inl ⟨v,v',w',K',rfl,q1,q2,q3⟩
     · exact Or.inr ⟨q1,q2⟩
   | none=>
     rw [hx] at h0
     obtain ⟨fn,hfn,h1⟩:=C9 h0
     obtain ⟨hPf,hnum⟩:=hT.funcs f fn hfn
     unfold a0o at h1
     cases hb:fn.body with
     | none=>
       rw [hb] at h1
       obtain ⟨v,s1,h2,h3⟩:=w9 h1
       obtain ⟨rfl,rfl⟩:=o9 h3
       have h4:a0u P T (fun _=>none) 1 f vs s=some (v,s'):=by
        show M.obind (T.funcs.get f) (fun fn=>enter P T (a0u P T (fun _=>none) 0) 0 fn f vs) s=_
        rw [hfn]
        show enter P T (a0u P T (fun _=>none) 0) 0 fn f vs s=_
        unfold enter
        rw [hb]
        exact h2
       rcases a2U hT hM (ext:=fun _=>none) (B0:=B0) (w0:=w0) ⟨fun _ _ q=>(by cases q),fun _ _ q=>(by cases q)⟩ 1 f vs s v s' w K vs' h4 S hg F hvs with ⟨v',w',K',q1,q2,q3⟩ | ⟨q1,q2⟩
       · exact Or.inl ⟨v,v',w',K',rfl,q1,q2,q3⟩
       · exact Or.inr ⟨q1,q2⟩
     | some c=>
       right
       rw [hb] at h1
       obtain ⟨⟨ex,fr1⟩,s1,h2,h3⟩:=w9 h1
       have hle:s1.c≤s'.c:=(Fr.finK fn ex fr1).le h3
       refine ⟨?_, ?_⟩
       · unfold callFunc
         simp [hPf,hb]
         simpa using hnum
       · refine calls_of_wp hPf hb ?_
         rw [I5,J2,a3f] at h2
         refine d0S hT hM ih hFc N c _ s (ex,fr1) s1 K _ w _ h2 S (F.left hle) ?_ hg fun e a' w' L=>?_
         · show VRL K (vs'.toArray ++ Array.replicate (fn.ntmps - vs'.toArray.size) undef).toList (vs ++ List.replicate (fn.ntmps - vs.length) undef)
           simp only [Array.toList_append,Array.toList_replicate,List.size_toArray,hvs.len]
           exact hvs.append (VRL.replicate _)
         · obtain ⟨K1,st,r1,d1,e1⟩:=L
           rcases d4Q h3 with ⟨hex,v,rfl,hfin⟩ | ⟨v,hex,rfl,rfl⟩
           · obtain ⟨f1,f2,f3,v',f4,f5⟩:=a5g hT hfin r1 st.sim
             have st2:Step B0 w0 K s' w' K1:=⟨st.le,fun i g hi=>st.far i g (by omega),by rw [f2]; exact st.sim⟩
             rcases hex with rfl | rfl
             · have e1:e=.normal:=e1
               subst e1
               exact ⟨d1,v',f4,v',K1,rfl,st2,f5⟩
             · have e1:e=.ret:=e1
               subst e1
               exact ⟨d1,v',f4,v',K1,rfl,st2,f5⟩
           · subst hex
             obtain ⟨v',rfl,q⟩:=e1
             exact ⟨d1,v',K1,rfl,st,q⟩
theorem Le.foot {α:Type} {m m':M α} (h:Le m m'):Le (M.foot m) (M.foot m'):=fun s r e=>by
 unfold M.foot at e ⊢
 cases hm:m ⟨s.c,s.h, [], []⟩ with
 | none=>rw [hm] at e; cases e
 | some x=>rw [hm] at e; rw [h _ _ hm]; exact e
theorem Le.xcase {β:Type} {x:Xc} {a a':M β} {b b':Nat→M β} {c c':M β} {d d':Value→M β} (h1:Le a a') (h2:∀ i,Le (b i) (b' i)) (h3:Le c c') (h4:∀ v,Le (d v) (d' v)):Le (l7 x a b c d) (l7 x a' b' c' d'):=
 a0D (fun _=>h1) (fun i _=>h2 i) (fun _=>h3) (fun v _=>h4 v)
section
variable {c c':j4} (hc:∀ f vs,Le (c f vs) (c' f vs))
include hc
theorem b9i (f:Nat) (vs:List Value):Le (D7 c f vs) (D7 c' f vs):=Le.bind (hc f vs) fun _=>Le.refl _
theorem c3K {β:Type} (fr:List Value) (o:Op) {kn kp kn' kp':Value→M β} (h1:∀ v,Le (kn v) (kn' v)) (h2:∀ v,Le (kp v) (kp' v)):Le (X5 P T D8 c fr o kn kp) (X5 P T D8 c' fr o kn' kp'):=by
 have hs:∀ m:M Value,Le (D8.bv β m kn) (D8.bv β m kn'):=fun m=>Le.bind (Le.refl _) h1
 cases o with
 | move x=>exact Le.obind fun v _=>h1 v
 | assign x=>exact Le.obind fun v _=>h1 v
 | call cl=>
   obtain ⟨cal,args,ts⟩:=cl
   cases cal with
   | value f=>
     refine Le.obind fun ga _=>?_
     show Le (M.bind (c ga.1 ga.2) fun r=>P5 r kn kp) (M.bind (c' ga.1 ga.2) fun r=>P5 r kn' kp')
     refine Le.bind (hc _ _) fun r=>?_
     cases r with
     | ret v=>exact h1 v
     | pan v=>exact h2 v
   | builtin b=>exact hs _
   | invoke r m=>exact Le.fail _
 | panic x=>
   refine Le.obind fun v _=>?_
   cases a0A v with
   | true=>exact h2 v
   | false=>exact Le.fail _
 | _=>exact hs _
theorem d0U (ops os:List Oper):∀ fr,Le (Y0 P T c ops os fr) (Y0 P T c' ops os fr):=by
 induction os with
 | nil=>intro fr; exact Le.refl _
 | cons o os ih=>
   intro fr
   rw [V6,V6]
   cases M6 ops fr o with
   | true=>exact c3K hc _ _ (fun v=>ih _) (fun v=>Le.refl _)
   | false=>exact ih _
theorem b8W (fr:List Value) (o:Op):Le (M7 P T (D7 c) fr o) (M7 P T (D7 c') fr o):=by
 unfold M7
 cases a2s o with
 | none=>exact Le.refl _
 | some cl=>
   obtain ⟨cal,args,ts⟩:=cl
   cases cal with
   | value f=>
     show Le (a1E T fr f args.toList (D7 c)) (a1E T fr f args.toList (D7 c'))
     unfold a1E ev evs
     refine Le.obind fun v _=>Le.obind fun vs _=>?_
     cases v with
     | func fn first captured=>cases fn with
       | func g=>exact b9i hc _ _
       | _=>exact Le.fail _
     | _=>exact Le.fail _
   | builtin b=>exact Le.refl _
   | invoke r m=>exact Le.fail _
theorem d0h (ops os:List Oper):∀ fr,Le (O4 P T (D7 c) ops os fr) (O4 P T (D7 c') ops os fr):=by
 induction os with
 | nil=>intro fr; exact Le.refl _
 | cons o os ih=>
   intro fr
   rw [a0a,a0a]
   split
   · exact Le.bind (Le.foot (b8W hc _ _)) fun x=>Le.bind (ih _) fun _=>Le.refl _
   · exact Le.bind (ih _) fun _=>Le.refl _
theorem c1w (N:Nat):∀ k fr,Le (K6 P T N c k fr) (K6 P T N c' k fr):=by
 intro k
 induction k with
 | region id ops draw=>
   intro fr
   cases draw with
   | false=>exact d0U hc _ _ _
   | true=>
     show Le (M.bind (O4 P T (D7 c) ops.toList ops.toList fr) fun y=>M.guard (E9 ops.toList (H9 ops.toList y.2) [] [] 0) <| M.pure (Xc.normal,y.1)) (M.bind (O4 P T (D7 c') ops.toList ops.toList fr) fun y=>M.guard (E9 ops.toList (H9 ops.toList y.2) [] [] 0) <| M.pure (Xc.normal,y.1))
     exact Le.bind (d0h hc _ _ _) fun _=>Le.refl _
 | seq a b iha ihb=>intro fr; exact Le.bind (iha fr) fun r=>Le.xcase (ihb _) (fun _=>Le.refl _) (Le.refl _) (fun _=>Le.refl _)
 | cond x a b iha ihb=>
   intro fr
   refine Le.obind fun v _=>?_
   cases v with
   | bool t=>cases t with
     | true=>exact iha fr
     | false=>exact ihb fr
   | _=>exact Le.fail _
 | block id b ih=>intro fr; exact Le.bind (ih fr) fun r=>Le.refl _
 | loop b ih=>
   intro fr
   have key:∀ n fr,Le (U4 (K6 P T N c b) n fr) (U4 (K6 P T N c' b) n fr):=by
    intro n
    induction n with
    | zero=>intro fr; exact Le.fail _
    | succ n ihn=>intro fr; rw [Q0,Q0]; exact Le.bind (ih fr) fun r=>Le.xcase (ihn _) (fun _=>Le.refl _) (Le.refl _) (fun _=>Le.refl _)
   exact key N fr
 | _=>intro fr; exact Le.refl _
theorem b8S (N:Nat) (fn:Func) (f:Nat) (args:List Value):Le (a0o P T N c fn f args) (a0o P T N c' fn f args):=by
 unfold a0o
 cases fn.body with
 | none=>exact Le.refl _
 | some k=>exact Le.bind (c1w hc N k _) fun _=>Le.refl _
end
noncomputable def atF (P:Program) (T:Tab) (ext:Nat→Option (List Value→M Value)) (N:Nat) (f:Nat) (call:j4) (args:List Value):M CR:=match ext f with
 | some g=>M.bind (g args) fun v=>M.pure (CR.ret v)
 | none=>M.obind (T.funcs.get f) fun fn=>a0o P T N call fn f args
def a2V (P:Program) (T:Tab) (ext:Nat→Option (List Value→M Value)) (N:Nat) (sh:R8):Prop:=∀ f g,sh.get f=some g→∀ call args,Le (g call args) (atF P T ext N f call args)
theorem d3I {ext:Nat→Option (List Value→M Value)} {N:Nat} {sh:R8} (h:a2V P T ext N sh) (n:Nat):∀ f vs,Le (a0L sh n f vs) (a5A P T ext N n f vs):=by
 induction n with
 | zero=>intro f vs; exact Le.fail _
 | succ n ih=>
   intro f vs
   show Le (M.obind (sh.get f) fun g=>g (a0L sh n) vs) (atF P T ext N f (a5A P T ext N n) vs)
   cases hg:sh.get f with
   | none=>exact Le.fail _
   | some g=>
     refine Le.trans (h f g hg _ _) ?_
     unfold atF
     cases ext f with
     | some g=>exact Le.refl _
     | none=>exact Le.obind fun fn _=>b8S ih N fn f vs
theorem a2j {ext:Nat→Option (List Value→M Value)} {N f:Nat} {fn:Func} {c:Code} (he:ext f=none) (hf:T.funcs.get f=some fn) (hb:fn.body=some c) (pn:Bool) (pl:Pl) {call:j4} {args:List Value} {m:M CR}
 (h:D5 P T C8 pn N call fn c pl args=m):Le m (atF P T ext N f call args):=by
 subst h
 unfold atF
 rw [he,hf]
 show Le _ (a0o P T N call fn f args)
 unfold a0o D5
 rw [hb,a3M]
 exact d4x N c pl CR _ _ (fun ex fr=>b6b T D8 fn ex fr) fun _ _=>Le.refl _
theorem d9j {ext:Nat→Option (List Value→M Value)} {N f:Nat} {g:List Value→M Value} (he:ext f=some g) {call:j4} {args:List Value}:Le (M.bind (g args) fun v=>M.pure (CR.ret v)) (atF P T ext N f call args):=by
 unfold atF; rw [he]; exact Le.refl _
theorem d2d (hT:TabOk P T) (hM:P.follows .mixedOrders=true) {ext:Nat→Option (List Value→M Value)} (hE:b1i P T B0 w0 ext) {N:Nat} {sh:R8} (hs:a2V P T ext N sh) (n:Nat):a0W P T B0 w0 (a0L sh n):=
 fun f vs s r s' w K vs' h=>d1M hT hM hE N n f vs s r s' w K vs' (d3I hs n f vs s _ h)
end
end Go.V
end
section
noncomputable section
namespace Go.V
abbrev R2:=Xc×List Value
def l6 {β:Type}:Value→M β:=fun _=>M.fail
def j5 (v:Value):M Value:=K5 v fun a=>M.bind (loadN a 1) fun vs=>M.pure (d9 vs 0)
def E8 (n:Nat) (v:Value):M Value:=K5 v fun a=>M.bind (loadN a n) fun vs=>M.pure (.agg ⟨vs⟩)
def r9 (n:Nat) (va v:Value):M Value:=K5 va fun a=>M.bind (M.guard (!(Nat.beq n 0) && Nat.beq (F4 v.cells.toList) n) <| storeN a v.cells.toList) fun _=>M.pure undef
def J6 (zs:List Value):M Value:=M.bind (M9 zs) fun a=>M.pure (.pointer (some a))
def U7 (v:Value):M Value:=M.guard (!(a4u v.cells.toList)) <| M.bind (M9 v.cells.toList) fun a=>M.pure (.pointer (some a))
def d7t (os:List (Nat×Nat)):List Value→List Value→Option (List Value):=
 List.rec (motive:=fun _=>List Value→List Value→Option (List Value)) (fun _ cs=>some cs) (fun q _ ih vs cs=>match vs with
  | []=>none
  | v::vs=>match Nat.beq (F4 v.cells.toList) q.2 && Nat.ble (q.1+q.2) (F4 cs) with
    | true=>ih vs (V9 v.cells.toList cs q.1)
    | false=>none) os
def H7 (os:List (Nat×Nat)) (vs zs:List Value):M Value:=M.obind (d7t os vs zs) fun cs=>M.pure (.agg ⟨cs⟩)
def H8 (n len:Nat) (os:List (Nat×Nat)) (vs zs:List Value):M Value:=M.obind (d7t os vs zs) fun cs=>M.bind (M9 cs) fun a=>M.pure (.slice (some a) len n)
def q8 (v:Value):M Value:=match v with
 | .pointer a=>M.guard a.isSome <| M.pure (.pointer a)
 | .func fn a b=>M.guard (b1P fn) <| M.pure (.func fn a b)
 | _=>M.fail
def q9 (vc va vb:Value):M Value:=match vc with
 | .bool t=>match t with
   | true=>M.pure va
   | false=>M.pure vb
 | _=>M.fail
def I7 (k:IntKind) (x:Value):M Value:=match x with
 | .int _ n=>M.pure (.int k (U6 k n))
 | _=>M.fail
def l9 (off:Nat) (x:Value):M Value:=K5 x fun a=>M.pure (.pointer (some (fwd a off)))
def elemAtN (n:Nat) (a:Addr) (i len:Nat):M Value:=M.guard (Nat.blt i len && !(Nat.beq n 0)) <| M.pure (.pointer (some (fwd a (i * n))))
def F3 (n:Nat) (x ix:Value):M Value:=M.obind (a0K ix) fun i=>match x with
 | .slice a len es=>M.obind a fun a=>M.guard (Nat.beq es n) <| elemAtN n a i len
 | _=>M.fail
def e0i (n len:Nat) (x ix:Value):M Value:=M.obind (a0K ix) fun i=>K5 x fun a=>elemAtN n a i len
def J5 (a b:Value):M Value:=M.obind (a0K b) fun j=>match a with
 | .string s=>M.obind (M8 s.data.toList j) fun b=>M.pure (a0x b)
 | _=>M.fail
def z8 (i:Nat) (a:Value):M Value:=match a with
 | .tuple vs=>M.obind (M8 vs.toList i) M.pure
 | _=>M.fail
def K7 (x:Value):M Value:=match x with
 | .string s=>M.pure (goInt (F4 s.data.toList))
 | _=>M.fail
def H6 (x:Value):M Value:=match x with
 | .slice _ n _=>M.pure (goInt n)
 | _=>M.fail
def Q9 (e:TI) (s x:Value):M Value:=M.bind (a3J e.size x) fun vs=>fList vs fun vs=>a1O e s vs
def J4 (x:Value) (lo hi:Option Value):M Value:=match x with
 | .string s=>b3L s lo hi
 | _=>M.fail
def cutN (n:Nat) (a:Addr) (len:Nat) (lo hi:Option Value):M Value:=
 M.obind (V4 0 lo) fun l=>M.obind (V4 len hi) fun h=>
 M.guard (Nat.ble l h && Nat.ble h len && !(Nat.beq n 0)) <| M.pure (.slice (some (fwd a (l * n))) (h - l) n)
def Q8 (n:Nat) (x:Value) (lo hi:Option Value):M Value:=match x with
 | .slice a len es=>match a with
   | some a=>M.guard (Nat.beq es n) <| cutN n a len lo hi
   | none=>M.guard (Nat.beq len 0) <| cutNil lo hi
 | _=>M.fail
def d7s (fn:Fn) (va vb:List Value):M Value:=M.pure (.func fn ⟨va⟩ ⟨vb⟩)
section
variable (p:Program) (T:Tab)
def P7 (op:BinOp) (t:TypeId) (x y:Operand) (a b:Value):M Value:=match a with
 | .int k n=>match b with
   | .int k' m=>match a0l op k k' n m with
     | some v=>M.pure v
     | none=>a2E p T op t x y a b
   | _=>M.fail
 | .string s=>match b with
   | .string s'=>M.lift (b0Z op s.data.toList s'.data.toList)
   | _=>M.fail
 | _=>a2E p T op t x y a b
def xUn (op:UnOp) (a:Value):M Value:=M.guard (plain a) <| pureV (a0H p (Op.unary op a))
def e9L (ts:Array TypeId) (vs:List Value):M Value:=M.guard (L6 plain vs) <| pureV (a0H p (Builtin.max_ ts 0 ⟨vs⟩))
def e0L (t:TypeId) (a b v:Value):M Value:=M.bind (a1A T t a b v) fun _=>M.pure undef
def b1c:M Value:=M.bind (new (.map [])) fun b=>M.pure (.map (some b))
end
def a2w:Code→Nat→Option (List Oper)
 | .region i ops _,id=>match Nat.beq i id with
   | true=>some ops.toList
   | false=>none
 | .seq a b,id=>match a2w a id with
   | some l=>some l
   | none=>a2w b id
 | .cond _ a b,id=>match a2w a id with
   | some l=>some l
   | none=>a2w b id
 | .block _ b,id=>a2w b id
 | .loop b,id=>a2w b id
 | _,_=>none
def J7 (c:Code) (id:Nat):List Oper:=match a2w c id with
 | some l=>l
 | none=>[]
def D6 (f:Func):Code:=match f.body with
 | some c=>c
 | none=>.skip
end Go.V
end
section
noncomputable section
namespace Go.V
theorem e8r {β:Type} (m:M Value) (k:Value→M β):D8.bv β m k=M.bind m k:=Eq.trans rfl rfl
theorem d9z {α:Type} (x y:α):l8 true x y=x:=Eq.trans rfl rfl
theorem d9o {α:Type} (x y:α):l8 false x y=y:=Eq.trans rfl rfl
section
variable (p:Program) (T:Tab)
theorem a0b {op:BinOp} {t:TypeId} {x y:Operand} {k:IntKind} {n m:Int} {v:Value} (h1:a0M (a0C op k) n m=none) (h:a3V op k n m=some v):P7 p T op t x y (.int k n) (.int k m)=M.pure v:=by
 have hk:a0Z k k=true:=by cases k <;> rfl
 have:a0l op k k n m=some v:=by
  unfold a0l; rw [h1]; simp only [hk,h]
 unfold P7; simp only [this]
theorem Z8 {op:BinOp} (h:op≠.shl) (h':op≠.shr) (k:IntKind) (n m:Int):a0M (a0C op k) n m=none:=by
 unfold a0M
 cases n with
 | ofNat n=>cases m with
   | ofNat m=>cases op <;> first | rfl | exact absurd rfl h | exact absurd rfl h'
   | negSucc m=>rfl
 | negSucc n=>rfl
theorem d4e (t:TypeId) (x y:Operand) (k:IntKind) (n m:Int):P7 p T .lss t x y (.int k n) (.int k m)=M.pure (.bool (decide (n<m))):=a0b p T (Z8 (by decide) (by decide) _ _ _) rfl
theorem d6m (t:TypeId) (x y:Operand) (k:IntKind) (n m:Int):P7 p T .leq t x y (.int k n) (.int k m)=M.pure (.bool (decide (n≤m))):=a0b p T (Z8 (by decide) (by decide) _ _ _) rfl
theorem d5d (t:TypeId) (x y:Operand) (k:IntKind) (n m:Int):P7 p T .gtr t x y (.int k n) (.int k m)=M.pure (.bool (decide (m<n))):=a0b p T (Z8 (by decide) (by decide) _ _ _) rfl
theorem d6B (t:TypeId) (x y:Operand) (k:IntKind) (n m:Int):P7 p T .geq t x y (.int k n) (.int k m)=M.pure (.bool (decide (m≤n))):=a0b p T (Z8 (by decide) (by decide) _ _ _) rfl
theorem d2T (t:TypeId) (x y:Operand) (k:IntKind) (n m:Int):P7 p T .eql t x y (.int k n) (.int k m)=M.pure (.bool (decide (n=m))):=a0b p T (Z8 (by decide) (by decide) _ _ _) rfl
theorem d3L (t:TypeId) (x y:Operand) (k:IntKind) (n m:Int):P7 p T .neq t x y (.int k n) (.int k m)=M.pure (.bool (!(decide (n=m)))):=a0b p T (Z8 (by decide) (by decide) _ _ _) rfl
theorem b6U (t:TypeId) (x y:Operand) (k:IntKind) (n m:Int):P7 p T .add t x y (.int k n) (.int k m)=M.pure (.int k (U6 k (n+m))):=a0b p T (Z8 (by decide) (by decide) _ _ _) rfl
theorem d5h (t:TypeId) (x y:Operand) (k:IntKind) (n m:Int):P7 p T .sub t x y (.int k n) (.int k m)=M.pure (.int k (U6 k (n - m))):=a0b p T (Z8 (by decide) (by decide) _ _ _) rfl
end
end Go.V
end
