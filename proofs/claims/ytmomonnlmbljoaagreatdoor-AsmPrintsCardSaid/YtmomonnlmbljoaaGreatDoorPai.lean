import Derived.Orders
import Derived.LoopN
import Derived.Test.YtmomonnlmbljoaaGreatDoorPah
section
namespace Go.V
open Go.RowKit (Below)
section
variable {P:Program} {T:Tab} {B0:Nat} {w0:Base} {w:World} {K:KM} {s s':S} {a:Act} {fr:List Value} {v:Value}
def a5O (P:Program) (T:Tab) (B0:Nat) (w0:Base) (call:Nat→List Value→M Value):Prop:=
 ∀ f vs s v s' w K vs',call f vs s=some (v,s')→Sim B0 w0 K s.h w→GK T K→a2C K s s'→VRL K vs' vs →
   (∃ v' w' K',(callFunc f vs'.toArray).run P w=.ok (.value v') w'∧Step B0 w0 K s' w' K'∧VR K' v' v) ∨
   ((callFunc f vs'.toArray).run P w=.ok (.enter f vs'.toArray) w∧Calls P f vs'.toArray w fun e w'=>∃ v' K',e=.returned v'∧Step B0 w0 K s' w' K'∧VR K' v' v)
theorem b4w {x':Value} {fn:Fn} {x y:Array Value} (r:VR K x' (.func fn x y)):∃ x1 y1,x'=.func fn x1 y1∧VRL K x1.toList x.toList∧VRL K y1.toList y.toList:=by
 generalize hv:Value.func fn x y=z at r
 cases r with
 | plain hp=>subst hv; simp [V.plain] at hp
 | func h1 h2 h3 h4=>cases hv; exact ⟨_,_,rfl,⟨h1,h2⟩,⟨h3,h4⟩⟩
 | _=>cases hv
theorem a9y (hT:TabOk P T) {call:Nat→List Value→M Value} (hC:a5O P T B0 w0 call) {o:Oper} (h:a3v P T call fr o.op s=some (v,s')) (S:Sim B0 w0 K s.h w) (F:a2C K s s')
 (hf:VRL K a.tmps.toList fr) (hg:GK T K) {next:Act→World→Prop} {Q:Exit→Act→World→Prop}
 (hn:∀ v' w' K',Step B0 w0 K s' w' K'→VR K' v' v→next (a.put o.dst v') w'):o.wp P a w next Q:=by
 have good:a0x P B0 w0 K s' (execOp a.eval o) w v→o.wp P a w next Q:=by
  rintro ⟨n,w',K',r1,r2,r3⟩
  unfold Oper.wp
  rw [r1]
  rcases r3 with ⟨v',rfl,r⟩ | ⟨rfl,rfl⟩
  · exact hn v' w' K' r2 r
  · exact hn undef w' K' r2 (VR.undef K')
 unfold a3v at h
 cases hc:b0a o.op with
 | none=>
   rw [hc] at h
   exact good (b7U hT h S F hf hg)
 | some c=>
   rw [hc] at h
   have hop:o.op=.call c:=by
    cases ho:o.op <;> rw [ho] at hc <;> first | (cases hc; rfl) | cases hc
   have h':a9S P T call fr c s=some (v,s'):=h
   have hex:execOp a.eval o=(do let d ← resolve a.eval c o.type; invoke d.target d.args):=by
    unfold execOp; rw [hop]
   unfold a9S at h'
   cases hcal:c.callee with
   | builtin b=>
     rw [hcal] at h'
     refine good ?_
     have:=c2e (ty:=o.type) (consts:=c.args.map fun | .const _=>true | _=>false) hT h' S F hf hg
     rw [hex]
     have e:(do let d ← resolve a.eval c o.type; invoke d.target d.args)=builtin b c.argTypes o.type (c.args.map fun | .const _=>true | _=>false) (c.args.map a.eval):=by
      unfold resolve; rw [hcal]; rfl
     rw [e]
     exact this
   | value f=>
     rw [hcal] at h'
     obtain ⟨vf,e1,h1⟩:=a2r h'
     obtain ⟨vs,e2,h2⟩:=a6Q h1
     have rf:=a0k hf hg e1
     have rs:=a6y hf hg e2
     cases vf with
     | func fn first captured=>
       cases fn with
       | func g=>
         have h3:call g (M4 first.toList (M4 vs captured.toList)) s=some (v,s'):=h2
         rw [N9,N9] at h3
         obtain ⟨f1,c1,ef,rf1,rc1⟩:=b4w rf
         have rargs:VRL K (f1.toList ++ (c.args.toList.map a.eval ++ c1.toList)) (first.toList ++ (vs ++ captured.toList)):=rf1.append (rs.append rc1)
         have e:execOp a.eval o=callFunc g (f1.toList ++ (c.args.toList.map a.eval ++ c1.toList)).toArray:=by
          rw [hex]
          unfold resolve
          rw [hcal]
          show (do let d ← Deferred.ofValue (a.eval f) (c.args.map a.eval); invoke d.target d.args)=_
          rw [ef]
          show callFunc g (f1 ++ c.args.map a.eval ++ c1)=_
          congr 1
          apply Array.ext'
          simp
         rcases hC g _ s v s' w K _ h3 S hg F rargs with ⟨v',w',K',q1,q2,q3⟩ | ⟨q1,q2⟩
         · exact good ⟨.value v',w',K',by rw [e]; exact q1,q2,Or.inl ⟨v',rfl,q3⟩⟩
         · unfold Oper.wp
           rw [e,q1]
           refine q2.mono fun en w' hq=>?_
           obtain ⟨v',K',rfl,r1,r2⟩:=hq
           exact hn v' w' K' r1 r2
       | _=>exact absurd h2 (by intro q; cases q)
     | _=>exact absurd h2 (by intro q; cases q)
   | invoke r m=>rw [hcal] at h'; cases h'
theorem a8Q (ops:Array Oper) (tmps:Array Value) (hf:VRL K tmps.toList fr) (o:Oper):Region.wanted o (yielded ops tmps)=a3c ops.toList fr o:=by
 unfold Region.wanted a3c
 cases o.guard with
 | none=>rfl
 | some jb=>
   obtain ⟨j,b⟩:=jb
   show (yielded ops tmps j == some b)=(match a5x ops.toList j with | some t=>Q5 b (j4 fr t) | none=>false)
   have hd:a5x ops.toList j=(ops[j]?).bind (·.dst):=by
    unfold a5x
    rw [a4v,a6R]
    cases ops[j]? <;> rfl
   rw [hd]
   unfold yielded
   cases ho:ops[j]? with
   | none=>rfl
   | some o'=>
     simp only [Option.bind_some]
     cases o'.dst with
     | none=>rfl
     | some t=>
       show ((match tmps[t]? with | some (.bool b)=>some b | _=>none) == some b)=Q5 b (j4 fr t)
       have r:=hf.lget t
       rw [a5n tmps.toList,a6R] at r
       cases ht:tmps[t]? with
       | none=>
         have:j4 fr t=undef:=by
          rw [a5n,List.getElem?_eq_none]
          · rfl
          · rw [← hf.len]; simpa using ht
         rw [this]; rfl
       | some x=>
         rw [ht] at r
         have r:VR K x (j4 fr t):=r
         generalize j4 fr t=y at r
         cases r with
         | plain hp=>
           cases x with
           | bool b'=>show (some b' == some b)=(b' == b); rfl
           | _=>rfl
         | _=>rfl
theorem a7T {K':KM} (hf:VRL K' a.tmps.toList fr) (o:Oper) {v':Value} (r:VR K' v' v):VRL K' (a.put o.dst v').tmps.toList (a0B fr o v):=by
 unfold Act.put a0B
 cases o.dst with
 | none=>exact hf
 | some t=>
   have:=hf.lset t r
   simpa using this
theorem a4o (a:Act) (d:Option Tmp) (v:Value):(a.put d v).defers=a.defers:=by cases d <;> rfl
theorem Step.trans {s1 s2:S} {w1 w2:World} {K1 K2:KM} (h1:Step B0 w0 K s1 w1 K1) (h2:Step B0 w0 K1 s2 w2 K2) (hc:s1.c≤s2.c):Step B0 w0 K s2 w2 K2:=
 ⟨KM.le_trans h1.le h2.le,fun i g hi=>(h2.far i g hi).trans (h1.far i g (Nat.le_trans hc hi)),h2.sim⟩
theorem a2C.right {α:Type} {m:M α} {x:α} {s1 s2:S} {K1:KM} (F:a2C K s s2) (hm:Fr m) (h1:m s=some (x,s1)):a2C K1 s1 s2:=fun i hi hi2=>by
 obtain ⟨dr,dw,_,_,e3,_,e5,_,e7,_⟩:=hm s x s1 h1
 rw [e7 i (fun q=>by have:=e5 i q; omega)]
 exact F i (Nat.le_trans e3 hi) hi2
theorem a2C.left {s1 s2:S} (F:a2C K s s2) (hc:s1.c≤s2.c):a2C K s s1:=fun i hi hi2=>F i hi (Nat.lt_of_lt_of_le hi2 hc)
theorem Fr.le {α:Type} {m:M α} (h:Fr m) {x:α} (e:m s=some (x,s')):s.c≤s'.c:=let ⟨_,_,_,_,q,_⟩:=h s x s' e; q
def b1F (B0:Nat) (w0:Base) (K:KM) (s':S) (ds:List Deferred) (ex:Ex) (fr':List Value):Exit→Act→World→Prop:=fun e a' w'=>
 ∃ K',Step B0 w0 K s' w' K'∧VRL K' a'.tmps.toList fr'∧a'.defers=ds∧(match ex with | .normal=>e=.normal | .exit id=>e=.exit id | .ret=>e=.ret)
theorem c3w (hT:TabOk P T) {call:Nat→List Value→M Value} (hC:a5O P T B0 w0 call) (hF:∀ f vs,Fr (call f vs)) (ops:Array Oper) {Q:Exit→Act→World→Prop} :
 ∀ (n k:Nat) (fr fr':List Value) (s s':S) (K:KM) (a:Act) (w:World),k+n=ops.size→a6B P T call ops.toList (ops.toList.drop k) fr s=some (fr',s')→Sim B0 w0 K s.h w→a2C K s s'→VRL K a.tmps.toList fr→GK T K →
   (∀ a' w' K',Step B0 w0 K s' w' K'→VRL K' a'.tmps.toList fr'→a'.defers=a.defers→Q .normal a' w')→wpOps P ops Q (List.range' k n) a w:=by
 intro n
 induction n with
 | zero=>
   intro k fr fr' s s' K a w hk h S F hf hg hq
   have:ops.toList.drop k=[]:=List.drop_eq_nil_of_le (by simp; omega)
   rw [this] at h
   obtain ⟨rfl,rfl⟩:=J8 h
   exact hq a w K (Step.same S rfl) hf rfl
 | succ n ih=>
   intro k fr fr' s s' K a w hk h S F hf hg hq
   have hlt:k<ops.size:=by omega
   have hd:ops.toList.drop k=ops[k]::ops.toList.drop (k+1):=by
    rw [List.drop_eq_getElem_cons (by simpa using hlt)]; simp
   rw [hd,a9M] at h
   rw [List.range'_succ]
   simp only [wpOps,Array.getElem?_eq_getElem hlt]
   rw [a8Q ops a.tmps hf]
   cases hw:a3c ops.toList fr ops[k] with
   | true=>
     rw [hw] at h
     simp only [if_true] at h ⊢
     left
     obtain ⟨v,s1,h1,h2⟩:=O7 h
     have hle2:=(Fr.runOps P T hF _ _ _).le h2
     refine a9y hT hC h1 S (F.left hle2) hf hg fun v' w' K' st r=>?_
     refine ih (k+1) _ fr' s1 s' K' _ w' (by omega) h2 st.sim (F.right (Fr.stepOp P T hF _ _) h1) (a7T (hf.mono st.le) _ r) (hg.mono st.le) fun a2 w2 K2 st2 r2 d2=>?_
     exact hq a2 w2 K2 (st.trans st2 hle2) r2 (by rw [d2,a4o])
   | false=>
     rw [hw] at h
     simp only [Bool.false_eq_true,if_false] at h ⊢
     refine ih (k+1) _ fr' s s' K _ w (by omega) h S F (a7T hf _ (VR.undef K)) hg fun a2 w2 K2 st2 r2 d2=>?_
     exact hq a2 w2 K2 st2 r2 (by rw [d2,a4o])
end
end Go.V
end
section
namespace Go.V
open Go.RowKit (Below)
section
variable {P:Program} {T:Tab} {fr fr2:List Value}
theorem a7X (i:Nat) (l:List Nat):a4O i l=true ↔ i∈l:=by
 induction l with
 | nil=>constructor <;> intro h <;> cases h
 | cons x l ih=>
   show (match Nat.beq i x with | true=>true | false=>a4O i l)=true ↔ _
   cases h:Nat.beq i x with
   | true=>simp [Nat.eq_of_beq_eq_true h]
   | false=>
     have:i≠x:=fun e=>by subst e; simp at h
     simp only [ih,List.mem_cons]
     exact ⟨Or.inr,fun q=>q.resolve_left this⟩
theorem c1q (l m:List Nat):a2Y l m=true ↔ ∀ i,i∈l→i ∉ m:=by
 unfold a2Y
 rw [a0y]
 constructor
 · intro h i hi hm
   have:=h i hi
   rw [(a7X i m).2 hm] at this
   cases this
 · intro h i hi
   cases q:a4O i m with
   | false=>rfl
   | true=>exact absurd ((a7X i m).1 q) (h i hi)
theorem c1M {t:Nat} {xs:List Operand} (h:Operand.tmp t∈xs):t∈a8m xs:=by
 induction xs with
 | nil=>cases h
 | cons x xs ih=>
   show t∈(match x with | .tmp t=>t::a8m xs | _=>a8m xs)
   rcases List.mem_cons.1 h with rfl | h
   · simp
   · have:=ih h
     cases x <;> simp [this]
theorem b9E {x:Operand} (h:∀ t,x=.tmp t→j4 fr t=j4 fr2 t):a2o T fr x=a2o T fr2 x:=by
 cases x with
 | tmp t=>show some (j4 fr t)=some (j4 fr2 t); rw [h t rfl]
 | _=>rfl
theorem a5h {xs:List Operand} (h:∀ x∈xs,a2o T fr x=a2o T fr2 x):a2Q T fr xs=a2Q T fr2 xs:=by
 induction xs with
 | nil=>rfl
 | cons x xs ih=>
   show (match a2o T fr x with | none=>none | some v=>(match a2Q T fr xs with | none=>none | some vs=>some (v::vs)))=(match a2o T fr2 x with | none=>none | some v=>(match a2Q T fr2 xs with | none=>none | some vs=>some (v::vs)))
   rw [h x (List.mem_cons_self ..),ih (fun y hy=>h y (List.mem_cons_of_mem _ hy))]
theorem b4U {o:Op} (h:∀ x∈o.operands.toList,a2o T fr x=a2o T fr2 x):a7S P T fr o=a7S P T fr2 o:=by
 cases o with
 | move x=>show M.lift _=M.lift _; rw [h x (by simp [Op.operands])]
 | assign x=>show M.lift _=M.lift _; rw [h x (by simp [Op.operands])]
 | pick c x y=>show b1H T fr c x y=b1H T fr2 c x y; simp only [b1H,ev,h c (by simp [Op.operands]),h x (by simp [Op.operands]),h y (by simp [Op.operands])]
 | alloc t=>rfl
 | box t x=>show b4l T fr x=b4l T fr2 x; simp only [b4l,ev,h x (by simp [Op.operands])]
 | build t ps=>
   show b0v T fr t ps=b0v T fr2 t ps
   have:a2Q T fr (a1R (·.2) ps.toList)=a2Q T fr2 (a1R (·.2) ps.toList):=a5h (fun x hx=>h x (by rw [a3I] at hx; simpa [Op.operands] using hx))
   simp only [b0v,evs,this]
 | buildSlice t len ps=>
   show a6J T fr t len ps=a6J T fr2 t len ps
   have:a2Q T fr (a1R (·.2) ps.toList)=a2Q T fr2 (a1R (·.2) ps.toList):=a5h (fun x hx=>h x (by rw [a3I] at hx; simpa [Op.operands] using hx))
   simp only [a6J,evs,this]
 | load t x=>show b1P T fr t x=b1P T fr2 t x; simp only [b1P,ev,h x (by simp [Op.operands])]
 | store t x y=>show b0s T fr t x y=b0s T fr2 t x y; simp only [b0s,ev,h x (by simp [Op.operands]),h y (by simp [Op.operands])]
 | nilCheck x=>show a7K T fr x=a7K T fr2 x; simp only [a7K,ev,h x (by simp [Op.operands])]
 | binOp op t x y yt=>show b3u P T fr op t x y=b3u P T fr2 op t x y; simp only [b3u,ev,h x (by simp [Op.operands]),h y (by simp [Op.operands])]
 | unOp op t x=>show b8F P T fr op x=b8F P T fr2 op x; simp only [b8F,ev,h x (by simp [Op.operands])]
 | convert x y z=>show a8i T fr x y z=a8i T fr2 x y z; simp only [a8i,ev,h z (by simp [Op.operands])]
 | makeInterface t x=>show b0m T fr t x=b0m T fr2 t x; simp only [b0m,ev,h x (by simp [Op.operands])]
 | makeFunc fn x y=>
   show b1x T fr fn x y=b1x T fr2 fn x y
   have e1:a2Q T fr x.toList=a2Q T fr2 x.toList:=a5h (fun z hz=>h z (by simp [Op.operands] at hz ⊢; exact Or.inl hz))
   have e2:a2Q T fr y.toList=a2Q T fr2 y.toList:=a5h (fun z hz=>h z (by simp [Op.operands] at hz ⊢; exact Or.inr hz))
   simp only [b1x,evs,e1,e2]
 | makeMap t r=>
   cases r with
   | none=>rfl
   | some x=>
     show b4r T fr t (some x)=b4r T fr2 t (some x)
     simp only [b4r,ev,h x (by simp [Op.operands])]
 | makeSlice t x y=>show b1N T fr t x y=b1N T fr2 t x y; simp only [b1N,ev,h x (by simp [Op.operands]),h y (by simp [Op.operands])]
 | slice t x lo hi mx=>
   show b0g T fr t x lo hi mx=b0g T fr2 t x lo hi mx
   have e1:a2Q T fr lo.toList=a2Q T fr2 lo.toList:=a5h (fun z hz=>h z (by simp [Op.operands] at hz ⊢; exact Or.inr (Or.inl hz)))
   have e2:a2Q T fr hi.toList=a2Q T fr2 hi.toList:=a5h (fun z hz=>h z (by simp [Op.operands] at hz ⊢; exact Or.inr (Or.inr (Or.inl hz))))
   have e3:a2Q T fr mx.toList=a2Q T fr2 mx.toList:=a5h (fun z hz=>h z (by simp [Op.operands] at hz ⊢; exact Or.inr (Or.inr (Or.inr hz))))
   simp only [b0g,evs,ev,e1,e2,e3,h x (by simp [Op.operands])]
 | fieldAddr t x f=>show a7d T fr t x f=a7d T fr2 t x f; simp only [a7d,ev,h x (by simp [Op.operands])]
 | field t x f=>show b0r T fr t x f=b0r T fr2 t x f; simp only [b0r,ev,h x (by simp [Op.operands])]
 | indexAddr t x i=>show a7b T fr t x i=a7b T fr2 t x i; simp only [a7b,ev,h x (by simp [Op.operands]),h i (by simp [Op.operands])]
 | index t x i=>show b0j T fr t x i=b0j T fr2 t x i; simp only [b0j,ev,h x (by simp [Op.operands]),h i (by simp [Op.operands])]
 | lookup t x i ok=>show a9c T fr t x i ok=a9c T fr2 t x i ok; simp only [a9c,ev,h x (by simp [Op.operands]),h i (by simp [Op.operands])]
 | mapUpdate t m k x=>show a5X T fr t m k x=a5X T fr2 t m k x; simp only [a5X,ev,h m (by simp [Op.operands]),h k (by simp [Op.operands]),h x (by simp [Op.operands])]
 | insert t m k x=>show a5X T fr t m k x=a5X T fr2 t m k x; simp only [a5X,ev,h m (by simp [Op.operands]),h k (by simp [Op.operands]),h x (by simp [Op.operands])]
 | range t x=>show a9R T fr t x=a9R T fr2 t x; simp only [a9R,ev,h x (by simp [Op.operands])]
 | next x str=>show b1I T fr x str=b1I T fr2 x str; simp only [b1I,ev,h x (by simp [Op.operands])]
 | extract x i=>show a8n T fr x i=a8n T fr2 x i; simp only [a8n,ev,h x (by simp [Op.operands])]
 | _=>rfl
theorem b7c {call:Nat→List Value→M Value} {o:Op} (h:∀ x∈o.operands.toList,a2o T fr x=a2o T fr2 x):a3v P T call fr o=a3v P T call fr2 o:=by
 unfold a3v
 cases hc:b0a o with
 | none=>exact b4U h
 | some c=>
   have hop:o=.call c:=by cases o <;> first | (cases hc; rfl) | cases hc
   subst hop
   have ha:a2Q T fr c.args.toList=a2Q T fr2 c.args.toList:=a5h (fun z hz=>h z (by simp [Op.operands,Call.operands] at hz ⊢; exact Or.inr hz))
   show a9S P T call fr c=a9S P T call fr2 c
   unfold a9S
   cases hcal:c.callee with
   | value f=>
     have hf:a2o T fr f=a2o T fr2 f:=h f (by simp [Op.operands,Call.operands,hcal])
     simp only [a9i,ev,evs,ha,hf]
   | builtin b=>simp only [a8p,evs,ha]
   | invoke r m=>rfl
theorem b2C {call:Nat→List Value→M Value} {ops:List Oper} {o:Oper} (h:∀ t,t∈a4U ops o→j4 fr t=j4 fr2 t):a3v P T call fr o.op=a3v P T call fr2 o.op∧a3c ops fr o=a3c ops fr2 o:=by
 refine ⟨b7c fun x hx=>b9E fun t ht=>h t ?_, ?_⟩
 · subst ht
   have:=c1M hx
   unfold a4U
   split
   · exact this
   · split
     · exact List.mem_cons_of_mem _ this
     · exact this
 · unfold a3c
   cases hg:o.guard with
   | none=>rfl
   | some jb=>
     show (match a5x ops jb.1 with | some t=>Q5 jb.2 (j4 fr t) | none=>false)=(match a5x ops jb.1 with | some t=>Q5 jb.2 (j4 fr2 t) | none=>false)
     cases hd:a5x ops jb.1 with
     | none=>rfl
     | some t=>
       have:t∈a4U ops o:=by
        unfold a4U; rw [hg]
        show t∈(match a5x ops jb.1 with | some t=>t::a8m o.op.operands.toList | none=>a8m o.op.operands.toList)
        rw [hd]; exact List.mem_cons_self ..
       show Q5 jb.2 (j4 fr t)=Q5 jb.2 (j4 fr2 t)
       rw [h t this]
end
def a6G {β:Type} (X:Nat→β) (inD inW:Nat→Bool):Nat→β
 | 0=>X 0
 | k+1=>if inD k && inW k then X (k+1) else a6G X inD inW k
section
variable {β:Type} {X:Nat→β} {inD inW:Nat→Bool} {n:Nat}
theorem b0U (hX:∀ k,k<n→inW k=false→X (k+1)=X k) (i:Nat) (h:∀ j,j<n→inW j=true→(inD j=true ↔ j<i)) (hi:i≤n):a6G X inD inW n=X i:=by
 have key:∀ k,k≤n→a6G X inD inW k=X (min k i):=by
  intro k
  induction k with
  | zero=>intro _; simp [a6G]
  | succ k ih=>
    intro hk
    have ih:=ih (by omega)
    unfold a6G
    cases hw:inW k with
    | true=>
      have:=h k (by omega) hw
      by_cases hki:k<i
      · rw [this.2 hki]; simp; rw [Nat.min_eq_left (by omega)]
      · have:inD k=false:=by
         cases q:inD k with
         | false=>rfl
         | true=>exact absurd (this.1 q) hki
        rw [this]; simp; rw [ih,Nat.min_eq_right (by omega),Nat.min_eq_right (by omega)]
    | false=>
      simp
      rw [ih]
      by_cases hki:k<i
      · rw [Nat.min_eq_left (by omega),Nat.min_eq_left (by omega),hX k (by omega) hw]
      · rw [Nat.min_eq_right (by omega),Nat.min_eq_right (by omega)]
 rw [key n (Nat.le_refl _),Nat.min_eq_right hi]
theorem b7g (hX:∀ k,k<n→inW k=false→X (k+1)=X k) (h:∀ j,j<n→inD j=true):a6G X inD inW n=X n:=
 b0U hX n (fun j hj _=>⟨fun _=>hj,fun _=>h j hj⟩) (Nat.le_refl _)
theorem b8Y {inD':Nat→Bool} (h:∀ j,j<n→inW j=true→inD' j=inD j):a6G X inD' inW n=a6G X inD inW n:=by
 induction n with
 | zero=>rfl
 | succ n ih=>
   unfold a6G
   rw [ih (fun j hj=>h j (by omega))]
   cases hw:inW n with
   | true=>rw [h n (by omega) hw]
   | false=>simp
theorem c0m (i:Nat) (hi:i<n) (hd:inD i=true) (hw:inW i=true) (h:∀ j,i<j→j<n→inD j=true→inW j=false):a6G X inD inW n=X (i+1):=by
 induction n with
 | zero=>omega
 | succ n ih=>
   unfold a6G
   by_cases hin:i=n
   · subst hin; simp [hd,hw]
   · have:=ih (by omega) (fun j h1 h2=>h j h1 (by omega))
     cases q:inD n with
     | true=>rw [h n (by omega) (by omega) q]; simp; exact this
     | false=>simp; exact this
theorem b1q (h:∀ j,j<n→inD j=true→inW j=false):a6G X inD inW n=X 0:=by
 induction n with
 | zero=>rfl
 | succ n ih=>
   unfold a6G
   rw [ih (fun j hj=>h j (by omega))]
   cases q:inD n with
   | true=>rw [h n (by omega) q]; simp
   | false=>simp
end
theorem c4m {ops:List Oper} {x y:Oper×(List Nat×List Nat)} (h:free2 ops x y=true) :
 (∀ i,i∈x.2.2→i ∉ y.2.1)∧(∀ i,i∈x.2.2→i ∉ y.2.2)∧(∀ i,i∈y.2.2→i ∉ x.2.1)∧(∀ i,i∈a4z x.1→i ∉ a4U ops y.1)∧(∀ i,i∈a4z x.1→i ∉ a4z y.1)∧(∀ i,i∈a4z y.1→i ∉ a4U ops x.1):=by
 unfold free2 at h
 simp only [Bool.and_eq_true,c1q] at h
 obtain ⟨⟨⟨⟨⟨h1,h2⟩,h3⟩,h4⟩,h5⟩,h6⟩:=h
 exact ⟨h1,h2,h3,h4,h5,h6⟩
theorem b8t {ops:List Oper} {pj:List Nat} {y:Oper×(List Nat×List Nat)}:∀ (xs:List (Oper×(List Nat×List Nat))) (k:Nat),a7w ops pj y xs k=true →
 ∀ (i:Nat) x,xs[i]?=some x→(k+i)∈pj∨free2 ops x y=true:=by
 intro xs
 induction xs with
 | nil=>intro k _ i x h; simp at h
 | cons x0 xs ih=>
   intro k h i x hx
   have h':(match a4O k pj || free2 ops x0 y with | true=>a7w ops pj y xs (k+1) | false=>false)=true:=h
   cases hb:a4O k pj || free2 ops x0 y with
   | false=>rw [hb] at h'; cases h'
   | true=>
     rw [hb] at h'
     cases i with
     | zero=>
       simp at hx; subst hx
       simp only [Bool.or_eq_true,a7X] at hb
       simpa using hb
     | succ i=>
       have:=ih (k+1) h' i x (by simpa using hx)
       rwa [show k+1+i=k+(i+1) by omega] at this
theorem c4d {f:Edge→List Nat} {l:List Edge} {p:Nat} (h:p∈a5V f l):∃ e∈l,p∈f e:=by
 induction l with
 | nil=>cases h
 | cons e l ih=>
   have h':p∈M4 (f e) (a5V f l):=h
   rw [N9] at h'
   rcases List.mem_append.1 h' with h | h
   · exact ⟨e,List.mem_cons_self ..,h⟩
   · obtain ⟨e',h1,h2⟩:=ih h; exact ⟨e',List.mem_cons_of_mem _ h1,h2⟩
theorem b9C {ops:List Oper}:∀ (ys xs:List (Oper×(List Nat×List Nat))) (psl:List (List Nat)) (n:Nat),a0A ops ys xs psl n=true→xs.length=n→psl.length=n →
 ∃ ps:Nat→List Nat,(∀ i l,psl[i]?=some l→ps i=l)∧∀ (j:Nat) y,ys[j]?=some y →
   (∀ e∈y.1.after.toList,Region.binds .any e=true→e.on<n+j)∧(∀ p,p∈ps (n+j)→∃ e∈y.1.after.toList,Region.binds .any e=true∧(p=e.on∨p∈ps e.on)) ∧
   (∀ (i:Nat) x,i<n+j→(xs ++ ys)[i]?=some x→i∈ps (n+j)∨free2 ops x y=true):=by
 intro ys
 induction ys with
 | nil=>intro xs psl n _ _ _; exact ⟨fun i=>(psl[i]?).getD [],fun i l h=>by simp [h],fun j y h=>by simp at h⟩
 | cons y ys ih=>
   intro xs psl n h hx hp
   have h':(match a7s n y.1.after.toList && a7w ops (a5V (a6P psl) y.1.after.toList) y xs 0 with | true=>a0A ops ys (M4 xs [y]) (M4 psl [a5V (a6P psl) y.1.after.toList]) (n+1) | false=>false)=true:=h
   cases hb:a7s n y.1.after.toList && a7w ops (a5V (a6P psl) y.1.after.toList) y xs 0 with
   | false=>rw [hb] at h'; cases h'
   | true=>
     rw [hb] at h'
     simp only [N9] at h'
     simp only [Bool.and_eq_true] at hb
     obtain ⟨ps,p1,p2⟩:=ih (xs ++ [y]) (psl ++ [a5V (a6P psl) y.1.after.toList]) (n+1) h' (by simp [hx]) (by simp [hp])
     have hpsn:ps n=a5V (a6P psl) y.1.after.toList:=p1 n _ (by rw [List.getElem?_append_right (by omega),hp]; simp)
     refine ⟨ps,fun i l hi=>p1 i l (by rw [List.getElem?_append_left (by have:=(List.getElem?_eq_some_iff.1 hi).1; exact this)]; exact hi),fun j z hz=>?_⟩
     cases j with
     | zero=>
       simp at hz; subst hz
       refine ⟨fun e he hbi=>?_,fun p hpp=>?_,fun i x hi hix=>?_⟩
       · have:=(a0y _ _).1 hb.1 e he
         rw [hbi] at this
         simpa [Nat.blt_eq] using this
       · rw [Nat.add_zero,hpsn] at hpp
         obtain ⟨e,he,hpe⟩:=c4d hpp
         have hpe':p∈(match Region.binds .any e with | true=>(match a3b psl e.on with | some l=>e.on::l | none=>[]) | false=>[]):=hpe
         cases hbi:Region.binds .any e with
         | false=>rw [hbi] at hpe'; cases hpe'
         | true=>
           rw [hbi] at hpe'
           refine ⟨e,he,hbi, ?_⟩
           cases hg:a3b psl e.on with
           | none=>rw [hg] at hpe'; cases hpe'
           | some l=>
             rw [hg] at hpe'
             rw [a4v] at hg
             have:ps e.on=l:=p1 _ _ (by rw [List.getElem?_append_left (List.getElem?_eq_some_iff.1 hg).1]; exact hg)
             rcases List.mem_cons.1 hpe' with q | q
             · exact Or.inl q
             · exact Or.inr (by rw [this]; exact q)
       · rw [List.getElem?_append_left (by omega)] at hix
         have:=b8t xs 0 hb.2 i x hix
         rw [Nat.zero_add] at this
         rw [Nat.add_zero,hpsn]; exact this
     | succ j=>
       have:=p2 j z (by simpa using hz)
       rw [show n+1+j=n+(j+1) by omega] at this
       simpa using this
end Go.V
end
