import Derived.Test.YtmomonnlmbljoaaGreatDoorPap
section
noncomputable section
namespace Go.V
open Go.RowKit (Below)
abbrev Log:=List (Nat×List Value)
structure YPat where
 ops:Array Oper
 n:Nat
 y:Oper
 c:Call
 z:Oper
 ty:Nat
 tz:Nat
def b6x:Op→Option Nat
 | .unOp op _ x=>match op with
   | .not=>match x with
     | .tmp t=>some t
     | _=>none
   | _=>none
 | _=>none
def b6A (n:Nat):Option Nat→Bool
 | some m=>Nat.beq m n
 | none=>false
def c1w (ops:Array Oper) (tz:Nat):Option YPat:=match a3b ops.toList (L9 ops.toList - 2) with
 | none=>none
 | some y=>match a3b ops.toList (L9 ops.toList - 1) with
   | none=>none
   | some z=>match b0a y.op with
     | none=>none
     | some c=>match y.dst with
       | none=>none
       | some ty=>match b6A ty (b6x z.op) && b6A tz z.dst && y.guard.isNone && z.guard.isNone && !(Nat.beq ty tz) && Nat.ble 2 (L9 ops.toList) with
         | true=>some ⟨ops,L9 ops.toList - 2,y,c,z,ty,tz⟩
         | false=>none
def c7i:Code→Bool
 | .ret=>true
 | _=>false
def c3s:Code→Bool
 | .skip=>true
 | _=>false
def a9w (a b:Code):Option YPat:=match a with
 | .region _ ops draw=>match draw with
   | true=>none
   | false=>match b with
     | .cond x thn els=>match c7i thn && c3s els with
       | true=>match x with
         | .tmp tz=>c1w ops tz
         | _=>none
       | false=>none
     | _=>none
 | _=>none
def b4V (T:Tab) (fr:List Value) (c:Call):Option (Nat×List Value):=match c.callee with
 | .value f=>match a2o T fr f with
   | some v=>match v with
     | .func fn first cap=>match fn with
       | .yield l=>match first.toList with
         | []=>match cap.toList with
           | []=>match a2Q T fr c.args.toList with
             | some vs=>some (l,vs)
             | none=>none
           | _::_=>none
         | _::_=>none
       | _=>none
     | _=>none
   | none=>none
 | _=>none
section
variable (P:Program) (T:Tab)
def a9G (call:Nat→List Value→M Value) (p:YPat) (fr:List Value) (log:Log):M (Ex×(List Value×Log)):=
 M.bind (a6B P T call p.ops.toList (a5W p.ops.toList p.n) fr) fun fr1=>
 M.obind (b4V T fr1 p.c) fun lv=>
 M.guard (a0o (a0e 8) lv.2 && Nat.blt p.ty (L9 fr1) && Nat.blt p.tz (L9 fr1)) <|
 M.bind c0I fun _=>fList (M4 log [lv]) fun log'=>
 M.pure (.normal,(a8C (a8C fr1 p.ty (.bool true)) p.tz (.bool false),log'))
def b4i (call:Nat→List Value→M Value) (ih:Code→List Value→Log→M (Ex×(List Value×Log))) (c:Code) (fr:List Value) (log:Log):M (Ex×(List Value×Log)):=match c with
 | .skip=>M.pure (.normal,(fr,log))
 | .region _ ops draw=>M.bind (region P T call ops.toList draw fr) fun r=>M.pure (r.1,(r.2,log))
 | .seq a b=>match a9w a b with
   | some p=>a9G P T call p fr log
   | none=>M.bind (ih a fr log) fun r=>match r.1 with
     | .normal=>ih b r.2.1 r.2.2
     | .exit id=>M.pure (.exit id,r.2)
     | .ret=>M.pure (.ret,r.2)
 | .cond x a b=>M.obind (a2o T fr x) fun v=>match v with
   | .bool t=>match t with
     | true=>ih a fr log
     | false=>ih b fr log
   | _=>M.fail
 | .block id b=>M.bind (ih b fr log) fun r=>match r.1 with
   | .normal=>M.pure (.normal,r.2)
   | .exit id'=>match Nat.beq id' id with
     | true=>M.pure (.normal,r.2)
     | false=>M.pure (.exit id',r.2)
   | .ret=>M.pure (.ret,r.2)
 | .loop b=>fList fr fun fr=>M.bind (ih b fr log) fun r=>match r.1 with
   | .normal=>ih (.loop b) r.2.1 r.2.2
   | .exit id=>M.pure (.exit id,r.2)
   | .ret=>M.pure (.ret,r.2)
 | .exit id=>M.pure (.exit id,(fr,log))
 | .ret=>M.pure (.ret,(fr,log))
 | _=>M.fail
def a5d (call:Nat→List Value→M Value) (n:Nat):Code→List Value→Log→M (Ex×(List Value×Log)):=
 Nat.rec (motive:=fun _=>Code→List Value→Log→M (Ex×(List Value×Log))) (fun _ _ _=>M.fail) (fun _ ih=>b4i P T call ih) n
end
theorem c3R {ops:Array Oper} {tz:Nat} {p:YPat} (h:c1w ops tz=some p):p.ops=ops∧p.tz=tz∧ops[p.n]?=some p.y∧ops[p.n+1]?=some p.z∧p.n+2=ops.size∧p.y.op=.call p.c ∧
 p.y.guard=none∧p.z.guard=none∧p.y.dst=some p.ty∧p.z.dst=some p.tz∧(∃ t,p.z.op=.unOp .not t (.tmp p.ty))∧p.ty≠p.tz:=by
 unfold c1w at h
 cases hy:a3b ops.toList (L9 ops.toList - 2) with
 | none=>rw [hy] at h; cases h
 | some y=>
   rw [hy] at h
   dsimp only at h
   cases hz:a3b ops.toList (L9 ops.toList - 1) with
   | none=>rw [hz] at h; cases h
   | some z=>
     rw [hz] at h
     dsimp only at h
     cases hc:b0a y.op with
     | none=>rw [hc] at h; cases h
     | some c=>
       rw [hc] at h
       dsimp only at h
       cases hd:y.dst with
       | none=>rw [hd] at h; cases h
       | some ty=>
         rw [hd] at h
         dsimp only at h
         cases hb:b6A ty (b6x z.op) && b6A tz z.dst && y.guard.isNone && z.guard.isNone && !(Nat.beq ty tz) && Nat.ble 2 (L9 ops.toList) with
         | false=>rw [hb] at h; cases h
         | true=>
           rw [hb] at h
           cases h
           simp only [Bool.and_eq_true,Bool.not_eq_true'] at hb
           obtain ⟨⟨⟨⟨⟨b1,b2⟩,b3⟩,b4⟩,b5⟩,b6⟩:=hb
           rw [Z5] at hy hz b6 ⊢
           rw [a4v,a6R] at hy hz
           simp only [Array.length_toList] at hy hz b6 ⊢
           have b6:2≤ops.size:=by simpa using b6
           refine ⟨trivial,trivial,hy,by rw [show ops.size - 2+1=ops.size - 1 by omega]; exact hz,by omega, ?_,by simpa using b3,by simpa using b4,hd, ?_, ?_, ?_⟩
           · cases ho:y.op <;> rw [ho] at hc <;> first | (cases hc; rfl) | cases hc
           · cases q:z.dst with
             | none=>rw [q] at b2; cases b2
             | some t=>rw [q] at b2; exact congrArg some (Nat.eq_of_beq_eq_true b2)
           · cases q:b6x z.op with
             | none=>rw [q] at b1; cases b1
             | some t=>
               rw [q] at b1
               obtain rfl:t=ty:=Nat.eq_of_beq_eq_true b1
               unfold b6x at q
               split at q
               · split at q
                 · split at q
                   · cases q; rename_i e; exact ⟨_,e⟩
                   · cases q
                 · cases q
               · cases q
           · intro e
             rw [e] at b5
             simp at b5
theorem c2G {a b:Code} {p:YPat} (h:a9w a b=some p):(∃ id,a=.region id p.ops false)∧b=.cond (.tmp p.tz) .ret .skip∧p.ops[p.n]?=some p.y∧p.ops[p.n+1]?=some p.z∧p.n+2=p.ops.size∧p.y.op=.call p.c ∧
 p.y.guard=none∧p.z.guard=none∧p.y.dst=some p.ty∧p.z.dst=some p.tz∧(∃ t,p.z.op=.unOp .not t (.tmp p.ty))∧p.ty≠p.tz:=by
 cases a with
 | region id ops draw=>
   cases draw with
   | true=>cases h
   | false=>
     cases b with
     | cond x thn els=>
       unfold a9w at h
       dsimp only at h
       cases hb:c7i thn && c3s els with
       | false=>rw [hb] at h; cases h
       | true=>
         rw [hb] at h
         simp only [Bool.and_eq_true] at hb
         have e1:thn=.ret:=by cases thn <;> first | rfl | cases hb.1
         have e2:els=.skip:=by cases els <;> first | rfl | cases hb.2
         cases x with
         | tmp tz=>
           have h:c1w ops tz=some p:=h
           obtain ⟨q1,q2,q3⟩:=c3R h
           subst q1
           subst q2
           exact ⟨⟨id,rfl⟩,by rw [e1,e2],q3⟩
         | _=>cases h
     | _=>cases h
 | _=>cases h
theorem b7R {T:Tab} {fr:List Value} {c:Call} {l:Nat} {vs:List Value} (h:b4V T fr c=some (l,vs)) :
 ∃ f,c.callee=.value f∧a2o T fr f=some (.func (.yield l) #[] #[])∧a2Q T fr c.args.toList=some vs:=by
 unfold b4V at h
 split at h
 · rename_i f hf
   split at h
   · rename_i v hv
     split at h
     · rename_i fn first cap
       split at h
       · rename_i l'
         split at h
         · rename_i hfirst
           split at h
           · rename_i hcap
             split at h
             · rename_i vs' hvs
               cases h
               refine ⟨f,hf, ?_,hvs⟩
               rw [hv]
               have e1:first=#[]:=by apply Array.ext'; simpa using hfirst
               have e2:cap=#[]:=by apply Array.ext'; simpa using hcap
               rw [e1,e2]
             · cases h
           · cases h
         · cases h
       · cases h
     · cases h
   · cases h
 · cases h
end Go.V
end
section
noncomputable section
namespace Go.V
open Go.RowKit (Below)
section
variable {P:Program} {T:Tab} {B0:Nat} {w0:Base} {w:World} {K:KM} {s s':S} {a:Act} {fr:List Value} {v:Value} {m:Nat}
def b0D (s:S):Prop:=∀ i,s.c≤i→s.h.get i=none
theorem b0D.free (h:b0D s) (K:KM) (s':S):a2C K s s':=fun i hi _=>h i hi
theorem b0D.next {α:Type} {f:M α} {x:α} (h:b0D s) (hf:Fr f) (e:f s=some (x,s')):b0D s':=fun i hi=>by
 obtain ⟨dr,dw,_,_,e3,_,e5,_,e7,_⟩:=hf s x s' e
 rw [e7 i (fun q=>by have:=e5 i q; omega)]
 exact h i (Nat.le_trans e3 hi)
theorem c3K {o:Oper} {next:Act→World→Prop} {Q:Exit→Act→World→Prop} (h:o.wp P a w next Q):o.wpIn Fence.wide m P a w next Q:=by
 refine ⟨fun _ _=>trivial, ?_⟩
 show o.uponIn Fence.wide m P a next Q ((o.semAt none a.eval).run P w)
 rw [Oper.semAt_none]
 unfold Oper.wp at h
 generalize (execOp a.eval o).run P w=r at h
 have hd:Fence.wide.depth.isSome=true→1≤m:=fun q=>by cases q
 cases r with
 | ok x w'=>
   cases x with
   | value v=>exact h
   | skip=>exact h
   | defer d=>exact h
   | enter f args=>exact ⟨hd,callsIn_wide.2 h⟩
   | row r args=>exact ⟨hd,fun c cs _=>let ⟨v,w',q,st⟩:=h c cs; ⟨v,w',q,stepsIn_wide.2 st⟩⟩
   | _=>exact absurd h (fun q=>q)
 | halt x w'=>
   cases x with
   | panic v=>exact h
   | _=>exact absurd h (fun q=>q)
theorem b9L (hT:TabOk P T) {call:Nat→List Value→M Value} (hC:a5O P T B0 w0 call) (hF:∀ f vs,Fr (call f vs)) (ops:Array Oper) {Q:Exit→Act→World→Prop} {rest:List Nat} :
 ∀ (n k:Nat) (fr fr':List Value) (s s':S) (K:KM) (a:Act) (w:World),k+n≤ops.size→a6B P T call ops.toList ((ops.toList.drop k).take n) fr s=some (fr',s')→Sim B0 w0 K s.h w→a2C K s s'→VRL K a.tmps.toList fr→GK T K →
   (∀ a' w' K',Step B0 w0 K s' w' K'→VRL K' a'.tmps.toList fr'→a'.defers=a.defers→wpOpsIn Fence.wide m P ops Q rest a' w')→wpOpsIn Fence.wide m P ops Q (List.range' k n ++ rest) a w:=by
 intro n
 induction n with
 | zero=>
   intro k fr fr' s s' K a w hk h S F hf hg hq
   rw [List.take_zero] at h
   obtain ⟨rfl,rfl⟩:=J8 h
   exact hq a w K (Step.same S rfl) hf rfl
 | succ n ih=>
   intro k fr fr' s s' K a w hk h S F hf hg hq
   have hlt:k<ops.size:=by omega
   have hd:ops.toList.drop k=ops[k]::ops.toList.drop (k+1):=by
    rw [List.drop_eq_getElem_cons (by simpa using hlt)]; simp
   rw [hd,List.take_succ_cons,a9M] at h
   rw [List.range'_succ,List.cons_append]
   simp only [wpOpsIn,Array.getElem?_eq_getElem hlt]
   rw [a8Q ops a.tmps hf]
   cases hw:a3c ops.toList fr ops[k] with
   | true=>
     rw [hw] at h
     simp only [if_true] at h ⊢
     obtain ⟨v,s1,h1,h2⟩:=O7 h
     have hle2:=(Fr.runOps P T hF _ _ _).le h2
     refine c3K (a9y hT hC h1 S (F.left hle2) hf hg fun v' w' K' st r=>?_)
     refine ih (k+1) _ fr' s1 s' K' _ w' (by omega) h2 st.sim (F.right (Fr.stepOp P T hF _ _) h1) (a7T (hf.mono st.le) _ r) (hg.mono st.le) fun a2 w2 K2 st2 r2 d2=>?_
     exact hq a2 w2 K2 (st.trans st2 hle2) r2 (by rw [d2,a4o])
   | false=>
     rw [hw] at h
     simp only [Bool.false_eq_true,if_false] at h ⊢
     refine ⟨fun _ _=>trivial,ih (k+1) _ fr' s s' K _ w (by omega) h S F (a7T hf _ (VR.undef K)) hg fun a2 w2 K2 st2 r2 d2=>?_⟩
     exact hq a2 w2 K2 st2 r2 (by rw [d2,a4o])
structure Rounds (P:Program) (R:Nat→Prop) (l m:Nat) (J Jx:List (List Value)→World→Prop) (full:List (List Value)):Prop where
 abides:∀ pre W W',J pre W→Below W.heap.size W W'→J pre W'
 round:∀ pre x W1,J pre W1→pre ++ [x] <+: full→YieldAt Fence.wide m P l x.toArray W1 fun e W'=>
  (e=.returned (.bool true)∧J (pre ++ [x]) W'∧KeepsR R W1 W')∨(e=.returned (.bool false)∧Jx (pre ++ [x]) W')
def YAt (T:Tab) (vs:a3J) (R:Nat→Prop) (J:List (List Value)→World→Prop) (ds:List Deferred) (log:Log) (fr:List Value) (s:S) (a:Act) (w:World):Prop:=
 ∃ B0 w0 K,Sim B0 w0 K s.h w∧w0.R=R∧B0=w0.w.heap.size∧J (log.map (·.2)) w0.w∧VRL K a.tmps.toList fr∧GK T K∧a.defers=ds∧b0D s∧LaidV vs w0.w∧vs.length≤B0
def d0R:Ex→Exit→Prop
 | .normal,e=>e=.normal
 | .exit id,e=>e=.exit id
 | .ret,e=>e=.ret
theorem c8J {z:Oper} {t:TypeId} {ty:Nat} {b:Bool} (hz:z.op=.unOp .not t (.tmp ty)) (he:a.eval (.tmp ty)=.bool b):(execOp a.eval z).run P w=.ok (.value (.bool (!b))) w:=by
 unfold execOp
 rw [hz]
 simp only [he]
 rfl
theorem b3b {t:Nat} {v:Value} (h:t<a.tmps.size):(a.put (some t) v).eval (.tmp t)=v:=by
 simp [Act.put,Act.eval,h]
theorem b8P {t:Option Nat} {v:Value}:(a.put t v).tmps.size=a.tmps.size:=by
 cases t <;> simp [Act.put]
theorem LaidV.keeps {vs:a3J} {R:Nat→Prop} {w w':World} (h:LaidV vs w) (hR:∀ k,k<vs.length→R k) (hk:KeepsR R w w'):LaidV vs w':=
 ⟨Nat.le_trans h.size hk.size,fun g l hg off v hv=>by
  have hc:=h.cell g l hg off v hv
  obtain ⟨o,ho,hoc⟩:∃ o:Obj,w.heap[g]?=some o∧o.isCells=true:=by
   unfold World.cell? at hc
   cases hx:w.heap[g]? with
   | none=>simp [hx] at hc
   | some o=>
     cases o with
     | cells=>exact ⟨_,rfl,rfl⟩
     | _=>simp [hx] at hc
  rw [← hc]
  exact World.cell?_of_block (w:=w) (by dsimp only; rw [hk.same _ _ (hR g (List.getElem?_eq_some_iff.1 hg).1) ho (Or.inl hoc),ho]),fun g l hg hl=>by
  obtain ⟨t,fz,e⟩:=h.row g l hg hl
  exact ⟨t,fz,by rw [hk.same _ _ (hR g (List.getElem?_eq_some_iff.1 hg).1) e (Or.inl rfl)]⟩⟩
theorem b5N (hT:TabOk P T) {call:Nat→List Value→M Value} {V6:a3J} (hC:∀ B0 w0,LaidV V6 w0.w→V6.length≤B0→a5O P T B0 w0 call) (hF:∀ f vs,Fr (call f vs))
 {R:Nat→Prop} {l m:Nat} {full:List (List Value)} {J Jx:List (List Value)→World→Prop} (hR:Rounds P R l m J Jx full) (hRv:∀ k,k<V6.length→R k)
 {x y:Code} {p:YPat} (hp:a9w x y=some p) {log log':Log} {ex:Ex} {fr':List Value} {Q:Exit→Act→World→Prop} {ds:List Deferred}
 (h:a9G P T call p fr log s=some ((ex,(fr',log')),s')) (hY:YAt T V6 R J ds log fr s a w) (hl:∀ e∈log',e.1=l) (hN:log'.map (·.2) <+: full)
 (hq:∀ e a' w',YAt T V6 R J ds log' fr' s' a' w'→d0R ex e→Q e a' w') (hx:∀ a' w' pre,pre <+: log'.map (·.2)→Jx pre w'→a'.defers=ds→Q .ret a' w'):(Code.seq x y).wp P Q a w:=by
 obtain ⟨⟨id,rfl⟩,rfl,p1,p2,p3,p4,p5,p6,p7,p8,⟨t,p9⟩,p10⟩:=c2G hp
 obtain ⟨B0,w0,K,S,hwR,hB0,hJ,hf,hg,hds,hfr,hL0,hLB⟩:=hY
 obtain ⟨fr1,s1,h1,h2⟩:=O7 h
 obtain ⟨⟨l',vs⟩,hyo,h3⟩:=U2 h2
 obtain ⟨hgd,h4⟩:=U1 h3
 obtain ⟨u,s2,h5,h6⟩:=O7 h4
 rw [a8t,N9] at h6
 obtain ⟨e7,rfl⟩:=J8 h6
 cases e7
 simp only [Bool.and_eq_true] at hgd
 obtain ⟨⟨g1,g2⟩,g3⟩:=hgd
 obtain ⟨f,c1,c2,c3⟩:=b7R hyo
 have hll:l'=l:=hl (l',vs) (by simp)
 subst hll
 rw [Z5] at g2 g3
 have g2:p.ty<fr1.length:=by simpa using g2
 have g3:p.tz<fr1.length:=by simpa using g3
 obtain ⟨fz1,fz2⟩:=b9M h5
 have hfr1:b0D s1:=hfr.next (Fr.runOps P T hF _ _ _) h1
 have hlen:log.map (·.2) ++ [vs] <+: full:=by simpa using hN
 refine wpIn_wide (n:=m+1).1 (wpIn_seq (wpIn_region ?_))
 have hrange:List.range p.ops.size=List.range' 0 p.n ++ [p.n,p.n+1]:=by
  rw [← p3,List.range_eq_range', ← List.range'_append]
  simp [List.range'_succ]
 rw [hrange]
 refine b9L hT (hC B0 w0 hL0 hLB) hF p.ops p.n 0 fr fr1 s s1 K a w (by omega) (by rw [List.drop_zero, ← b0B]; exact h1) S (hfr.free _ _) hf hg fun a1 w1 K1 st r1 d1=>?_
 have hsz:a1.tmps.size=fr1.length:=by have:=r1.len; simpa using this
 have ef:a1.eval f=.func (.yield l') #[] #[]:=by
  have r:=a0k r1 (hg.mono st.le) c2
  obtain ⟨x1,y1,e,q1,q2⟩:=b4w r
  rw [e]
  have e1:x1=#[]:=by apply Array.ext'; have:=q1.len; simp at this; simpa using this
  have e2:y1=#[]:=by apply Array.ext'; have:=q2.len; simp at this; simpa using this
  rw [e1,e2]
 have ea:p.c.args.toList.map a1.eval=vs:=by
  have r:=a6y r1 (hg.mono st.le) c3
  apply List.ext_getElem?
  intro i
  by_cases hi:i<vs.length
  · have hi':i<(p.c.args.toList.map a1.eval).length:=by rw [r.len]; exact hi
    have q:=r.at_ i _ _ (List.getElem?_eq_getElem hi') (List.getElem?_eq_getElem hi)
    rw [List.getElem?_eq_getElem hi',List.getElem?_eq_getElem hi,q.eq_of_noAddr 8 ((a0y _ _).1 g1 vs[i] (List.getElem_mem hi))]
  · rw [List.getElem?_eq_none (by rw [r.len]; omega),List.getElem?_eq_none (by omega)]
 have hop:execOp a1.eval p.y=Instr.yield l' vs.toArray:=by
  unfold execOp
  rw [p4]
  show (do let d ← resolve a1.eval p.c p.y.type; invoke d.target d.args)=_
  unfold resolve
  rw [c1]
  show (do let d ← Deferred.ofValue (a1.eval f) (p.c.args.map a1.eval); invoke d.target d.args)=_
  rw [ef]
  show Instr.yield l' (#[] ++ p.c.args.map a1.eval)=_
  congr 1
  apply Array.ext'
  simpa using ea
 have hJ1:J (log.map (·.2)) w1:=hR.abides _ _ _ hJ (by rw [← hB0]; exact st.sim.below)
 obtain ⟨fn,tmps,assign,body,hrun,hround⟩:=hR.round (log.map (·.2)) vs w1 hJ1 hlen
 have hw:∀ (o:Oper) (ts:Array Value),o.guard=none→Region.wanted o (yielded p.ops ts)=true:=fun o ts h=>by unfold Region.wanted; rw [h]
 simp only [wpOpsIn,p1,p2]
 rw [hw _ _ p5,if_pos rfl]
 refine ⟨fun _ _=>trivial, ?_⟩
 show p.y.uponIn Fence.wide (m+1) P a1 _ _ ((p.y.semAt none a1.eval).run P w1)
 rw [Oper.semAt_none,hop,hrun,Oper.uponIn_round]
 refine ⟨fun q=>(by cases q),hround.mono fun e w2 he=>?_⟩
 have tail:∀ (b:Bool) (w2:World) (Q':Exit→Act→World→Prop),Q' .normal ((a1.put (some p.ty) (.bool b)).put (some p.tz) (.bool (!b))) w2 →
  (if Region.wanted p.z (yielded p.ops (a1.put p.y.dst (.bool b)).tmps)=true then p.z.wpIn Fence.wide (m+1) P (a1.put p.y.dst (.bool b)) w2 (fun a w=>Q' .normal a w) Q'
    else (∀ f,p.z.about P w2 (a1.put p.y.dst (.bool b)).eval=some f→Fence.wide.fn f)∧Q' .normal ((a1.put p.y.dst (.bool b)).put p.z.dst undef) w2):=by
  intro b w2 Q' hQ
  rw [hw _ _ p6,if_pos rfl]
  refine ⟨fun _ _=>trivial, ?_⟩
  show p.z.uponIn Fence.wide (m+1) P _ _ _ ((p.z.semAt none _).run P w2)
  rw [Oper.semAt_none,p7,c8J (b:=b) p9 (b3b (by omega)),Oper.uponIn_value,p8]
  exact hQ
 rcases he with ⟨rfl,hJ2,hk⟩ | ⟨rfl,hJx⟩
 · have hL1:LaidV V6 w1:=hL0.below st.sim.below hLB
   have hL2:LaidV V6 w2:=hL1.keeps hRv hk
   refine tail true w2 _ ?_
   show ((Code.cond (.tmp p.tz) .ret .skip).wpIn Fence.wide (m+1) P Q) _ w2
   refine wpIn_cond_false (b3b (by rw [b8P]; omega)) (wpIn_skip (hq _ _ _ ⟨w2.heap.size,⟨w2,R⟩,a9a K1, ?_,rfl,rfl, ?_, ?_, ?_, ?_, ?_,hL2,hL2.size⟩ rfl))
   · have:=c1C st.sim fz2 (by rw [hwR]; exact hk)
     rw [hwR] at this
     exact this
   · simpa using hJ2
   · have q1:=(r1.frz.lset p.ty (VR.plain (K:=a9a K1) (v:=.bool true) rfl)).lset p.tz (VR.plain (K:=a9a K1) (v:=.bool false) rfl)
     simpa [Act.put] using q1
   · exact (hg.mono st.le).frz
   · rw [a4o,a4o,d1,hds]
   · intro i hi
     rw [fz1] at hi
     rcases fz2 i with ⟨_,e⟩ | ⟨cs,cur,ro,e,_⟩
     · exact e
     · rw [hfr1 i hi] at e; cases e
 · refine tail false w2 _ ?_
   show ((Code.cond (.tmp p.tz) .ret .skip).wpIn Fence.wide (m+1) P Q) _ w2
   refine wpIn_cond_true (b3b (by rw [b8P]; omega)) (wpIn_ret (hx _ _ (log.map (·.2) ++ [vs]) (by simp) hJx ?_))
   rw [a4o,a4o,d1,hds]
end
end Go.V
end
section
noncomputable section
namespace Go.V
open Go.RowKit (Below)
section
variable {P:Program} {T:Tab}
theorem b5F {call:Nat→List Value→M Value} (n:Nat):∀ c fr log s ex fr' log' s',a5d P T call n c fr log s=some ((ex,(fr',log')),s')→log <+: log':=by
 induction n with
 | zero=>intro c fr log s ex fr' log' s' h; cases h
 | succ n ih=>
   intro c fr log s ex fr' log' s' h
   have h0:b4i P T call (a5d P T call n) c fr log s=some ((ex,(fr',log')),s'):=h
   unfold b4i at h0
   split at h0
   · obtain ⟨e,_⟩:=J8 h0; cases e; exact List.prefix_rfl
   · obtain ⟨r,s1,h1,h2⟩:=O7 h0
     obtain ⟨e,_⟩:=J8 h2; cases e; exact List.prefix_rfl
   · rename_i ca cb
     cases hp:a9w ca cb with
     | some p=>
       rw [hp] at h0
       obtain ⟨fr1,s1,h1,h2⟩:=O7 h0
       obtain ⟨⟨l',vs⟩,hyo,h3⟩:=U2 h2
       obtain ⟨hgd,h4⟩:=U1 h3
       obtain ⟨u,s2,h5,h6⟩:=O7 h4
       rw [a8t,N9] at h6
       obtain ⟨e7,_⟩:=J8 h6
       cases e7
       exact List.prefix_append _ _
     | none=>
       rw [hp] at h0
       obtain ⟨⟨x1,fr1,log1⟩,s1,h1,h2⟩:=O7 h0
       have p1:=ih _ _ _ _ _ _ _ _ h1
       cases x1 with
       | normal=>exact p1.trans (ih _ _ _ _ _ _ _ _ h2)
       | exit id=>obtain ⟨e,_⟩:=J8 h2; cases e; exact p1
       | ret=>obtain ⟨e,_⟩:=J8 h2; cases e; exact p1
   · obtain ⟨u,e1,h1⟩:=U2 h0
     cases u with
     | bool t=>cases t <;> exact ih _ _ _ _ _ _ _ _ h1
     | _=>cases h1
   · rename_i bid cb
     obtain ⟨⟨x1,fr1,log1⟩,s1,h1,h2⟩:=O7 h0
     have p1:=ih _ _ _ _ _ _ _ _ h1
     cases x1 with
     | normal=>obtain ⟨e,_⟩:=J8 h2; cases e; exact p1
     | exit id'=>
       dsimp only at h2
       cases hb:Nat.beq id' bid with
       | true=>rw [hb] at h2; obtain ⟨e,_⟩:=J8 h2; cases e; exact p1
       | false=>rw [hb] at h2; obtain ⟨e,_⟩:=J8 h2; cases e; exact p1
     | ret=>obtain ⟨e,_⟩:=J8 h2; cases e; exact p1
   · rw [a8t] at h0
     obtain ⟨⟨x1,fr1,log1⟩,s1,h1,h2⟩:=O7 h0
     have p1:=ih _ _ _ _ _ _ _ _ h1
     cases x1 with
     | normal=>exact p1.trans (ih _ _ _ _ _ _ _ _ h2)
     | exit id=>obtain ⟨e,_⟩:=J8 h2; cases e; exact p1
     | ret=>obtain ⟨e,_⟩:=J8 h2; cases e; exact p1
   · obtain ⟨e,_⟩:=J8 h0; cases e; exact List.prefix_rfl
   · obtain ⟨e,_⟩:=J8 h0; cases e; exact List.prefix_rfl
   · cases h0
structure Ways (T:Tab) (V6:a3J) (R:Nat→Prop) (J Jx:List (List Value)→World→Prop) (ds:List Deferred) (ex:Ex) (fr':List Value) (log':Log) (s':S) (Q:Exit→Act→World→Prop):Prop where
 on:∀ e a' w',YAt T V6 R J ds log' fr' s' a' w'→d0R ex e→Q e a' w'
 off:∀ a' w' pre,pre <+: log'.map (·.2)→Jx pre w'→a'.defers=ds→Q .ret a' w'
theorem c4B (hT:TabOk P T) (hM:P.follows .mixedOrders=true) {call:Nat→List Value→M Value} {V6:a3J} (hC:∀ B0 w0,LaidV V6 w0.w→V6.length≤B0→a5O P T B0 w0 call) (hF:∀ f vs,Fr (call f vs))
 {R:Nat→Prop} {l m:Nat} {full:List (List Value)} {J Jx:List (List Value)→World→Prop} (hR:Rounds P R l m J Jx full) (hRv:∀ k,k<V6.length→R k) {ds:List Deferred} (n:Nat) :
 (∀ c fr log s ex fr' log' s' a w Q,a5d P T call n c fr log s=some ((ex,(fr',log')),s')→YAt T V6 R J ds log fr s a w→(∀ e∈log',e.1=l)→log'.map (·.2) <+: full →
   Ways T V6 R J Jx ds ex fr' log' s' Q→c.wp P Q a w) ∧
 (∀ b fr log s ex fr' log' s' a w Q,a5d P T call n (.loop b) fr log s=some ((ex,(fr',log')),s')→YAt T V6 R J ds log fr s a w→(∀ e∈log',e.1=l)→log'.map (·.2) <+: full →
   Ways T V6 R J Jx ds ex fr' log' s' Q→Code.rounds P b Q n a w):=by
 induction n with
 | zero=>
   constructor
   · intro c fr log s ex fr' log' s' a w Q h; cases h
   · intro b fr log s ex fr' log' s' a w Q h; cases h
 | succ n ih=>
   obtain ⟨ihA,ihB⟩:=ih
   have sub:∀ {log1 log':Log},log1 <+: log'→(∀ e∈log',e.1=l)→log'.map (·.2) <+: full→(∀ e∈log1,e.1=l)∧log1.map (·.2) <+: full:=
    fun hp h1 h2=>⟨fun e he=>h1 e (hp.subset he),(hp.map _).trans h2⟩
   have hB:∀ b fr log s ex fr' log' s' a w Q,a5d P T call (n+1) (.loop b) fr log s=some ((ex,(fr',log')),s')→YAt T V6 R J ds log fr s a w→(∀ e∈log',e.1=l)→log'.map (·.2) <+: full →
    Ways T V6 R J Jx ds ex fr' log' s' Q→Code.rounds P b Q (n+1) a w:=by
    intro b fr log s ex fr' log' s' a w Q h hY hl hN hW
    have h1:fList fr (fun fr=>M.bind (a5d P T call n b fr log) fun r=>match r.1 with
     | .normal=>a5d P T call n (.loop b) r.2.1 r.2.2
     | .exit id=>M.pure (.exit id,r.2)
     | .ret=>M.pure (.ret,r.2)) s=some ((ex,(fr',log')),s'):=h
    rw [a8t] at h1
    obtain ⟨⟨x1,fr1,log1⟩,s1,h2,h3⟩:=O7 h1
    show b.wp P (Exit.then (Code.rounds P b Q n) Q) a w
    cases x1 with
    | normal=>
      have h3:a5d P T call n (.loop b) fr1 log1 s1=some ((ex,(fr',log')),s'):=h3
      have hp:=b5F n _ _ _ _ _ _ _ _ h3
      obtain ⟨q1,q2⟩:=sub hp hl hN
      refine ihA b fr log s .normal fr1 log1 s1 a w _ h2 hY q1 q2 ⟨fun e a' w' y he=>?_,fun a' w' pre hpre hx hd=>?_⟩
      · have he:e=.normal:=he
        subst he
        exact ihB b fr1 log1 s1 ex fr' log' s' a' w' Q h3 y hl hN hW
      · exact hW.off a' w' pre (hpre.trans (hp.map _)) hx hd
    | exit id=>
      have h3:M.pure (Ex.exit id,(fr1,log1)) s1=some ((ex,(fr',log')),s'):=h3
      obtain ⟨e,rfl⟩:=J8 h3
      cases e
      refine ihA b fr log s _ _ _ _ a w _ h2 hY hl hN ⟨fun e a' w' y he=>?_,fun a' w' pre hpre hx hd=>hW.off a' w' pre hpre hx hd⟩
      have he':e=.exit id:=he
      subst he'
      exact hW.on _ _ _ y he
    | ret=>
      have h3:M.pure (Ex.ret,(fr1,log1)) s1=some ((ex,(fr',log')),s'):=h3
      obtain ⟨e,rfl⟩:=J8 h3
      cases e
      refine ihA b fr log s _ _ _ _ a w _ h2 hY hl hN ⟨fun e a' w' y he=>?_,fun a' w' pre hpre hx hd=>hW.off a' w' pre hpre hx hd⟩
      have he':e=.ret:=he
      subst he'
      exact hW.on _ _ _ y he
   refine ⟨fun c fr log s ex fr' log' s' a w Q h hY hl hN hW=>?_,hB⟩
   have h0:b4i P T call (a5d P T call n) c fr log s=some ((ex,(fr',log')),s'):=h
   cases c with
   | skip=>
     have h0:M.pure (Ex.normal,(fr,log)) s=some ((ex,(fr',log')),s'):=h0
     obtain ⟨e,rfl⟩:=J8 h0
     cases e
     exact wp_skip (hW.on _ _ _ hY rfl)
   | region id ops draw=>
     have h0:M.bind (region P T call ops.toList draw fr) (fun r=>M.pure (r.1,(r.2,log))) s=some ((ex,(fr',log')),s'):=h0
     obtain ⟨⟨x1,fr1⟩,s1,h1,h2⟩:=O7 h0
     obtain ⟨e,rfl⟩:=J8 h2
     cases e
     obtain ⟨B0,w0,K,S,hwR,hB0,hJ,hf,hg,hds,hfr,hL0,hLB⟩:=hY
     refine (b7l hT hM (hC B0 w0 hL0 hLB) hF 1).1 (.region id ops draw) fr s _ _ _ K a w Q h1 S (hfr.free _ _) hf hg fun e a' w' L=>?_
     obtain ⟨K',st,r,d,q⟩:=L
     refine hW.on e a' w' ⟨B0,w0,K',st.sim,hwR,hB0,hJ,r,hg.mono st.le,by rw [d,hds],hfr.next (Fr.region P T hF _ _ _) h1,hL0,hLB⟩ ?_
     cases x1 <;> exact q
   | seq x y=>
     cases hp:a9w x y with
     | some p=>
       have h0:(match a9w x y with
        | some p=>a9G P T call p fr log
        | none=>M.bind (a5d P T call n x fr log) fun r=>match r.1 with
          | .normal=>a5d P T call n y r.2.1 r.2.2
          | .exit id=>M.pure (.exit id,r.2)
          | .ret=>M.pure (.ret,r.2)) s=some ((ex,(fr',log')),s'):=h0
       rw [hp] at h0
       exact b5N hT hC hF hR hRv hp h0 hY hl hN hW.on hW.off
     | none=>
       have h0:(match a9w x y with
        | some p=>a9G P T call p fr log
        | none=>M.bind (a5d P T call n x fr log) fun r=>match r.1 with
          | .normal=>a5d P T call n y r.2.1 r.2.2
          | .exit id=>M.pure (.exit id,r.2)
          | .ret=>M.pure (.ret,r.2)) s=some ((ex,(fr',log')),s'):=h0
       rw [hp] at h0
       obtain ⟨⟨x1,fr1,log1⟩,s1,h2,h3⟩:=O7 h0
       refine wp_seq ?_
       cases x1 with
       | normal=>
         have h3:a5d P T call n y fr1 log1 s1=some ((ex,(fr',log')),s'):=h3
         have hp:=b5F n _ _ _ _ _ _ _ _ h3
         obtain ⟨q1,q2⟩:=sub hp hl hN
         refine ihA x fr log s .normal fr1 log1 s1 a w _ h2 hY q1 q2 ⟨fun e a' w' y' he=>?_,fun a' w' pre hpre hx hd=>?_⟩
         · have he:e=.normal:=he
           subst he
           exact ihA y fr1 log1 s1 ex fr' log' s' a' w' Q h3 y' hl hN hW
         · exact hW.off a' w' pre (hpre.trans (hp.map _)) hx hd
       | exit id=>
         have h3:M.pure (Ex.exit id,(fr1,log1)) s1=some ((ex,(fr',log')),s'):=h3
         obtain ⟨e,rfl⟩:=J8 h3
         cases e
         refine ihA x fr log s _ _ _ _ a w _ h2 hY hl hN ⟨fun e a' w' y he=>?_,fun a' w' pre hpre hx hd=>hW.off a' w' pre hpre hx hd⟩
         have he':e=.exit id:=he
         subst he'
         exact hW.on _ _ _ y he
       | ret=>
         have h3:M.pure (Ex.ret,(fr1,log1)) s1=some ((ex,(fr',log')),s'):=h3
         obtain ⟨e,rfl⟩:=J8 h3
         cases e
         refine ihA x fr log s _ _ _ _ a w _ h2 hY hl hN ⟨fun e a' w' y he=>?_,fun a' w' pre hpre hx hd=>hW.off a' w' pre hpre hx hd⟩
         have he':e=.ret:=he
         subst he'
         exact hW.on _ _ _ y he
   | cond x c1 c2=>
     have h0:M.obind (a2o T fr x) (fun v=>match v with
      | .bool t=>match t with
        | true=>a5d P T call n c1 fr log
        | false=>a5d P T call n c2 fr log
      | _=>M.fail) s=some ((ex,(fr',log')),s'):=h0
     obtain ⟨u,e1,h1⟩:=U2 h0
     have hY':=hY
     obtain ⟨B0,w0,K,S,hwR,hB0,hJ,hf,hg,hds,hfr,hL0,hLB⟩:=hY'
     have r:=a0k hf hg e1
     cases u with
     | bool t=>
       have hb:=b2u r
       cases t with
       | true=>exact wp_cond_true hb (ihA c1 fr log s ex fr' log' s' a w Q h1 hY hl hN hW)
       | false=>exact wp_cond_false hb (ihA c2 fr log s ex fr' log' s' a w Q h1 hY hl hN hW)
     | _=>cases h1
   | block id b=>
     have h0:M.bind (a5d P T call n b fr log) (fun r=>match r.1 with
      | .normal=>M.pure (.normal,r.2)
      | .exit id'=>match Nat.beq id' id with
        | true=>M.pure (.normal,r.2)
        | false=>M.pure (.exit id',r.2)
      | .ret=>M.pure (.ret,r.2)) s=some ((ex,(fr',log')),s'):=h0
     obtain ⟨⟨x1,fr1,log1⟩,s1,h2,h3⟩:=O7 h0
     refine wp_block ?_
     cases x1 with
     | normal=>
       have h3:M.pure (Ex.normal,(fr1,log1)) s1=some ((ex,(fr',log')),s'):=h3
       obtain ⟨e,rfl⟩:=J8 h3
       cases e
       refine ihA b fr log s _ _ _ _ a w _ h2 hY hl hN ⟨fun e a' w' y he=>?_,fun a' w' pre hpre hx hd=>hW.off a' w' pre hpre hx hd⟩
       have he':e=.normal:=he
       subst he'
       exact hW.on _ _ _ y he
     | exit id'=>
       have h3:(match Nat.beq id' id with | true=>M.pure (Ex.normal,(fr1,log1)) | false=>M.pure (Ex.exit id',(fr1,log1))) s1=some ((ex,(fr',log')),s'):=h3
       cases hb:Nat.beq id' id with
       | true=>
         rw [hb] at h3
         obtain ⟨e,rfl⟩:=J8 h3
         cases e
         refine ihA b fr log s _ _ _ _ a w _ h2 hY hl hN ⟨fun e a' w' y he=>?_,fun a' w' pre hpre hx hd=>hW.off a' w' pre hpre hx hd⟩
         have he':e=.exit id':=he
         subst he'
         show (if id'=id then Q .normal a' w' else Q (.exit id') a' w')
         rw [if_pos (Nat.eq_of_beq_eq_true hb)]
         exact hW.on _ _ _ y rfl
       | false=>
         rw [hb] at h3
         obtain ⟨e,rfl⟩:=J8 h3
         cases e
         refine ihA b fr log s _ _ _ _ a w _ h2 hY hl hN ⟨fun e a' w' y he=>?_,fun a' w' pre hpre hx hd=>hW.off a' w' pre hpre hx hd⟩
         have he':e=.exit id':=he
         subst he'
         show (if id'=id then Q .normal a' w' else Q (.exit id') a' w')
         rw [if_neg (fun q=>by subst q; simp at hb)]
         exact hW.on _ _ _ y he
     | ret=>
       have h3:M.pure (Ex.ret,(fr1,log1)) s1=some ((ex,(fr',log')),s'):=h3
       obtain ⟨e,rfl⟩:=J8 h3
       cases e
       refine ihA b fr log s _ _ _ _ a w _ h2 hY hl hN ⟨fun e a' w' y he=>?_,fun a' w' pre hpre hx hd=>hW.off a' w' pre hpre hx hd⟩
       have he':e=.ret:=he
       subst he'
       exact hW.on _ _ _ y he
   | loop b=>exact wp_loop_rounds (n+1) (hB b fr log s ex fr' log' s' a w Q h hY hl hN hW)
   | exit id=>
     have h0:M.pure (Ex.exit id,(fr,log)) s=some ((ex,(fr',log')),s'):=h0
     obtain ⟨e,rfl⟩:=J8 h0
     cases e
     exact wp_exit (hW.on _ _ _ hY rfl)
   | ret=>
     have h0:M.pure (Ex.ret,(fr,log)) s=some ((ex,(fr',log')),s'):=h0
     obtain ⟨e,rfl⟩:=J8 h0
     cases e
     exact wp_ret (hW.on _ _ _ hY rfl)
   | _=>cases h0
end
end Go.V
end
section
noncomputable section
namespace Go.V
open Go.RowKit (Below)
section
variable {P:Program} {T:Tab} {vs:a3J}
theorem b1u {fn:Func} {tmps:Array Value} {w:World} (h:fn.results=#[]):(results fn tmps).run P w=.ok (.tuple #[]) w:=by
 unfold results
 rw [h]
 simp
def RB (vs:a3J) (B:Nat):Nat→Prop:=fun k=>k<vs.length∨B≤k
theorem b5I (hT:TabOk P T) (hM:P.follows .mixedOrders=true) (hng:T.ng≤vs.length) (hp:∀ l∈vs, ∀ v∈l,plain v=true) {ext:Nat→Option (List Value→M Value)} (hE:a4C P T vs ext) {n m f:Nat} {fn:Func} {c:Code} {α:Type} {enc:α→List Value} {full:List α}
 (hPf:P.funcs[f]?=some fn) (hb:fn.body=some c) (hres:fn.results=#[])
 (hrun:∀ l:Nat, ∃ ex fr' s',a5d P T (a7j P T ext n) n c (Value.func (.yield l) #[] #[]::List.replicate (fn.ntmps - 1) undef) [] (a4P vs)=some ((ex,(fr',full.map fun x=>(l,enc x))),s')∧∀ id,ex≠.exit id)
 {w:World} (hL:LaidV vs w) {B:Nat} (hB:B≤w.heap.size) (hBv:vs.length≤w.heap.size) :
 SeqStopsK Fence.wide m P f #[] (fun x:α=>(enc x).toArray) (KeepsR (RB vs B)) (fun xs=>xs=full) (fun pre=>pre <+: full) full.length w:=by
 intro l J Jx W hW hJ hJx hround h0
 refine callsIn_wide.2 (calls_of_wp hPf hb ?_)
 have hLW:LaidV vs W:=hL.below hW hBv
 let J0:List (List Value)→World→Prop:=fun xs W=>∃ pre,xs=pre.map enc∧pre <+: full∧J pre W
 let Jx0:List (List Value)→World→Prop:=fun xs W=>∃ pre,xs=pre.map enc∧pre <+: full∧Jx pre W
 have hR:Rounds P (RB vs B) l (m - 1) J0 Jx0 (full.map enc):=by
  refine ⟨fun xs W1 W2 h hb2=>?_,fun xs x W1 h hpre=>?_⟩
  · obtain ⟨pre,e,hp1,hj⟩:=h
    exact ⟨pre,e,hp1,hJ pre W1 W2 none hj ⟨hb2.os,hb2.tape,hb2.output,hb2.size,fun k hk _=>hb2.block k hk⟩ (fun r q=>by cases q)⟩
  · obtain ⟨pre,rfl,⟨rest,rfl⟩,hj⟩:=h
    cases rest with
    | nil=>
      have:=hpre.length_le
      simp at this
      omega
    | cons y ys=>
      have hx:x=enc y:=by
       rw [List.map_append,List.prefix_append_right_inj] at hpre
       obtain ⟨t,ht⟩:=hpre
       simp at ht
       exact ht.1
      subst hx
      obtain ⟨f0,tm,as0,bd,q1,q2⟩:=hround pre y W1 hj (by simp)
      have hp2:pre ++ [y] <+: pre ++ y::ys:=⟨ys,by simp⟩
      refine ⟨f0,tm,as0,bd,q1,q2.mono fun e W' he=>?_⟩
      rcases he with ⟨e1,e2,e3⟩ | ⟨e1,e2⟩
      · exact Or.inl ⟨e1,⟨pre ++ [y],by simp,hp2,e2⟩,e3⟩
      · exact Or.inr ⟨e1,pre ++ [y],by simp,hp2,e2⟩
 obtain ⟨ex,fr',s',hr,hex⟩:=hrun l
 have hC:∀ B0 w0,LaidV vs w0.w→vs.length≤B0→a5O P T B0 w0 (a7j P T ext n):=fun B0 w0 h1 h2=>b1A hT hM (hE B0 w0 h1 h2) n
 have hF:∀ f aS9,Fr (a7j P T ext n f aS9):=Fr.callV P T (hE W.heap.size ⟨W,fun _=>True⟩ hLW hLW.size).1 n
 have hlen:(full.map fun x=>(l,enc x)).map (·.2)=full.map enc:=by rw [List.map_map]; rfl
 refine (c4B hT hM hC hF hR (fun k hk=>Or.inl hk) (ds:=[]) n).1 c _ [] (a4P vs) ex fr' _ s' _ W _ hr ⟨W.heap.size,⟨W,RB vs B⟩,a6F vs, ?_,rfl,rfl,⟨[],rfl,List.nil_prefix,h0⟩, ?_,b1a hng,rfl, ?_,hLW,hLW.size⟩ ?_ (by rw [hlen]; exact List.prefix_rfl) ⟨?_, ?_⟩
 · exact a9u (fun k hk=>Or.inr (Nat.le_trans hB (Nat.le_trans hW.size hk))) (fun k hk=>Or.inl hk) hLW hp
 · simp only [Array.toList_append,Array.toList_replicate]
   show VRL (a6F vs) ([Value.func (.yield l) #[] #[]] ++ List.replicate (fn.ntmps - 1) undef) ([Value.func (.yield l) #[] #[]] ++ List.replicate (fn.ntmps - 1) undef)
   refine VRL.append ⟨rfl,fun i v' v h1 h2=>?_⟩ (VRL.replicate _)
   rw [h1] at h2
   cases h2
   cases i with
   | zero=>cases h1; exact .func rfl (fun i v' v q=>by simp at q) rfl (fun i v' v q=>by simp at q)
   | succ i=>simp at h1
 · intro i hi
   rw [a3r]
   have:vs.length≤i:=by have:=hi; unfold a4P at this; rw [Z5] at this; exact this
   rw [List.getElem?_eq_none this]
 · intro e he
   obtain ⟨x,_,rfl⟩:=List.mem_map.1 he
   rfl
 · intro e a' w' y he
   obtain ⟨B0,w0,K,S,hwR,hB0,hJ',hf,hg,hds,hfr,_,_⟩:=y
   rw [hlen] at hJ'
   obtain ⟨pre,e1,e2,hJw⟩:=hR.abides _ _ _ hJ' (by rw [← hB0]; exact S.below)
   have e3:pre=full:=e2.eq_of_length (by have:=congrArg List.length e1; simpa using this.symm)
   subst e3
   have post:a'.defers=[]∧∃ v,(results fn a'.tmps).run P w'=.ok v w'∧((∃ u,Ending.returned v=.returned u)∧((∃ xs,xs=pre∧J xs w')∨(∃ pre',pre' <+: pre∧Jx pre' w'))):=
    ⟨hds,_,b1u hres,⟨_,rfl⟩,Or.inl ⟨_,rfl,hJw⟩⟩
   cases ex with
   | exit id=>exact absurd rfl (hex id)
   | normal=>have he:e=.normal:=he; subst he; exact post
   | ret=>have he:e=.ret:=he; subst he; exact post
 · intro a' w' pre hpre hx hd
   obtain ⟨pre',_,e2,hx⟩:=hx
   exact ⟨hd,_,b1u hres,⟨_,rfl⟩,Or.inr ⟨pre',e2,hx⟩⟩
end
end Go.V
end
