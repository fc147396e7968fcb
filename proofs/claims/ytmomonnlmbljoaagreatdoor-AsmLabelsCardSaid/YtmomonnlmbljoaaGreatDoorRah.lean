import Derived.Laws.BytesString
import Derived.Orders
import Derived.LoopN
import Derived.Test.YtmomonnlmbljoaaGreatDoorRag
section
namespace Go.V
open Go.RowKit (Below)
section
variable {P:Program} {T:Tab} {B0:Nat} {w0:Base} {w:World} {K:KM} {s s':S} {a:Act} {fr:List Value} {v:Value}
theorem a3e:∀ (vs:List Value) (bs:List UInt8),a4a vs=some bs→∃ ns:List Int,vs=ns.map (fun n=>Value.int .u8 n)∧bs=ns.map fun n=>UInt8.ofNat n.toNat
 | [],bs,h=>by cases h; exact ⟨[],rfl,rfl⟩
 | v::vs,bs,h=>by
   have h':(match a6q v with | none=>none | some b=>(match a4a vs with | some bs=>some (b::bs) | none=>none))=some bs:=h
   cases hb:a6q v with
   | none=>rw [hb] at h'; cases h'
   | some b=>
     rw [hb] at h'
     cases hr:a4a vs with
     | none=>rw [hr] at h'; cases h'
     | some bs1=>
       rw [hr] at h'
       cases h'
       obtain ⟨ns,e1,e2⟩:=a3e vs bs1 hr
       cases v with
       | int k n=>
         cases k with
         | u8=>cases hb; exact ⟨n::ns,by rw [e1]; rfl,by rw [e2]; rfl⟩
         | _=>cases hb
       | _=>cases hb
theorem c1q (ns:List Int):∀ (acc:ByteArray),ns.foldl (fun r n=>r.push (UInt8.ofNat n.toNat)) acc=⟨⟨acc.data.toList ++ ns.map fun n=>UInt8.ofNat n.toNat⟩⟩:=by
 induction ns with
 | nil=>intro acc; simp
 | cons n ns ih=>
   intro acc
   simp only [List.foldl_cons,ih,List.map_cons]
   congr 2
   simp [ByteArray.push]
theorem c6c (hT:TabOk P T) {src dst:TypeId} {x:Operand} (h:a1o T fr src dst x s=some (v,s')) (S:Sim B0 w0 K s.h w) (F:K8 K s s') (hf:VRL K a.tmps.toList fr) (hg:GK T K) :
 F9 P B0 w0 K s' (do pure (Next.value (← convert src dst (a.eval x)))) w v:=by
 obtain ⟨vx,e1,h1⟩:=K3 h
 obtain ⟨sd,hs,h2⟩:=I8 h1
 obtain ⟨dd,hd,h3⟩:=I8 h2
 have rx:=F5 hf hg e1
 have us:=fun w=>J3 (P:=P) hT hs w
 have ud:=fun w=>J3 (P:=P) hT hd w
 generalize hu:dd.und=u at h3 ud
 cases u with
 | int k=>
   cases vx with
   | int k' n=>
     obtain ⟨rfl,rfl⟩:=o9 h3
     have ex:=rx.eq_of_plain rfl
     refine F9.quiet S rfl (v':=.int k (k.wrap n)) ?_ (by rw [a0y]; exact .plain rfl)
     rw [ex]
     simp [convert,us,ud,Conv.intToInt]
   | _=>exact absurd h3 (by intro q; cases q)
 | slice e=>
   cases vx with
   | string b=>
     obtain ⟨i,hi,h4⟩:=I8 h3
     obtain ⟨hgd,h5⟩:=A8 h4
     obtain ⟨ad,s1,h6,h7⟩:=w9 h5
     obtain ⟨rfl,rfl⟩:=o9 h7
     have ex:=rx.eq_of_plain rfl
     simp only [Bool.and_eq_true,J2] at hgd
     have hlen:b.data.toList.length=b.size:=rfl
     have hby:i.und=.int .u8:=by
      have:=hgd.1
      cases hiu:i.und with
      | int k=>cases k <;> first | rfl | (rw [hiu] at this; cases this)
      | _=>rw [hiu] at this; cases this
     rw [Q6] at h6
     have hv:VRL K (b.data.toList.map a0x) (b.data.toList.map a0x):=VRL.refl_plain _ (fun y hy=>by obtain ⟨z,_,rfl⟩:=List.mem_map.1 hy; rfl)
     let cap:=(Question.appendCap b.size 0 e).cut (w.tape w.drawn (Question.appendCap b.size 0 e))
     have hcap:b.size≤cap:=by show b.size≤b.size+_ % _; exact Nat.le_add_right _ _
     let arr:Array Value:=b.data.map (fun x=>Value.int .u8 x.toNat) ++ Array.replicate (cap - b.size) (.int .u8 0)
     have harr:arr.toList=b.data.toList.map a0x ++ List.replicate (cap - b.size) (.int .u8 0):=by
      simp only [arr,Array.toList_append,Array.toList_map,Array.toList_replicate]; rfl
     have hasz:arr.size=cap:=by
      rw [← Array.length_toList,harr]; simp; show b.size+(cap - b.size)=cap; omega
     let w1:World:=(w.drew.alloc (.cells arr e))
     let w2:World:=w1.freeze { block:=w.heap.size,off:=arr.size } 1
     have hblk:w2.heap[w.heap.size]?=some (.cells arr e (arr.size,arr.size+1)):=by
      show ((w.heap.push (.cells arr e (0, 0))).modify w.heap.size _)[w.heap.size]?=_
      rw [Array.getElem?_modify,if_pos rfl,Array.getElem?_push_size]; rfl
     have G:Grew w w2:=by
      refine ⟨rfl,rfl,rfl, ?_, ?_⟩
      · show w.heap.size≤((w.heap.push (.cells arr e (0, 0))).modify w.heap.size _).size
        simp
      · intro k hk
        show ((w.heap.push (.cells arr e (0, 0))).modify w.heap.size _)[k]?=_
        rw [Array.getElem?_modify,if_neg (by omega),Array.getElem?_push,if_neg (by omega)]
     obtain ⟨K',k1,k2,rfl⟩:=Z6 (w':=w2) (arr:=arr) (e:=e) h6 S F hv G hblk harr (fun o ho=>by dsimp only; omega)
     refine F9.step (v':=.slice (some ⟨w.heap.size, 0,none⟩) b.size cap) (w':=w2) ?_ k1 ?_
     · rw [ex]
       have ue:=fun w=>J3 (P:=P) hT hi w
       rw [hby] at ue
       simp only [convert,Sem.run_bind,us,ud,Result.andThen_ok]
       cases sd.und <;> (
        simp only [Sem.run_bind,ue,Result.andThen_ok,Conv.stringToBytes,run_choose,Question.forced,Bool.false_eq_true,if_false,newRow,run_newObj,Sem.run_pure,markStringish,run_shape]
        simp only [World.shape?,Array.getElem?_push_size]
        rfl)
     · rw [J2]
       refine VR.slice (off:=0) k2 (Nat.zero_le _) (by omega) hcap (Or.inr rfl) (Or.inr ⟨rfl,rfl,fun _=>?_⟩)
       dsimp only
       rw [hasz]; omega
   | _=>exact absurd h3 (by intro q; cases q)
 | string=>
   cases vx with
   | string b=>
     obtain ⟨rfl,rfl⟩:=o9 h3
     have ex:=rx.eq_of_plain rfl
     refine F9.quiet S rfl (v':=.string b) ?_ (.plain rfl)
     rw [ex]
     simp only [convert,Sem.run_bind,us,ud,Result.andThen_ok]
     cases sd.und <;> rfl
   | int k n=>
     obtain ⟨rfl,rfl⟩:=o9 h3
     have ex:=rx.eq_of_plain rfl
     refine F9.quiet S rfl (v':=.string (Utf8.encode n)) ?_ (.plain rfl)
     rw [ex]
     simp only [convert,Sem.run_bind,us,ud,Result.andThen_ok]
     cases sd.und <;> rfl
   | slice o len es=>
     generalize hsu:sd.und=su at h3 us
     cases su with
     | slice e=>
       obtain ⟨_,h4⟩:=A8 h3
       obtain ⟨i,hi,h5⟩:=I8 h4
       obtain ⟨hgd,h6⟩:=A8 h5
       obtain ⟨vs,s1,h7,h8⟩:=w9 h6
       obtain ⟨bs,hbs,h9⟩:=C9 h8
       obtain ⟨rfl,rfl⟩:=o9 h9
       obtain ⟨n,vs',c1,c2,c3,c4,c5,c6⟩:=a5P (P:=P) h7 (by omega) S rx
       have hby:i.und=.int .u8:=by
        cases hiu:i.und with
        | int k=>cases k <;> first | rfl | (rw [hiu] at hgd; cases hgd)
        | _=>rw [hiu] at hgd; cases hgd
       have ue:=fun w=>J3 (P:=P) hT hi w
       rw [hby] at ue
       obtain ⟨ns,e2,e3⟩:=a3e vs bs hbs
       have hvs:vs'=ns.map (fun n=>Value.int .u8 n):=by
        apply List.ext_getElem?
        intro j
        rw [← e2]
        cases hj:vs[j]? with
        | none=>rw [List.getElem?_eq_none (by rw [c3.len]; exact List.getElem?_eq_none_iff.1 hj)]
        | some z=>
          obtain ⟨z',q1,q2⟩:=c3.get? hj
          rw [q1]
          have:z∈ns.map (fun n=>Value.int .u8 n):=by rw [← e2]; exact List.mem_of_getElem? hj
          obtain ⟨m,_,rfl⟩:=List.mem_map.1 this
          rw [q2.eq_of_plain rfl]
       refine F9.quiet S c5 (v':=.string ⟨⟨bs⟩⟩) ?_ (.plain rfl)
       have hconv:(convert src dst (a.eval x)).run P w=(Conv.bytesToString (a.eval x)).run P w:=by
        rcases U2 rx with ⟨_,ad',cap,_,p2,_⟩ | ⟨_,_,_,p4⟩
        · rw [p2]; simp only [convert,Sem.run_bind,us,ud,Result.andThen_ok,ue]
        · rw [p4]; simp only [convert,Sem.run_bind,us,ud,Result.andThen_ok,ue]
       rw [hconv]
       rcases U2 rx with ⟨_,ad',cap,_,p2,_⟩ | ⟨_,_,_,p4⟩
       · rw [p2] at c1 c2 ⊢
         have hn:n=len:=by have:=c1 w; simp [Builtin.lenOf] at this; exact this.symm
         have hl:(loadCells ad' len).run P w=.ok ((ns.map (fun n=>Value.int .u8 n)).toArray) w:=by
          have:=c2 w (fun _=>rfl)
          rw [hvs,hn] at this
          simpa [Builtin.firstCells] using this
         rw [run_bytesToString w ad' len cap ns hl,c1q,e3]
         simp
       · rw [p4] at c1 c2 ⊢
         have hn:n=0:=by have:=c1 w; simp [Builtin.lenOf] at this; exact this.symm
         have:vs'=[]:=List.eq_nil_of_length_eq_zero (by rw [c4,hn])
         rw [this] at hvs
         have hns:ns=[]:=by cases ns with
          | nil=>rfl
          | cons=>simp at hvs
         rw [e3,hns]
         rfl
     | _=>exact absurd h3 (by intro q; cases q)
   | _=>cases hq:sd.und <;> rw [hq] at h3 <;> exact absurd h3 (by intro q; cases q)
 | _=>exact absurd h3 (by intro q; cases q)
theorem c0n (hT:TabOk P T) {b:Builtin} {args:Array Operand} {ts:Array TypeId} {ty:TypeId} {consts:Array Bool} (h:a1m P T fr b args ts s=some (v,s')) (S:Sim B0 w0 K s.h w) (F:K8 K s s') (hf:VRL K a.tmps.toList fr) (hg:GK T K) :
 F9 P B0 w0 K s' (builtin b ts ty consts (args.map a.eval)) w v:=by
 obtain ⟨vs,e1,h1⟩:=a0h h
 have r:=a0e hf hg e1
 have hargs:args.map a.eval=(args.toList.map a.eval).toArray:=by apply Array.ext'; simp
 rw [hargs]
 cases b with
 | append=>
   obtain ⟨hlen2,h2⟩:=A8 h1
   rw [J2] at hlen2
   obtain ⟨v',w',K',q1,q2,q3⟩:=c0x (ty:=ty) hT (by rw [r.len]; exact Nat.eq_of_beq_eq_true hlen2) h2 S F r
   exact F9.step q1 q2 q3
 | len=>
   obtain ⟨t,e2,h2⟩:=C9 h1
   obtain ⟨d,hd,h3⟩:=I8 h2
   obtain ⟨x,e3,h4⟩:=C9 h3
   rw [O7,a0g] at e2
   rw [O7] at e3
   obtain ⟨x',e4,rx⟩:=r.get? e3
   have e4':(args.toList.map a.eval).toArray[0]?=some x':=by simpa using e4
   have hu:=J3 (P:=P) hT hd w
   have hlen:∃ n,(Builtin.len_ ts ty (args.toList.map a.eval).toArray).run P w=.ok (goInt n) w∧v=goInt n∧s'.h=s.h:=by
    unfold Builtin.len_
    simp only [e2,e4']
    simp only [Sem.run_bind,hu,Result.andThen_ok]
    unfold d4T at h4
    generalize d.und=u at *
    cases u with
    | array n e=>
      obtain ⟨rfl,rfl⟩:=o9 h4
      exact ⟨n,rfl,rfl,rfl⟩
    | string=>
      cases x with
      | string p=>
        obtain ⟨rfl,rfl⟩:=o9 h4
        rw [rx.eq_of_plain rfl]
        exact ⟨p.size,rfl,by rw [J2]; rfl,rfl⟩
      | _=>exact absurd h4 (by intro q; cases q)
    | slice e=>
      cases x with
      | slice o n es=>
        obtain ⟨rfl,rfl⟩:=o9 h4
        rcases U2 rx with ⟨_,ad',cap,_,p2,_⟩ | ⟨_,p2,_,p4⟩
        · rw [p2]; exact ⟨n,rfl,rfl,rfl⟩
        · rw [p4,p2]; exact ⟨0,rfl,rfl,rfl⟩
      | _=>exact absurd h4 (by intro q; cases q)
    | map k e=>
      obtain ⟨es,s1,h5,h6⟩:=w9 h4
      obtain ⟨rfl,rfl⟩:=o9 h6
      obtain ⟨c1,c2,c3⟩:=a2a h5 S rx
      rcases c3 with ⟨q1,rfl⟩ | ⟨b,l,es',clock,_,q2,q3,q4,q5,q6,q7⟩
      · rw [q1]; exact ⟨0,rfl,rfl,c1⟩
      · rw [q2]
        simp only [Sem.run_bind,a0i q6 (by intro c e f q; cases q),Result.andThen_ok,Sem.run_pure]
        exact ⟨es'.size,rfl,by rw [J2, ← q7.len]; simp,c1⟩
    | _=>exact absurd h4 (by intro q; cases q)
   obtain ⟨n,q1,rfl,q3⟩:=hlen
   exact F9.quiet S q3 q1 (.plain rfl)
 | max=>
   obtain ⟨hp,h2⟩:=A8 h1
   obtain ⟨z,hz,hna,rfl,rfl⟩:=a1V h2
   have hvs:args.toList.map a.eval=vs:=by
    apply List.ext_getElem?
    intro i
    cases hi:vs[i]? with
    | none=>exact List.getElem?_eq_none (by rw [r.len]; exact List.getElem?_eq_none_iff.1 hi)
    | some y=>
      obtain ⟨y',q1,q2⟩:=r.get? hi
      rw [q1,q2.eq_of_plain ((K9 _ _).1 hp _ (List.mem_of_getElem? hi))]
   rw [hvs]
   exact F9.quiet S rfl (a0p hz w) (L8 _ _ hna)
 | min=>
   obtain ⟨hp,h2⟩:=A8 h1
   obtain ⟨z,hz,hna,rfl,rfl⟩:=a1V h2
   have hvs:args.toList.map a.eval=vs:=by
    apply List.ext_getElem?
    intro i
    cases hi:vs[i]? with
    | none=>exact List.getElem?_eq_none (by rw [r.len]; exact List.getElem?_eq_none_iff.1 hi)
    | some y=>
      obtain ⟨y',q1,q2⟩:=r.get? hi
      rw [q1,q2.eq_of_plain ((K9 _ _).1 hp _ (List.mem_of_getElem? hi))]
   rw [hvs]
   exact F9.quiet S rfl (a0p hz w) (L8 _ _ hna)
 | _=>exact absurd h1 (by intro q; cases q)
theorem b2A (hT:TabOk P T) {o:Oper} (h:a1e P T fr o.op s=some (v,s')) (S:Sim B0 w0 K s.h w) (F:K8 K s s') (hf:VRL K a.tmps.toList fr) (hg:GK T K) :
 F9 P B0 w0 K s' (execOp a.eval o) w v:=by
 obtain ⟨dst,op,type,pos,after,guard⟩:=o
 cases op with
 | move x=>exact b9S h S hf hg
 | assign x=>exact b9S h S hf hg
 | pick c x y=>exact d8e h S hf hg
 | alloc t=>exact d5K hT h S F
 | box t x=>exact e1r h S F hf hg
 | build t ps=>exact d5a hT h S hf hg
 | buildSlice t len ps=>exact b0N hT h S F hf hg
 | load t x=>exact d7Q hT h S hf hg
 | store t x y=>exact d4K hT h S hf hg
 | nilCheck x=>exact b9C rfl h S hf hg
 | binOp op t x y yt=>exact e1f hT h S hf hg
 | unOp op t x=>exact e3P h S hf hg
 | convert x y z=>exact c6c hT h S F hf hg
 | makeInterface t x=>exact d5f hT h S hf hg
 | makeFunc fn x y=>exact d8L h S hf hg
 | makeMap t r=>exact e0S hT h S F hf hg
 | makeSlice t x y=>exact d9a hT h S F hf hg
 | slice t x lo hi mx=>exact d4o hT h S hf hg
 | fieldAddr t x f=>exact b3a hT h S hf hg
 | field t x f=>exact d5N hT h S hf hg
 | indexAddr t x i=>exact b3W hT h S hf hg
 | index t x i=>exact d3X hT h S hf hg
 | lookup t x i ok=>exact c8I hT h S hf hg
 | mapUpdate t m k x=>exact b0G hT h S hf hg
 | insert t m k x=>exact b0G hT h S hf hg
 | range t x=>exact d5V hT h S F hf hg
 | next x str=>exact d8D h S hf hg
 | extract x i=>exact c7e h S hf hg
 | _=>exact absurd h (by intro q; cases q)
def X8 (P:Program) (T:Tab) (B0:Nat) (w0:Base) (call:Nat→List Value→M Value):Prop:=
 ∀ f vs s v s' w K vs',call f vs s=some (v,s')→Sim B0 w0 K s.h w→GK T K→K8 K s s'→VRL K vs' vs →
   (∃ v' w' K',(callFunc f vs'.toArray).run P w=.ok (.value v') w'∧Step B0 w0 K s' w' K'∧VR K' v' v) ∨
   ((callFunc f vs'.toArray).run P w=.ok (.enter f vs'.toArray) w∧Calls P f vs'.toArray w fun e w'=>∃ v' K',e=.returned v'∧Step B0 w0 K s' w' K'∧VR K' v' v)
theorem a9r {x':Value} {fn:Fn} {x y:Array Value} (r:VR K x' (.func fn x y)):∃ x1 y1,x'=.func fn x1 y1∧VRL K x1.toList x.toList∧VRL K y1.toList y.toList:=by
 generalize hv:Value.func fn x y=z at r
 cases r with
 | plain hp=>subst hv; simp [V.plain] at hp
 | func h1 h2 h3 h4=>cases hv; exact ⟨_,_,rfl,⟨h1,h2⟩,⟨h3,h4⟩⟩
 | _=>cases hv
theorem a1P (hT:TabOk P T) {call:Nat→List Value→M Value} (hC:X8 P T B0 w0 call) {o:Oper} (h:M7 P T call fr o.op s=some (v,s')) (S:Sim B0 w0 K s.h w) (F:K8 K s s')
 (hf:VRL K a.tmps.toList fr) (hg:GK T K) {next:Act→World→Prop} {Q:Exit→Act→World→Prop}
 (hn:∀ v' w' K',Step B0 w0 K s' w' K'→VR K' v' v→next (a.put o.dst v') w'):o.wp P a w next Q:=by
 have good:F9 P B0 w0 K s' (execOp a.eval o) w v→o.wp P a w next Q:=by
  rintro ⟨n,w',K',r1,r2,r3⟩
  unfold Oper.wp
  rw [r1]
  rcases r3 with ⟨v',rfl,r⟩ | ⟨rfl,rfl⟩
  · exact hn v' w' K' r2 r
  · exact hn undef w' K' r2 (VR.undef K')
 unfold M7 at h
 cases hc:a2s o.op with
 | none=>
   rw [hc] at h
   exact good (b2A hT h S F hf hg)
 | some c=>
   rw [hc] at h
   have hop:o.op=.call c:=by
    cases ho:o.op <;> rw [ho] at hc <;> first | (cases hc; rfl) | cases hc
   have h':a2m P T call fr c s=some (v,s'):=h
   have hex:execOp a.eval o=(do let d ← resolve a.eval c o.type; invoke d.target d.args):=by
    unfold execOp; rw [hop]
   unfold a2m at h'
   cases hcal:c.callee with
   | builtin b=>
     rw [hcal] at h'
     refine good ?_
     have:=c0n (ty:=o.type) (consts:=c.args.map fun | .const _=>true | _=>false) hT h' S F hf hg
     rw [hex]
     have e:(do let d ← resolve a.eval c o.type; invoke d.target d.args)=builtin b c.argTypes o.type (c.args.map fun | .const _=>true | _=>false) (c.args.map a.eval):=by
      unfold resolve; rw [hcal]; rfl
     rw [e]
     exact this
   | value f=>
     rw [hcal] at h'
     obtain ⟨vf,e1,h1⟩:=K3 h'
     obtain ⟨vs,e2,h2⟩:=a0h h1
     have rf:=F5 hf hg e1
     have rs:=a0e hf hg e2
     cases vf with
     | func fn first captured=>
       cases fn with
       | func g=>
         have h3:call g (G7 first.toList (G7 vs captured.toList)) s=some (v,s'):=h2
         rw [I5,I5] at h3
         obtain ⟨f1,c1,ef,rf1,rc1⟩:=a9r rf
         have rargs:VRL K (f1.toList ++ (c.args.toList.map a.eval ++ c1.toList)) (first.toList ++ (vs ++ captured.toList)):=rf1.append (rs.append rc1)
         have e:execOp a.eval o=callFunc g (f1.toList ++ (c.args.toList.map a.eval ++ c1.toList)).toArray:=by
          rw [hex]
          unfold resolve
          rw [hcal]
          show (do let d ← Deferred.ofValue (a.eval f) (c.args.map a.eval); invoke d.target d.args)=_
          rw [ef]
          show callFunc g (f1 ++ c.args.map a.eval ++ c1)=_
          congr 1
          apply Array.ext'
          simp
         rcases hC g _ s v s' w K _ h3 S hg F rargs with ⟨v',w',K',q1,q2,q3⟩ | ⟨q1,q2⟩
         · exact good ⟨.value v',w',K',by rw [e]; exact q1,q2,Or.inl ⟨v',rfl,q3⟩⟩
         · unfold Oper.wp
           rw [e,q1]
           refine q2.mono fun en w' hq=>?_
           obtain ⟨v',K',rfl,r1,r2⟩:=hq
           exact hn v' w' K' r1 r2
       | _=>exact absurd h2 (by intro q; cases q)
     | _=>exact absurd h2 (by intro q; cases q)
   | invoke r m=>rw [hcal] at h'; cases h'
theorem a1y (ops:Array Oper) (tmps:Array Value) (hf:VRL K tmps.toList fr) (o:Oper):Region.wanted o (yielded ops tmps)=M6 ops.toList fr o:=by
 unfold Region.wanted M6
 cases o.guard with
 | none=>rfl
 | some jb=>
   obtain ⟨j,b⟩:=jb
   show (yielded ops tmps j == some b)=(match V7 ops.toList j with | some t=>o7 b (d9 fr t) | none=>false)
   have hd:V7 ops.toList j=(ops[j]?).bind (·.dst):=by
    unfold V7
    rw [O7,a0g]
    cases ops[j]? <;> rfl
   rw [hd]
   unfold yielded
   cases ho:ops[j]? with
   | none=>rfl
   | some o'=>
     simp only [Option.bind_some]
     cases o'.dst with
     | none=>rfl
     | some t=>
       show ((match tmps[t]? with | some (.bool b)=>some b | _=>none) == some b)=o7 b (d9 fr t)
       have r:=hf.lget t
       rw [U0 tmps.toList,a0g] at r
       cases ht:tmps[t]? with
       | none=>
         have:d9 fr t=undef:=by
          rw [U0,List.getElem?_eq_none]
          · rfl
          · rw [← hf.len]; simpa using ht
         rw [this]; rfl
       | some x=>
         rw [ht] at r
         have r:VR K x (d9 fr t):=r
         generalize d9 fr t=y at r
         cases r with
         | plain hp=>
           cases x with
           | bool b'=>show (some b' == some b)=(b' == b); rfl
           | _=>rfl
         | _=>rfl
theorem a1a {K':KM} (hf:VRL K' a.tmps.toList fr) (o:Oper) {v':Value} (r:VR K' v' v):VRL K' (a.put o.dst v').tmps.toList (G5 fr o v):=by
 unfold Act.put G5
 cases o.dst with
 | none=>exact hf
 | some t=>
   have:=hf.lset t r
   simpa using this
theorem O5 (a:Act) (d:Option Tmp) (v:Value):(a.put d v).defers=a.defers:=by cases d <;> rfl
theorem Step.trans {s1 s2:S} {w1 w2:World} {K1 K2:KM} (h1:Step B0 w0 K s1 w1 K1) (h2:Step B0 w0 K1 s2 w2 K2) (hc:s1.c≤s2.c):Step B0 w0 K s2 w2 K2:=
 ⟨KM.le_trans h1.le h2.le,fun i g hi=>(h2.far i g hi).trans (h1.far i g (Nat.le_trans hc hi)),h2.sim⟩
theorem K8.right {α:Type} {m:M α} {x:α} {s1 s2:S} {K1:KM} (F:K8 K s s2) (hm:Fr m) (h1:m s=some (x,s1)):K8 K1 s1 s2:=fun i hi hi2=>by
 obtain ⟨dr,dw,_,_,e3,_,e5,_,e7,_⟩:=hm s x s1 h1
 rw [e7 i (fun q=>by have:=e5 i q; omega)]
 exact F i (Nat.le_trans e3 hi) hi2
theorem K8.left {s1 s2:S} (F:K8 K s s2) (hc:s1.c≤s2.c):K8 K s s1:=fun i hi hi2=>F i hi (Nat.lt_of_lt_of_le hi2 hc)
theorem Fr.le {α:Type} {m:M α} (h:Fr m) {x:α} (e:m s=some (x,s')):s.c≤s'.c:=let ⟨_,_,_,_,q,_⟩:=h s x s' e; q
def a3u (B0:Nat) (w0:Base) (K:KM) (s':S) (ds:List Deferred) (ex:Ex) (fr':List Value):Exit→Act→World→Prop:=fun e a' w'=>
 ∃ K',Step B0 w0 K s' w' K'∧VRL K' a'.tmps.toList fr'∧a'.defers=ds∧(match ex with | .normal=>e=.normal | .exit id=>e=.exit id | .ret=>e=.ret)
theorem c9R (hT:TabOk P T) {call:Nat→List Value→M Value} (hC:X8 P T B0 w0 call) (hF:∀ f vs,Fr (call f vs)) (ops:Array Oper) {Q:Exit→Act→World→Prop} :
 ∀ (n k:Nat) (fr fr':List Value) (s s':S) (K:KM) (a:Act) (w:World),k+n=ops.size→Z9 P T call ops.toList (ops.toList.drop k) fr s=some (fr',s')→Sim B0 w0 K s.h w→K8 K s s'→VRL K a.tmps.toList fr→GK T K →
   (∀ a' w' K',Step B0 w0 K s' w' K'→VRL K' a'.tmps.toList fr'→a'.defers=a.defers→Q .normal a' w')→wpOps P ops Q (List.range' k n) a w:=by
 intro n
 induction n with
 | zero=>
   intro k fr fr' s s' K a w hk h S F hf hg hq
   have:ops.toList.drop k=[]:=List.drop_eq_nil_of_le (by simp; omega)
   rw [this] at h
   obtain ⟨rfl,rfl⟩:=o9 h
   exact hq a w K (Step.same S rfl) hf rfl
 | succ n ih=>
   intro k fr fr' s s' K a w hk h S F hf hg hq
   have hlt:k<ops.size:=by omega
   have hd:ops.toList.drop k=ops[k]::ops.toList.drop (k+1):=by
    rw [List.drop_eq_getElem_cons (by simpa using hlt)]; simp
   rw [hd,a2c] at h
   rw [List.range'_succ]
   simp only [wpOps,Array.getElem?_eq_getElem hlt]
   rw [a1y ops a.tmps hf]
   cases hw:M6 ops.toList fr ops[k] with
   | true=>
     rw [hw] at h
     simp only [if_true] at h ⊢
     left
     obtain ⟨v,s1,h1,h2⟩:=w9 h
     have hle2:=(Fr.runOps P T hF _ _ _).le h2
     refine a1P hT hC h1 S (F.left hle2) hf hg fun v' w' K' st r=>?_
     refine ih (k+1) _ fr' s1 s' K' _ w' (by omega) h2 st.sim (F.right (Fr.stepOp P T hF _ _) h1) (a1a (hf.mono st.le) _ r) (hg.mono st.le) fun a2 w2 K2 st2 r2 d2=>?_
     exact hq a2 w2 K2 (st.trans st2 hle2) r2 (by rw [d2,O5])
   | false=>
     rw [hw] at h
     simp only [Bool.false_eq_true,if_false] at h ⊢
     refine ih (k+1) _ fr' s s' K _ w (by omega) h S F (a1a hf _ (VR.undef K)) hg fun a2 w2 K2 st2 r2 d2=>?_
     exact hq a2 w2 K2 st2 r2 (by rw [d2,O5])
end
end Go.V
end
section
namespace Go.V
open Go.RowKit (Below)
section
variable {P:Program} {T:Tab} {fr fr2:List Value}
theorem a1c (i:Nat) (l:List Nat):a0j i l=true ↔ i∈l:=by
 induction l with
 | nil=>constructor <;> intro h <;> cases h
 | cons x l ih=>
   show (match Nat.beq i x with | true=>true | false=>a0j i l)=true ↔ _
   cases h:Nat.beq i x with
   | true=>simp [Nat.eq_of_beq_eq_true h]
   | false=>
     have:i≠x:=fun e=>by subst e; simp at h
     simp only [ih,List.mem_cons]
     exact ⟨Or.inr,fun q=>q.resolve_left this⟩
theorem c7c (l m:List Nat):Q5 l m=true ↔ ∀ i,i∈l→i ∉ m:=by
 unfold Q5
 rw [K9]
 constructor
 · intro h i hi hm
   have:=h i hi
   rw [(a1c i m).2 hm] at this
   cases this
 · intro h i hi
   cases q:a0j i m with
   | false=>rfl
   | true=>exact absurd ((a1c i m).1 q) (h i hi)
theorem c3q {t:Nat} {xs:List Operand} (h:Operand.tmp t∈xs):t∈a1i xs:=by
 induction xs with
 | nil=>cases h
 | cons x xs ih=>
   show t∈(match x with | .tmp t=>t::a1i xs | _=>a1i xs)
   rcases List.mem_cons.1 h with rfl | h
   · simp
   · have:=ih h
     cases x <;> simp [this]
theorem b9c {x:Operand} (h:∀ t,x=.tmp t→d9 fr t=d9 fr2 t):J8 T fr x=J8 T fr2 x:=by
 cases x with
 | tmp t=>show some (d9 fr t)=some (d9 fr2 t); rw [h t rfl]
 | _=>rfl
theorem T9 {xs:List Operand} (h:∀ x∈xs,J8 T fr x=J8 T fr2 x):M0 T fr xs=M0 T fr2 xs:=by
 induction xs with
 | nil=>rfl
 | cons x xs ih=>
   show (match J8 T fr x with | none=>none | some v=>(match M0 T fr xs with | none=>none | some vs=>some (v::vs)))=(match J8 T fr2 x with | none=>none | some v=>(match M0 T fr2 xs with | none=>none | some vs=>some (v::vs)))
   rw [h x (List.mem_cons_self ..),ih (fun y hy=>h y (List.mem_cons_of_mem _ hy))]
theorem a9U {o:Op} (h:∀ x∈o.operands.toList,J8 T fr x=J8 T fr2 x):a1e P T fr o=a1e P T fr2 o:=by
 cases o with
 | move x=>show M.lift _=M.lift _; rw [h x (by simp [Op.operands])]
 | assign x=>show M.lift _=M.lift _; rw [h x (by simp [Op.operands])]
 | pick c x y=>show a3I T fr c x y=a3I T fr2 c x y; simp only [a3I,ev,h c (by simp [Op.operands]),h x (by simp [Op.operands]),h y (by simp [Op.operands])]
 | alloc t=>rfl
 | box t x=>show a5B T fr x=a5B T fr2 x; simp only [a5B,ev,h x (by simp [Op.operands])]
 | build t ps=>
   show a2l T fr t ps=a2l T fr2 t ps
   have:M0 T fr (U8 (·.2) ps.toList)=M0 T fr2 (U8 (·.2) ps.toList):=T9 (fun x hx=>h x (by rw [Q6] at hx; simpa [Op.operands] using hx))
   simp only [a2l,evs,this]
 | buildSlice t len ps=>
   show a0c T fr t len ps=a0c T fr2 t len ps
   have:M0 T fr (U8 (·.2) ps.toList)=M0 T fr2 (U8 (·.2) ps.toList):=T9 (fun x hx=>h x (by rw [Q6] at hx; simpa [Op.operands] using hx))
   simp only [a0c,evs,this]
 | load t x=>show a2P T fr t x=a2P T fr2 t x; simp only [a2P,ev,h x (by simp [Op.operands])]
 | store t x y=>show a2r T fr t x y=a2r T fr2 t x y; simp only [a2r,ev,h x (by simp [Op.operands]),h y (by simp [Op.operands])]
 | nilCheck x=>show a0O T fr x=a0O T fr2 x; simp only [a0O,ev,h x (by simp [Op.operands])]
 | binOp op t x y yt=>show a5C P T fr op t x y=a5C P T fr2 op t x y; simp only [a5C,ev,h x (by simp [Op.operands]),h y (by simp [Op.operands])]
 | unOp op t x=>show b2g P T fr op x=b2g P T fr2 op x; simp only [b2g,ev,h x (by simp [Op.operands])]
 | convert x y z=>show a1o T fr x y z=a1o T fr2 x y z; simp only [a1o,ev,h z (by simp [Op.operands])]
 | makeInterface t x=>show a2t T fr t x=a2t T fr2 t x; simp only [a2t,ev,h x (by simp [Op.operands])]
 | makeFunc fn x y=>
   show a3p T fr fn x y=a3p T fr2 fn x y
   have e1:M0 T fr x.toList=M0 T fr2 x.toList:=T9 (fun z hz=>h z (by simp [Op.operands] at hz ⊢; exact Or.inl hz))
   have e2:M0 T fr y.toList=M0 T fr2 y.toList:=T9 (fun z hz=>h z (by simp [Op.operands] at hz ⊢; exact Or.inr hz))
   simp only [a3p,evs,e1,e2]
 | makeMap t r=>
   cases r with
   | none=>rfl
   | some x=>
     show a5N T fr t (some x)=a5N T fr2 t (some x)
     simp only [a5N,ev,h x (by simp [Op.operands])]
 | makeSlice t x y=>show a3d T fr t x y=a3d T fr2 t x y; simp only [a3d,ev,h x (by simp [Op.operands]),h y (by simp [Op.operands])]
 | slice t x lo hi mx=>
   show a2e T fr t x lo hi mx=a2e T fr2 t x lo hi mx
   have e1:M0 T fr lo.toList=M0 T fr2 lo.toList:=T9 (fun z hz=>h z (by simp [Op.operands] at hz ⊢; exact Or.inr (Or.inl hz)))
   have e2:M0 T fr hi.toList=M0 T fr2 hi.toList:=T9 (fun z hz=>h z (by simp [Op.operands] at hz ⊢; exact Or.inr (Or.inr (Or.inl hz))))
   have e3:M0 T fr mx.toList=M0 T fr2 mx.toList:=T9 (fun z hz=>h z (by simp [Op.operands] at hz ⊢; exact Or.inr (Or.inr (Or.inr hz))))
   simp only [a2e,evs,ev,e1,e2,e3,h x (by simp [Op.operands])]
 | fieldAddr t x f=>show a0n T fr t x f=a0n T fr2 t x f; simp only [a0n,ev,h x (by simp [Op.operands])]
 | field t x f=>show a2i T fr t x f=a2i T fr2 t x f; simp only [a2i,ev,h x (by simp [Op.operands])]
 | indexAddr t x i=>show a0r T fr t x i=a0r T fr2 t x i; simp only [a0r,ev,h x (by simp [Op.operands]),h i (by simp [Op.operands])]
 | index t x i=>show a2g T fr t x i=a2g T fr2 t x i; simp only [a2g,ev,h x (by simp [Op.operands]),h i (by simp [Op.operands])]
 | lookup t x i ok=>show a1K T fr t x i ok=a1K T fr2 t x i ok; simp only [a1K,ev,h x (by simp [Op.operands]),h i (by simp [Op.operands])]
 | mapUpdate t m k x=>show Y1 T fr t m k x=Y1 T fr2 t m k x; simp only [Y1,ev,h m (by simp [Op.operands]),h k (by simp [Op.operands]),h x (by simp [Op.operands])]
 | insert t m k x=>show Y1 T fr t m k x=Y1 T fr2 t m k x; simp only [Y1,ev,h m (by simp [Op.operands]),h k (by simp [Op.operands]),h x (by simp [Op.operands])]
 | range t x=>show a2p T fr t x=a2p T fr2 t x; simp only [a2p,ev,h x (by simp [Op.operands])]
 | next x str=>show a3E T fr x str=a3E T fr2 x str; simp only [a3E,ev,h x (by simp [Op.operands])]
 | extract x i=>show a1l T fr x i=a1l T fr2 x i; simp only [a1l,ev,h x (by simp [Op.operands])]
 | _=>rfl
theorem b7u {call:Nat→List Value→M Value} {o:Op} (h:∀ x∈o.operands.toList,J8 T fr x=J8 T fr2 x):M7 P T call fr o=M7 P T call fr2 o:=by
 unfold M7
 cases hc:a2s o with
 | none=>exact a9U h
 | some c=>
   have hop:o=.call c:=by cases o <;> first | (cases hc; rfl) | cases hc
   subst hop
   have ha:M0 T fr c.args.toList=M0 T fr2 c.args.toList:=T9 (fun z hz=>h z (by simp [Op.operands,Call.operands] at hz ⊢; exact Or.inr hz))
   show a2m P T call fr c=a2m P T call fr2 c
   unfold a2m
   cases hcal:c.callee with
   | value f=>
     have hf:J8 T fr f=J8 T fr2 f:=h f (by simp [Op.operands,Call.operands,hcal])
     simp only [a1E,ev,evs,ha,hf]
   | builtin b=>simp only [a1m,evs,ha]
   | invoke r m=>rfl
theorem a4m {call:Nat→List Value→M Value} {ops:List Oper} {o:Oper} (h:∀ t,t∈Q7 ops o→d9 fr t=d9 fr2 t):M7 P T call fr o.op=M7 P T call fr2 o.op∧M6 ops fr o=M6 ops fr2 o:=by
 refine ⟨b7u fun x hx=>b9c fun t ht=>h t ?_, ?_⟩
 · subst ht
   have:=c3q hx
   unfold Q7
   split
   · exact this
   · split
     · exact List.mem_cons_of_mem _ this
     · exact this
 · unfold M6
   cases hg:o.guard with
   | none=>rfl
   | some jb=>
     show (match V7 ops jb.1 with | some t=>o7 jb.2 (d9 fr t) | none=>false)=(match V7 ops jb.1 with | some t=>o7 jb.2 (d9 fr2 t) | none=>false)
     cases hd:V7 ops jb.1 with
     | none=>rfl
     | some t=>
       have:t∈Q7 ops o:=by
        unfold Q7; rw [hg]
        show t∈(match V7 ops jb.1 with | some t=>t::a1i o.op.operands.toList | none=>a1i o.op.operands.toList)
        rw [hd]; exact List.mem_cons_self ..
       show o7 jb.2 (d9 fr t)=o7 jb.2 (d9 fr2 t)
       rw [h t this]
end
def Z5 {β:Type} (X:Nat→β) (inD inW:Nat→Bool):Nat→β
 | 0=>X 0
 | k+1=>if inD k && inW k then X (k+1) else Z5 X inD inW k
section
variable {β:Type} {X:Nat→β} {inD inW:Nat→Bool} {n:Nat}
theorem a2K (hX:∀ k,k<n→inW k=false→X (k+1)=X k) (i:Nat) (h:∀ j,j<n→inW j=true→(inD j=true ↔ j<i)) (hi:i≤n):Z5 X inD inW n=X i:=by
 have key:∀ k,k≤n→Z5 X inD inW k=X (min k i):=by
  intro k
  induction k with
  | zero=>intro _; simp [Z5]
  | succ k ih=>
    intro hk
    have ih:=ih (by omega)
    unfold Z5
    cases hw:inW k with
    | true=>
      have:=h k (by omega) hw
      by_cases hki:k<i
      · rw [this.2 hki]; simp; rw [Nat.min_eq_left (by omega)]
      · have:inD k=false:=by
         cases q:inD k with
         | false=>rfl
         | true=>exact absurd (this.1 q) hki
        rw [this]; simp; rw [ih,Nat.min_eq_right (by omega),Nat.min_eq_right (by omega)]
    | false=>
      simp
      rw [ih]
      by_cases hki:k<i
      · rw [Nat.min_eq_left (by omega),Nat.min_eq_left (by omega),hX k (by omega) hw]
      · rw [Nat.min_eq_right (by omega),Nat.min_eq_right (by omega)]
 rw [key n (Nat.le_refl _),Nat.min_eq_right hi]
theorem b6l (hX:∀ k,k<n→inW k=false→X (k+1)=X k) (h:∀ j,j<n→inD j=true):Z5 X inD inW n=X n:=
 a2K hX n (fun j hj _=>⟨fun _=>hj,fun _=>h j hj⟩) (Nat.le_refl _)
theorem b4j {inD':Nat→Bool} (h:∀ j,j<n→inW j=true→inD' j=inD j):Z5 X inD' inW n=Z5 X inD inW n:=by
 induction n with
 | zero=>rfl
 | succ n ih=>
   unfold Z5
   rw [ih (fun j hj=>h j (by omega))]
   cases hw:inW n with
   | true=>rw [h n (by omega) hw]
   | false=>simp
theorem b9Z (i:Nat) (hi:i<n) (hd:inD i=true) (hw:inW i=true) (h:∀ j,i<j→j<n→inD j=true→inW j=false):Z5 X inD inW n=X (i+1):=by
 induction n with
 | zero=>omega
 | succ n ih=>
   unfold Z5
   by_cases hin:i=n
   · subst hin; simp [hd,hw]
   · have:=ih (by omega) (fun j h1 h2=>h j h1 (by omega))
     cases q:inD n with
     | true=>rw [h n (by omega) (by omega) q]; simp; exact this
     | false=>simp; exact this
theorem a3k (h:∀ j,j<n→inD j=true→inW j=false):Z5 X inD inW n=X 0:=by
 induction n with
 | zero=>rfl
 | succ n ih=>
   unfold Z5
   rw [ih (fun j hj=>h j (by omega))]
   cases q:inD n with
   | true=>rw [h n (by omega) q]; simp
   | false=>simp
end
theorem d0M {ops:List Oper} {x y:Oper×(List Nat×List Nat)} (h:free2 ops x y=true) :
 (∀ i,i∈x.2.2→i ∉ y.2.1)∧(∀ i,i∈x.2.2→i ∉ y.2.2)∧(∀ i,i∈y.2.2→i ∉ x.2.1)∧(∀ i,i∈O9 x.1→i ∉ Q7 ops y.1)∧(∀ i,i∈O9 x.1→i ∉ O9 y.1)∧(∀ i,i∈O9 y.1→i ∉ Q7 ops x.1):=by
 unfold free2 at h
 simp only [Bool.and_eq_true,c7c] at h
 obtain ⟨⟨⟨⟨⟨h1,h2⟩,h3⟩,h4⟩,h5⟩,h6⟩:=h
 exact ⟨h1,h2,h3,h4,h5,h6⟩
theorem b4W {ops:List Oper} {pj:List Nat} {y:Oper×(List Nat×List Nat)}:∀ (xs:List (Oper×(List Nat×List Nat))) (k:Nat),a0E ops pj y xs k=true →
 ∀ (i:Nat) x,xs[i]?=some x→(k+i)∈pj∨free2 ops x y=true:=by
 intro xs
 induction xs with
 | nil=>intro k _ i x h; simp at h
 | cons x0 xs ih=>
   intro k h i x hx
   have h':(match a0j k pj || free2 ops x0 y with | true=>a0E ops pj y xs (k+1) | false=>false)=true:=h
   cases hb:a0j k pj || free2 ops x0 y with
   | false=>rw [hb] at h'; cases h'
   | true=>
     rw [hb] at h'
     cases i with
     | zero=>
       simp at hx; subst hx
       simp only [Bool.or_eq_true,a1c] at hb
       simpa using hb
     | succ i=>
       have:=ih (k+1) h' i x (by simpa using hx)
       rwa [show k+1+i=k+(i+1) by omega] at this
theorem d1q {f:Edge→List Nat} {l:List Edge} {p:Nat} (h:p∈X6 f l):∃ e∈l,p∈f e:=by
 induction l with
 | nil=>cases h
 | cons e l ih=>
   have h':p∈G7 (f e) (X6 f l):=h
   rw [I5] at h'
   rcases List.mem_append.1 h' with h | h
   · exact ⟨e,List.mem_cons_self ..,h⟩
   · obtain ⟨e',h1,h2⟩:=ih h; exact ⟨e',List.mem_cons_of_mem _ h1,h2⟩
theorem b9x {ops:List Oper}:∀ (ys xs:List (Oper×(List Nat×List Nat))) (psl:List (List Nat)) (n:Nat),E9 ops ys xs psl n=true→xs.length=n→psl.length=n →
 ∃ ps:Nat→List Nat,(∀ i l,psl[i]?=some l→ps i=l)∧∀ (j:Nat) y,ys[j]?=some y →
   (∀ e∈y.1.after.toList,Region.binds .any e=true→e.on<n+j)∧(∀ p,p∈ps (n+j)→∃ e∈y.1.after.toList,Region.binds .any e=true∧(p=e.on∨p∈ps e.on)) ∧
   (∀ (i:Nat) x,i<n+j→(xs ++ ys)[i]?=some x→i∈ps (n+j)∨free2 ops x y=true):=by
 intro ys
 induction ys with
 | nil=>intro xs psl n _ _ _; exact ⟨fun i=>(psl[i]?).getD [],fun i l h=>by simp [h],fun j y h=>by simp at h⟩
 | cons y ys ih=>
   intro xs psl n h hx hp
   have h':(match a0I n y.1.after.toList && a0E ops (X6 (Z0 psl) y.1.after.toList) y xs 0 with | true=>E9 ops ys (G7 xs [y]) (G7 psl [X6 (Z0 psl) y.1.after.toList]) (n+1) | false=>false)=true:=h
   cases hb:a0I n y.1.after.toList && a0E ops (X6 (Z0 psl) y.1.after.toList) y xs 0 with
   | false=>rw [hb] at h'; cases h'
   | true=>
     rw [hb] at h'
     simp only [I5] at h'
     simp only [Bool.and_eq_true] at hb
     obtain ⟨ps,p1,p2⟩:=ih (xs ++ [y]) (psl ++ [X6 (Z0 psl) y.1.after.toList]) (n+1) h' (by simp [hx]) (by simp [hp])
     have hpsn:ps n=X6 (Z0 psl) y.1.after.toList:=p1 n _ (by rw [List.getElem?_append_right (by omega),hp]; simp)
     refine ⟨ps,fun i l hi=>p1 i l (by rw [List.getElem?_append_left (by have:=(List.getElem?_eq_some_iff.1 hi).1; exact this)]; exact hi),fun j z hz=>?_⟩
     cases j with
     | zero=>
       simp at hz; subst hz
       refine ⟨fun e he hbi=>?_,fun p hpp=>?_,fun i x hi hix=>?_⟩
       · have:=(K9 _ _).1 hb.1 e he
         rw [hbi] at this
         simpa [Nat.blt_eq] using this
       · rw [Nat.add_zero,hpsn] at hpp
         obtain ⟨e,he,hpe⟩:=d1q hpp
         have hpe':p∈(match Region.binds .any e with | true=>(match M8 psl e.on with | some l=>e.on::l | none=>[]) | false=>[]):=hpe
         cases hbi:Region.binds .any e with
         | false=>rw [hbi] at hpe'; cases hpe'
         | true=>
           rw [hbi] at hpe'
           refine ⟨e,he,hbi, ?_⟩
           cases hg:M8 psl e.on with
           | none=>rw [hg] at hpe'; cases hpe'
           | some l=>
             rw [hg] at hpe'
             rw [O7] at hg
             have:ps e.on=l:=p1 _ _ (by rw [List.getElem?_append_left (List.getElem?_eq_some_iff.1 hg).1]; exact hg)
             rcases List.mem_cons.1 hpe' with q | q
             · exact Or.inl q
             · exact Or.inr (by rw [this]; exact q)
       · rw [List.getElem?_append_left (by omega)] at hix
         have:=b4W xs 0 hb.2 i x hix
         rw [Nat.zero_add] at this
         rw [Nat.add_zero,hpsn]; exact this
     | succ j=>
       have:=p2 j z (by simpa using hz)
       rw [show n+1+j=n+(j+1) by omega] at this
       simpa using this
end Go.V
end
