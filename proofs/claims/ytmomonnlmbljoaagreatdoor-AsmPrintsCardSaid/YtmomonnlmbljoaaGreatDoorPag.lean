import Derived.Test.YtmomonnlmbljoaaGreatDoorPaf
section
namespace Go.V
open Go.RowKit (Below)
theorem b0Q {B0:Nat} {w0:Base} {K:KM} {h h':Trie VObj} {w w':World} (S:Sim B0 w0 K h w) {b:Nat} {l:Loc} {o o':VObj} {ob:Obj}
 (hk:K b 0=some l) (hown:l.own=true) (ho:h.get b=some o) (hnc:∀ cs cur ro,o≠.cells cs cur ro) (hnc':∀ cs cur ro,o'≠.cells cs cur ro)
 (hh:∀ j,h'.get j=if j=b then some o' else h.get j) (hw:w'={ w with heap:=w.heap.setIfInBounds l.blk ob })
 (hmap:∀ es,o'=.map es→∃ es' clock,ob=.map es' clock∧MR K es'.toList es) (hiter:∀ x pos,o'=.siter x pos→l.lo=0∧l.at_=0∧ob=.stringIter x pos):Sim B0 w0 K h' w':=by
 have hb:h'.get b=some o':=by rw [hh,if_pos rfl]
 have hn:∀ j,j≠b→h'.get j=h.get j:=fun j hj=>by rw [hh,if_neg hj]
 have hother:∀ k,k≠l.blk→w'.heap[k]?=w.heap[k]?:=fun k hkk=>by
  rw [hw]; simp only [Array.getElem?_setIfInBounds]; rw [if_neg (fun q=>hkk q.symm)]
 have hsize:w'.heap.size=w.heap.size:=by rw [hw]; simp
 have hat:w'.heap[l.blk]?=some ob:=by
  rw [hw]; simp only [Array.getElem?_setIfInBounds]; rw [if_pos trivial,if_pos (S.dom _ _ _ hk)]
 have hbk:∀ b2 g l2,b2≠b→K b2 g=some l2→l2.blk≠l.blk:=fun b2 g l2 hne q=>(S.apart _ _ _ _ _ _ hk q (Ne.symm hne) hown).symm
 refine ⟨S.size0,S.below.trans ⟨by rw [hw],by rw [hw],by rw [hw],by rw [hsize]; exact Nat.le_refl _,fun k hkk=>hother k (by have:=S.own _ _ _ hk hown; omega)⟩,fun b2 g l2 q=>by rw [hsize]; exact S.dom' b2 g l2 q,fun b2 g2 l2 q=>by by_cases hx:b2=b; exact ⟨_,by rw [hx]; exact hb⟩; rw [hn b2 hx]; exact S.dom2 b2 g2 l2 q,S.own,S.apart,S.same, ?_, ?_, ?_, ?_, ?_,(fun b2 g2 l2 q hnq=>by
  by_cases hx:b2=b
  · exact S.gen0 b2 g2 l2 q (fun cs cur ro e=>by rw [hx] at e; rw [ho] at e; cases e; exact hnc _ _ _ rfl)
  · exact S.gen0 b2 g2 l2 q (fun cs cur ro e=>hnq cs cur ro (by rw [hn b2 hx]; exact e)))⟩
 · intro b2 g l2 cs cur ro q1 q2 q3
   have hne:b2≠b:=fun e=>by rw [e,hb] at q3; cases q3; exact hnc' _ _ _ rfl
   rw [hn b2 hne] at q3
   obtain ⟨c,e,fz,r1,r2,r3⟩:=S.room b2 g l2 cs cur ro q1 q2 q3
   have hx:=hother _ (hbk b2 g l2 hne q1)
   exact ⟨c,e,fz,by rw [hx]; exact r1,r2,fun o ho=>by rw [World.frozen?_of_block (w:=w) hx]; exact r3 o ho⟩
 · intro b2 cs cur ro q
   have hne:b2≠b:=fun e=>by rw [e,hb] at q; cases q; exact hnc' _ _ _ rfl
   rw [hn b2 hne] at q
   exact S.gens b2 cs cur ro q
 · intro b2 cs cur ro g l2 q1 q2 off v st q3 q4 q5
   have hne:b2≠b:=fun e=>by rw [e,hb] at q1; cases q1; exact hnc' _ _ _ rfl
   rw [hn b2 hne] at q1
   obtain ⟨v',r1,r2⟩:=S.cells b2 cs cur ro g l2 q1 q2 off v st q3 q4 q5
   have hx:=hother _ (hbk b2 g l2 hne q2)
   exact ⟨v',by rw [World.cell?_of_block (w:=w) hx]; exact r1,r2⟩
 · intro b2 es q
   by_cases hne:b2=b
   · subst hne
     rw [hb] at q; cases q
     obtain ⟨es',clock,rfl,r⟩:=hmap es rfl
     exact ⟨l,es',clock,hk,hown,hat,r⟩
   · rw [hn b2 hne] at q
     obtain ⟨l2,es',clock,r1,r2,r3,r4⟩:=S.map b2 es q
     exact ⟨l2,es',clock,r1,r2,by rw [hother _ (hbk b2 0 l2 hne r1)]; exact r3,r4⟩
 · intro b2 x pos q
   by_cases hne:b2=b
   · subst hne
     rw [hb] at q; cases q
     obtain ⟨e1,e2,rfl⟩:=hiter x pos rfl
     exact ⟨l,hk,hown,e1,e2,hat⟩
   · rw [hn b2 hne] at q
     obtain ⟨l2,r1,r2,r3,r4,r5⟩:=S.siter b2 x pos q
     exact ⟨l2,r1,r2,r3,r4,by rw [hother _ (hbk b2 0 l2 hne r1)]; exact r5⟩
theorem a5k:∀ (x y:List UInt8),beqBytes x y=(x == y):=by
 intro x
 induction x with
 | nil=>intro y; cases y <;> rfl
 | cons a x ih=>
   intro y
   cases y with
   | nil=>rfl
   | cons b y=>
     show Bool.rec (motive:=fun _=>Bool) false (beqBytes x y) (Nat.beq a.toNat b.toNat)=_
     rw [ih]
     by_cases h:a=b
     · subst h; simp
     · have:a.toNat≠b.toNat:=fun e=>h (UInt8.toNat_inj.1 e)
       have h2:Nat.beq a.toNat b.toNat=false:=by
        cases q:Nat.beq a.toNat b.toNat with
        | false=>rfl
        | true=>exact absurd (Nat.eq_of_beq_eq_true q) this
       rw [h2]
       simp [h]
theorem b5b (x y:ByteArray):(x == y)=beqBytes x.data.toList y.data.toList:=by
 rw [a5k]
 obtain ⟨⟨x⟩⟩:=x
 obtain ⟨⟨y⟩⟩:=y
 have:(({ data:=⟨x⟩ }:ByteArray) == { data:=⟨y⟩ })=((⟨x⟩:Array UInt8) == ⟨y⟩):=rfl
 rw [this]
 by_cases h:x=y
 · subst h; simp
 · have h1:(x == y)=false:=by simpa using h
   have h2:((⟨x⟩:Array UInt8) == ⟨y⟩)=false:=by simpa using h
   rw [h2]; exact h1.symm
section
variable {P:Program} {T:Tab} {B0:Nat} {w0:Base} {w:World} {K:KM} {s s':S} {a:Act} {fr:List Value} {v:Value}
theorem c2j {d:TypeDesc} {k x:Value} (hf:a7V d k=true) {b:Bool} (h:a4F k x=some b):Instr.sameNow d k x=some b:=by
 cases k with
 | int k1 n1=>
   cases d with
   | int kd=>
     cases x with
     | int k2 n2=>
       have h':(match decide (k1=k2) with | true=>some (decide (n1=n2)) | false=>none)=some b:=h
       show (if k1=k2 then some (n1 == n2) else none)=some b
       by_cases hk:k1=k2
       · rw [if_pos hk]
         rw [decide_eq_true hk] at h'
         rw [← h']
         congr 1
       · rw [decide_eq_false hk] at h'; cases h'
     | _=>cases h
   | _=>cases hf
 | string s1=>
   cases d with
   | string=>
     cases x with
     | string s2=>
       have h':some (beqBytes s1.data.toList s2.data.toList)=some b:=h
       show some (s1 == s2)=some b
       rw [b5b]; exact h'
     | _=>cases h
   | _=>cases hf
 | bool b1=>
   cases d with
   | bool=>
     cases x with
     | bool b2=>exact h
     | _=>cases h
   | _=>cases hf
 | _=>cases h
theorem b2B {d:TypeDesc} {k:Value} (hf:a7V d k=true):∀ (es:List (Value×Value)) (es':List MapEntry) (i:Nat) (r:Option Value),b6n k es=some r→MR K es' es →
 ∃ r',Instr.findNow d k es' i=some r'∧((r=none∧r'=none∧∀ e∈es,a4F k e.1=some false) ∨
   ∃ j x x',r=some x∧r'=some (i+j,x')∧VR K x' x∧j<es.length∧(∀ (m:Nat) e,m<j→es[m]?=some e→a4F k e.1=some false)∧∃ e,es[j]?=some e∧a4F k e.1=some true):=by
 intro es
 induction es with
 | nil=>
   intro es' i r h hm
   cases h
   have:es'=[]:=List.eq_nil_of_length_eq_zero hm.len
   subst this
   exact ⟨none,rfl,Or.inl ⟨rfl,rfl,by simp⟩⟩
 | cons e es ih=>
   intro es' i r h hm
   cases es' with
   | nil=>have:=hm.len; simp at this
   | cons e' es'=>
     obtain ⟨hkey,hval⟩:=hm.key 0 e' e rfl rfl
     have hmt:MR K es' es:=⟨by have:=hm.len; simpa using this,fun j x y q q'=>hm.key (j+1) x y (by simpa using q) (by simpa using q')⟩
     have h':(match a4F k e.1 with | none=>none | some true=>some (some e.2) | some false=>b6n k es)=some r:=h
     cases hs:a4F k e.1 with
     | none=>rw [hs] at h'; cases h'
     | some b=>
       rw [hs] at h'
       have hn:=c2j hf hs
       cases b with
       | true=>
         cases h'
         refine ⟨some (i,e'.val), ?_,Or.inr ⟨0,e.2,e'.val,rfl,rfl,hval,by simp,fun m x hm _=>by omega,e,rfl,hs⟩⟩
         simp [Instr.findNow,hkey,hn]
       | false=>
         obtain ⟨r',h1,h2⟩:=ih es' (i+1) r h' hmt
         refine ⟨r',by simp [Instr.findNow,hkey,hn,h1], ?_⟩
         rcases h2 with ⟨e1,e2,e3⟩ | ⟨j,x,x',e1,e2,e3,e4,e5,e6⟩
         · exact Or.inl ⟨e1,e2,fun y hy=>by rcases List.mem_cons.1 hy with rfl | hy; exact hs; exact e3 y hy⟩
         · refine Or.inr ⟨j+1,x,x',e1,by rw [e2]; congr 2; omega,e3,by simpa using e4,fun m y hm hy=>?_,by simpa using e6⟩
           cases m with
           | zero=>simp at hy; subst hy; exact hs
           | succ m=>exact e5 m y (by omega) (by simpa using hy)
theorem b1M (hT:TabOk P T) {key:TypeId} {kd:TI} {k:Value} (hk:T.types.get key=some kd) (hf:a7V kd.und k=true) (empty:Bool) (n:Nat) (w:World):(Instr.checkKey empty (n+1) key k).run P w=.ok () w:=by
 unfold Instr.checkKey
 simp only [Sem.run_bind,a2f hT hk,Result.andThen_ok]
 cases hu:kd.und <;> cases k <;> first | rfl | (rw [hu] at hf; cases hf)
theorem a9I {x x':Value} {es:List (Value×Value)} {s1:S} (h:b2w x s=some (es,s1)) (S:Sim B0 w0 K s.h w) (r:VR K x' x) :
 s1.h=s.h∧s1.c=s.c∧((x'=.map none∧es=[])∨∃ b l es' clock,x=.map (some b)∧x'=.map (some l.blk)∧K b 0=some l∧l.own=true∧s.h.get b=some (.map es)∧w.heap[l.blk]?=some (.map es' clock)∧MR K es'.toList es):=by
 cases x with
 | map o=>
   cases o with
   | none=>
     obtain ⟨rfl,rfl⟩:=J8 h
     exact ⟨rfl,rfl,Or.inl ⟨r.eq_of_plain rfl,rfl⟩⟩
   | some b=>
     have h':M.bind (rd b) (fun o=>c1W o M.pure) s=some (es,s1):=h
     obtain ⟨ob,s2,h1,h2⟩:=O7 h'
     obtain ⟨q1,q2,q3,q4⟩:=b1o h1
     cases ob with
     | map es2=>
       obtain ⟨rfl,rfl⟩:=J8 h2
       obtain ⟨l,es',clock,r1,r2,r3,r4⟩:=S.map b _ q2
       refine ⟨q4,q3,Or.inr ⟨b,l,es',clock,rfl, ?_,r1,r2,q2,r3,r4⟩⟩
       generalize hv:Value.map (some b)=z at r
       cases r with
       | plain hp=>subst hv; simp [V.plain] at hp
       | map hk=>cases hv; rw [r1] at hk; cases hk; rfl
       | _=>cases hv
     | _=>exact absurd h2 (by intro q; cases q)
 | _=>exact absurd h (by intro q; cases q)
theorem a6T {r:Nat} {o:Obj} (h:w.heap[r]?=some o) (hn:∀ c e f,o≠.cells c e f):(getObj r).run P w=.ok o w:=by
 cases o with
 | cells c e f=>exact absurd rfl (hn c e f)
 | _=>simp only [getObj,Sem.run,h]
theorem c1T (hT:TabOk P T) {t key elem:TypeId} {d kd ed:TI} {X Y:Value} {ok:Bool} {es':Array MapEntry} {r':Option (Nat×Value)} (hd:T.types.get t=some d) (hu:d.und=.map key elem)
 (hk:T.types.get key=some kd) (he:T.types.get elem=some ed) (hfit:a7V kd.und Y=true)
 (hx:(X=.map none∧es'=#[])∨∃ r clock,X=.map (some r)∧w.heap[r]?=some (.map es' clock)) (hn:Instr.findNow kd.und Y es'.toList 0=some r') :
 (Instr.lookup t X Y ok).run P w=.ok (a9V ok (match r' with | some x=>x.2 | none=>ed.zero) r'.isSome) w:=by
 have hfk:(Instr.findKey key Y es'.toList).run P w=.ok r' w:=by
  unfold Instr.findKey
  simp only [Sem.run_bind,a2f hT hk,Result.andThen_ok,hn,Sem.run_pure]
 have hck:=b1M (P:=P) hT hk hfit es'.isEmpty 9999 w
 unfold Instr.lookup
 simp only [Sem.run_bind,a2f hT hd,hu,Result.andThen_ok]
 rcases hx with ⟨rfl,rfl⟩ | ⟨r,clock,rfl,hr⟩
 · simp only [Sem.run_bind,Sem.run_pure,Result.andThen_ok,hck,hfk]
   cases r' with
   | none=>simp only [Sem.run_bind,a9d hT he,Sem.run_pure,Result.andThen_ok]; cases ok <;> rfl
   | some x=>simp only []; cases ok <;> rfl
 · simp only [Sem.run_bind,a6T hr (by intro c e f q; cases q),Sem.run_pure,Result.andThen_ok,hck,hfk]
   cases r' with
   | none=>simp only [Sem.run_bind,a9d hT he,Sem.run_pure,Result.andThen_ok]; cases ok <;> rfl
   | some x=>simp only []; cases ok <;> rfl
theorem VR.withOk {z' z:Value} (ok b:Bool) (q:VR K z' z):VR K (a9V ok z' b) (a9V ok z b):=by
 cases ok with
 | true=>exact .tuple rfl (by
  intro i x' x e e'
  match i with
  | 0=>simp at e e'; subst e e'; exact q
  | 1=>simp at e e'; subst e e'; exact .plain rfl
  | i+2=>simp at e)
 | false=>exact q
theorem b1k {d:TypeDesc} {k:Value} (h:a7V d k=true):plain k=true:=by
 cases d <;> cases k <;> first | rfl | cases h
theorem c3C (hT:TabOk P T) {t:TypeId} {x y:Operand} {ok:Bool} (h:a9c T fr t x y ok s=some (v,s')) (S:Sim B0 w0 K s.h w) (hf:VRL K a.tmps.toList fr) (hg:GK T K) :
 a0x P B0 w0 K s' (do pure (Next.value (← Instr.lookup t (a.eval x) (a.eval y) ok))) w v:=by
 obtain ⟨vx,e1,h1⟩:=a2r h
 obtain ⟨vy,e2,h2⟩:=a2r h1
 obtain ⟨d,hd,h3⟩:=a1H h2
 generalize hu:d.und=u at h3
 cases u with
 | map key elem=>
   obtain ⟨kd,hk,h4⟩:=a1H h3
   obtain ⟨ed,he,h5⟩:=a1H h4
   obtain ⟨hfit,h6⟩:=U1 h5
   obtain ⟨es,s1,h7,h8⟩:=O7 h6
   obtain ⟨o,ho,h9⟩:=U2 h8
   have ey:a.eval y=vy:=(a0k hf hg e2).eq_of_plain (b1k hfit)
   obtain ⟨c1,c2,c3⟩:=a9I h7 S (a0k hf hg e1)
   obtain ⟨es',m1,m2⟩:∃ es':Array MapEntry,MR K es'.toList es∧((a.eval x=.map none∧es'=#[])∨∃ r clock,a.eval x=.map (some r)∧w.heap[r]?=some (.map es' clock)):=by
    rcases c3 with ⟨q1,rfl⟩ | ⟨b,l,es',clock,_,q2,q3,q4,q5,q6,q7⟩
    · exact ⟨#[],⟨rfl,fun i e' e q=>by simp at q⟩,Or.inl ⟨q1,rfl⟩⟩
    · exact ⟨es',q7,Or.inr ⟨_,clock,q2,q6⟩⟩
   obtain ⟨r',n1,n2⟩:=b2B (K:=K) hfit es es'.toList 0 o ho m1
   have hrun:=c1T (ok:=ok) (X:=a.eval x) (Y:=a.eval y) hT hd hu hk he (by rw [ey]; exact hfit) m2 (by rw [ey]; exact n1)
   cases o with
   | some z=>
     obtain ⟨rfl,rfl⟩:=J8 h9
     rcases n2 with ⟨q,_⟩ | ⟨j,z1,z1',q1,q2,q3,_⟩
     · cases q
     · cases q1
       subst q2
       exact a0x.quiet S c1 hrun (q3.withOk ok true)
   | none=>
     obtain ⟨hz,h10⟩:=U1 h9
     obtain ⟨rfl,rfl⟩:=J8 h10
     rcases n2 with ⟨_,q2,_⟩ | ⟨j,z1,z1',q1,_⟩
     · subst q2
       exact a0x.quiet S c1 hrun ((a2O (K:=K) _ _ hz).withOk ok false)
     · cases q1
 | _=>exact absurd h3 (by intro q; cases q)
end
end Go.V
end
section
namespace Go.V
open Go.RowKit (Below)
theorem b5y (k v:Value):∀ (es:List (Value×Value)),(∀ e∈es,a4F k e.1=some false)→b1z k v es=es ++ [(k,v)]
 | [],_=>rfl
 | e::es,h=>by
   have h1:=h e (List.mem_cons_self ..)
   show (match a4F k e.1 with | some true=>(k,v)::es | _=>e::b1z k v es)=_
   rw [h1,b5y k v es (fun x hx=>h x (List.mem_cons_of_mem _ hx))]
   rfl
theorem b3S (k v:Value):∀ (es:List (Value×Value)) (j:Nat),(∀ (m:Nat) e,m<j→es[m]?=some e→a4F k e.1=some false)→(∃ e,es[j]?=some e∧a4F k e.1=some true)→b1z k v es=es.set j (k,v)
 | [],j,_,⟨e,h,_⟩=>by simp at h
 | e::es, 0,_,⟨e',h,h2⟩=>by
   simp at h; subst h
   show (match a4F k e.1 with | some true=>(k,v)::es | _=>e::b1z k v es)=_
   rw [h2]; rfl
 | e::es,j+1,h,⟨e',h1,h2⟩=>by
   have h0:=h 0 e (by omega) rfl
   show (match a4F k e.1 with | some true=>(k,v)::es | _=>e::b1z k v es)=_
   rw [h0]
   show e::b1z k v es=_
   rw [b3S k v es j (fun m x hm hx=>h (m+1) x (by omega) (by simpa using hx)) ⟨e',by simpa using h1,h2⟩]
   rfl
theorem b8f {k x:Value} (h:a4F k x=some true):k=x∧∀ n,Instr.sameBits n x k=true:=by
 cases k with
 | int k1 n1=>
   cases x with
   | int k2 n2=>
     have h':(match decide (k1=k2) with | true=>some (decide (n1=n2)) | false=>none)=some true:=h
     by_cases hk:k1=k2
     · rw [decide_eq_true hk] at h'
       have:n1=n2:=by simpa using h'
       subst hk this
       exact ⟨rfl,fun n=>by cases n <;> simp [Instr.sameBits]⟩
     · rw [decide_eq_false hk] at h'; cases h'
   | _=>cases h
 | string s1=>
   cases x with
   | string s2=>
     have h':some (beqBytes s1.data.toList s2.data.toList)=some true:=h
     rw [a5k] at h'
     have:s1=s2:=by
      have:s1.data.toList=s2.data.toList:=by simpa using h'
      cases s1; cases s2; congr 1; exact Array.ext' this
     subst this
     refine ⟨rfl,fun n=>?_⟩
     have hb:(s1 == s1)=true:=by rw [b5b,a5k]; simp
     cases n <;> simp [Instr.sameBits,hb]
   | _=>cases h
 | bool b1=>
   cases x with
   | bool b2=>
     have h':some (b1 == b2)=some true:=h
     have:b1=b2:=by simpa using h'
     subst this
     exact ⟨rfl,fun n=>by cases n <;> simp [Instr.sameBits]⟩
   | _=>cases h
 | _=>cases h
section
variable {P:Program} {T:Tab} {B0:Nat} {w0:Base} {w:World} {K:KM} {s s':S} {a:Act} {fr:List Value} {v:Value}
theorem b0O {r:Nat} {o o':Obj} (h:w.heap[r]?=some o) (hn:∀ c e f,o≠.cells c e f):(setObj r o').run P w=.ok () { w with heap:=w.heap.setIfInBounds r o' }:=by
 cases o with
 | cells c e f=>exact absurd rfl (hn c e f)
 | _=>simp only [setObj,Sem.run,h]
theorem c2n (hT:TabOk P T) {t:TypeId} {m k x m' k' x':Value} {un:Unit} (h:b0M T t m k x s=some (un,s')) (S:Sim B0 w0 K s.h w) (rm:VR K m' m) (rk:VR K k' k) (rx:VR K x' x) :
 ∃ w',(Instr.mapUpdate t m' k' x').run P w=.ok () w'∧Sim B0 w0 K s'.h w'∧s'.c=s.c:=by
 obtain ⟨d,hd,h1⟩:=a1H h
 generalize hu:d.und=u at h1
 cases u with
 | map key elem=>
   cases m with
   | map o=>
     obtain ⟨r,rfl,h2⟩:=U2 h1
     obtain ⟨kd,hk,h3⟩:=a1H h2
     obtain ⟨hfit,h4⟩:=U1 h3
     obtain ⟨es,s1,h5,h6⟩:=O7 h4
     obtain ⟨fo,ho,h7⟩:=U2 h6
     rw [a2R] at h7
     have ek:k'=k:=rk.eq_of_plain (b1k hfit)
     subst ek
     obtain ⟨c1,c2,c3⟩:=a9I (x:=.map (some r)) h5 S rm
     rcases c3 with ⟨q1,_⟩ | ⟨b,l,es',clock,q0,q2,q3,q4,q5,q6,q7⟩
     · exfalso
       subst q1
       generalize hv:Value.map (some r)=z at rm
       cases rm with
       | plain hp=>cases hv
       | _=>cases hv
     · cases q0
       subst q2
       obtain ⟨w1,w2,w3⟩:=b3v h7
       obtain ⟨r',n1,n2⟩:=b2B (K:=K) hfit es es'.toList 0 fo ho q7
       have hfk:(Instr.findKey key k' es'.toList).run P w=.ok r' w:=by
        unfold Instr.findKey
        simp only [Sem.run_bind,a2f hT hk,Result.andThen_ok,n1,Sem.run_pure]
       have hck:=b1M (P:=P) hT hk hfit false 9999 w
       have hget:∀ j,s'.h.get j=if j=r then some (.map (b1z k' x es)) else s.h.get j:=by
        intro j; rw [w3 j,c1]
       rcases n2 with ⟨_,rfl,hall⟩ | ⟨j,z,z',_,rfl,hz,hj,hbefore,e,he,hsame⟩
       · refine ⟨{ w with heap:=w.heap.setIfInBounds l.blk (.map (es'.push { key:=k',val:=x',born:=clock }) (clock+1)) }, ?_, ?_,by rw [w2,c2]⟩
         · unfold Instr.mapUpdate
           simp only [Sem.run_bind,a2f hT hd,hu,Result.andThen_ok,a6T q6 (by intro c e f q; cases q),hck,hfk,b0O q6 (by intro c e f q; cases q)]
         · refine b0Q S q3 q4 q5 (by intro _ _ _ q; cases q) (by intro _ _ _ q; cases q) hget rfl (fun es2 q=>?_) (fun x pos q=>by cases q)
           cases q
           refine ⟨_,_,rfl, ?_⟩
           rw [b5y k' x es hall]
           refine ⟨by simp [q7.len],fun i e' e p1 p2=>?_⟩
           have hlen:es'.toList.length=es.length:=q7.len
           simp only [Array.toList_push] at p1
           by_cases hi:i<es.length
           · rw [List.getElem?_append_left (by rw [hlen]; exact hi)] at p1
             rw [List.getElem?_append_left hi] at p2
             exact q7.key i e' e p1 p2
           · rw [List.getElem?_append_right (by rw [hlen]; omega),hlen] at p1
             rw [List.getElem?_append_right (by omega)] at p2
             cases hi2:i - es.length with
             | zero=>rw [hi2] at p1 p2; cases p1; cases p2; exact ⟨rfl,rx⟩
             | succ n=>rw [hi2] at p1; simp at p1
       · obtain ⟨hkeq,hbits⟩:=b8f hsame
         have hlen:es'.toList.length=es.length:=q7.len
         have hj':j<es'.size:=by rw [← Array.length_toList,hlen]; exact hj
         obtain ⟨e0,he0⟩:∃ e0,es'.toList[j]?=some e0:=⟨es'.toList[j]'(by simpa using hj'),List.getElem?_eq_getElem (by simpa using hj')⟩
         have hek:=(q7.key j e0 e he0 he).1
         refine ⟨{ w with heap:=w.heap.setIfInBounds l.blk (.map (es'.modify j fun e=>{ e with key:=k',val:=x' }) clock) }, ?_, ?_,by rw [w2,c2]⟩
         · unfold Instr.mapUpdate
           rw [Nat.zero_add] at hfk
           have hstay:(Instr.keyThatStays (((es'[j]?).map (·.key)).getD k') k').run P w=.ok k' w:=by
            have:es'[j]?=some e0:=by simpa using he0
            rw [this]
            show (Instr.keyThatStays e0.key k').run P w=_
            unfold Instr.keyThatStays
            rw [hek,if_pos (hbits 10000)]
            rfl
           simp only [Sem.run_bind,a2f hT hd,hu,Result.andThen_ok,a6T q6 (by intro c e f q; cases q),hck,hfk,hstay,b0O q6 (by intro c e f q; cases q)]
         · refine b0Q S q3 q4 q5 (by intro _ _ _ q; cases q) (by intro _ _ _ q; cases q) hget rfl (fun es2 q=>?_) (fun x pos q=>by cases q)
           cases q
           refine ⟨_,_,rfl, ?_⟩
           rw [b3S k' x es j hbefore ⟨e,he,hsame⟩]
           refine ⟨by simp [hlen],fun i e' e2 p1 p2=>?_⟩
           have p1':(es'.modify j fun e=>{ e with key:=k',val:=x' })[i]?=some e':=by rw [← Array.getElem?_toList]; exact p1
           rw [Array.getElem?_modify] at p1'
           rw [List.getElem?_set] at p2
           by_cases hij:j=i
           · subst hij
             rw [if_pos rfl] at p1' p2
             rw [if_pos hj] at p2
             cases p2
             have:es'[j]?=some e0:=by simpa using he0
             rw [this] at p1'
             cases p1'
             exact ⟨rfl,rx⟩
           · rw [if_neg hij] at p1' p2
             exact q7.key i e' e2 (by simpa using p1') p2
   | _=>exact absurd h1 (by intro q; cases q)
 | _=>exact absurd h1 (by intro q; cases q)
theorem b5H (hT:TabOk P T) {t:TypeId} {m k x:Operand} (h:a5X T fr t m k x s=some (v,s')) (S:Sim B0 w0 K s.h w) (hf:VRL K a.tmps.toList fr) (hg:GK T K) :
 a0x P B0 w0 K s' (do Instr.mapUpdate t (a.eval m) (a.eval k) (a.eval x); pure Next.skip) w v:=by
 obtain ⟨vm,e1,h1⟩:=a2r h
 obtain ⟨vk,e2,h2⟩:=a2r h1
 obtain ⟨vx,e3,h3⟩:=a2r h2
 obtain ⟨un,s1,h4,h5⟩:=O7 h3
 obtain ⟨rfl,rfl⟩:=J8 h5
 obtain ⟨w',r1,r2,r3⟩:=c2n (P:=P) hT h4 S (a0k hf hg e1) (a0k hf hg e2) (a0k hf hg e3)
 exact ⟨.skip,w',K,by simp [r1],⟨KM.le_refl K,fun _ _ _=>rfl,r2⟩,Or.inr ⟨rfl,rfl⟩⟩
theorem b4O {o:VObj} {b:Nat} {s1:S} {ob:Obj} (h:new o s=some (b,s1)) (S:Sim B0 w0 K s.h w) (F:a2C K s s1) (hn:∀ cs cur ro,o≠.cells cs cur ro)
 (hmap:∀ es,o=.map es→∃ es' clock,ob=.map es' clock∧MR K es'.toList es) (hiter:∀ x pos,o=.siter x pos→ob=.stringIter x pos) :
 ∃ K',Step B0 w0 K s1 (w.alloc ob) K'∧K' s.c 0=some ⟨w.heap.size, 0, 0, 0,true⟩∧b=s.c:=by
 rw [b1B] at h
 cases h
 have hK:∀ g,K s.c g=none:=S.none (F s.c (Nat.le_refl _) (by show s.c<s.c+1; omega))
 have hblk:(w.alloc ob).heap[w.heap.size]?=some ob:=by show (w.heap.push _)[w.heap.size]?=_; simp
 refine ⟨K.put s.c 0 ⟨w.heap.size, 0, 0, 0,true⟩,⟨KM.le_put K _ (hK 0),fun i g hi=>KM.put_other K _ (fun q=>by have hi:s.c+1≤i:=hi; omega), ?_⟩,KM.put_same _ _ _ _,rfl⟩
 refine b4R (o:=o) (a6E S (Grew.alloc _ _)) hK (fun j=>Trie.get_put _ _ _ _ (Nat.lt_succ_self _) j) (by show w.heap.size<(w.heap.push _).size; simp) S.base rfl
  (fun b g l q=>by have:=S.dom b g l q; show l.blk≠w.heap.size; omega) (fun cs cur ro q=>absurd q (hn _ _ _)) (fun es q=>?_) (fun x pos q=>⟨rfl,rfl, ?_⟩)
 · obtain ⟨es',clock,rfl,r⟩:=hmap es q
   exact ⟨es',clock,hblk,r⟩
 · rw [← hiter x pos q]; exact hblk
theorem d1b (hT:TabOk P T) {t:TypeId} {r:Option Operand} (h:b4r T fr t r s=some (v,s')) (S:Sim B0 w0 K s.h w) (F:a2C K s s') (hf:VRL K a.tmps.toList fr) (hg:GK T K) :
 a0x P B0 w0 K s' (do pure (Next.value (← Instr.makeMap t (r.map a.eval)))) w v:=by
 have hmr:∀ es,VObj.map []=.map es→∃ es' clock,Obj.map #[] 0=.map es' clock∧MR K es'.toList es:=by
  intro es q; cases q; exact ⟨#[], 0,rfl,⟨rfl,fun i e' e q=>by simp at q⟩⟩
 cases r with
 | none=>
   have h':M.bind (new (.map [])) (fun b=>M.pure (.map (some b))) s=some (v,s'):=h
   obtain ⟨b,s1,h1,h2⟩:=O7 h'
   obtain ⟨rfl,rfl⟩:=J8 h2
   obtain ⟨K',k1,k2,rfl⟩:=b4O (ob:=.map #[] 0) h1 S F (by intro _ _ _ q; cases q) hmr (by intro _ _ q; cases q)
   refine a0x.step (v':=.map (some w.heap.size)) (w':=w.alloc (.map #[] 0)) ?_ k1 (VR.map k2)
   simp [Instr.makeMap]
 | some x=>
   have h':ev T fr x (fun v=>ti T t fun d=>M.guard (c3T d.und && c3A v) <| M.bind (new (.map [])) fun b=>M.pure (.map (some b))) s=some (v,s'):=h
   obtain ⟨vx,e1,h1⟩:=a2r h'
   obtain ⟨d,hd,h2⟩:=a1H h1
   obtain ⟨hgd,h3⟩:=U1 h2
   obtain ⟨b,s1,h4,h5⟩:=O7 h3
   obtain ⟨rfl,rfl⟩:=J8 h5
   simp only [Bool.and_eq_true] at hgd
   obtain ⟨K',k1,k2,rfl⟩:=b4O (ob:=.map #[] 0) h4 S F (by intro _ _ _ q; cases q) hmr (by intro _ _ q; cases q)
   refine a0x.step (v':=.map (some w.heap.size)) (w':=w.alloc (.map #[] 0)) ?_ k1 (VR.map k2)
   cases vx with
   | int kk n=>
     have ex:a.eval x=.int kk n:=(a0k hf hg e1).eq_of_plain rfl
     cases hu:d.und with
     | map k1 k2=>simp [Instr.makeMap,ex,a2f hT hd,hu,asInt,asIntOf]
     | _=>rw [hu] at hgd; cases hgd.1
   | _=>cases hgd.2
theorem c4U (hT:TabOk P T) {t:TypeId} {x:Operand} (h:a9R T fr t x s=some (v,s')) (S:Sim B0 w0 K s.h w) (F:a2C K s s') (hf:VRL K a.tmps.toList fr) (hg:GK T K) :
 a0x P B0 w0 K s' (do pure (Next.value (← Instr.range t (a.eval x)))) w v:=by
 obtain ⟨vx,e1,h1⟩:=a2r h
 obtain ⟨d,hd,h2⟩:=a1H h1
 generalize hu:d.und=u at h2
 cases u with
 | string=>
   cases vx with
   | string b=>
     obtain ⟨n,s1,h3,h4⟩:=O7 h2
     obtain ⟨rfl,rfl⟩:=J8 h4
     have ex:a.eval x=.string b:=(a0k hf hg e1).eq_of_plain rfl
     obtain ⟨K',k1,k2,rfl⟩:=b4O (ob:=.stringIter b 0) h3 S F (by intro _ _ _ q; cases q) (by intro _ q; cases q) (by intro _ _ q; cases q; rfl)
     refine a0x.step (v':=.pointer (some ⟨w.heap.size, 0,none⟩)) (w':=w.alloc (.stringIter b 0)) ?_ k1 (VR.ptr (off:=0) k2 (Nat.zero_le _))
     simp [Instr.range,a2f hT hd,hu,ex]
   | _=>exact absurd h2 (by intro q; cases q)
 | _=>exact absurd h2 (by intro q; cases q)
theorem c9l {x:Operand} {str:Bool} {ty:TypeId} (h:b1I T fr x str s=some (v,s')) (S:Sim B0 w0 K s.h w) (hf:VRL K a.tmps.toList fr) (hg:GK T K) :
 a0x P B0 w0 K s' (do pure (Next.value (← Instr.next (a.eval x) str ty))) w v:=by
 obtain ⟨rfl,h1⟩:=U1 h
 obtain ⟨vx,e1,h2⟩:=a2r h1
 obtain ⟨ad,rfl,h3⟩:=a6N h2
 obtain ⟨h0,h4⟩:=U1 h3
 obtain ⟨o,s1,h5,h6⟩:=O7 h4
 obtain ⟨q1,q2,q3,q4⟩:=b1o h5
 simp only [Bool.and_eq_true] at h0
 have h00:=Nat.eq_of_beq_eq_true h0.1
 cases o with
 | siter b pos=>
   obtain ⟨l,r1,r2,r3,r4,r5⟩:=S.siter _ b pos q2
   obtain ⟨ad',e2,r⟩:=a8w (a0k hf hg e1)
   obtain ⟨g,l',f1,f2,f3,rfl⟩:=a7U r
   have hg0:g=0:=by
    have:=h0.2; rw [f1] at this; exact Nat.eq_of_beq_eq_true this
   subst hg0
   rw [r1] at f2; cases f2
   have ead:(⟨l.blk,l.at_+(ad.off - l.lo),none⟩:Addr)=⟨l.blk, 0,none⟩:=by rw [r3,r4,h00]
   rw [ead] at e2
   have h6':b3B ad.block b pos s1=some (v,s'):=h6
   unfold b3B at h6'
   have hsz:L9 b.data.toList=b.size:=by rw [Z5]; rfl
   rw [hsz] at h6'
   cases hlt:Nat.blt pos b.size with
   | true=>
     rw [hlt] at h6'
     simp only [a5m] at h6'
     obtain ⟨un,s2,h7,h8⟩:=O7 h6'
     obtain ⟨rfl,rfl⟩:=J8 h8
     obtain ⟨_,w2,w3⟩:=b3v h7
     have hlt':pos<b.size:=by simpa [Nat.blt_eq] using hlt
     refine a0x.step (v':=.tuple #[.bool true,goInt pos,.int .i32 (Utf8.decode b pos).1]) (w':={ w with heap:=w.heap.setIfInBounds l.blk (.stringIter b (pos+(Utf8.decode b pos).2)) }) (K':=K) ?_ ⟨KM.le_refl K,fun _ _ _=>rfl, ?_⟩ (a2O 3 _ rfl)
     · rw [e2]
       unfold Instr.next
       simp only [Sem.run_bind,a6T r5 (by intro c e f q; cases q),Result.andThen_ok,hlt',if_true,b0O r5 (by intro c e f q; cases q),Sem.run_pure]
     · refine b0Q (o:=.siter b pos) (o':=.siter b (pos+(Utf8.decode b pos).2)) S r1 r2 q2 (by intro _ _ _ q; cases q) (by intro _ _ _ q; cases q) (fun j=>by rw [w3 j,q4]) rfl (fun es q=>by cases q) (fun x p q=>by cases q; exact ⟨r3,r4,rfl⟩)
   | false=>
     rw [hlt] at h6'
     obtain ⟨rfl,rfl⟩:=J8 h6'
     have hlt':¬ pos<b.size:=by
      intro q; have:Nat.blt pos b.size=true:=by simpa [Nat.blt_eq] using q
      rw [this] at hlt; cases hlt
     refine a0x.quiet S q4 (v':=.tuple #[.bool false]) ?_ (a2O 3 _ rfl)
     rw [e2]
     unfold Instr.next
     simp only [Sem.run_bind,a6T r5 (by intro c e f q; cases q),Result.andThen_ok,hlt',if_false,Sem.run_pure]
 | _=>exact absurd h6 (by intro q; cases q)
end
end Go.V
end
