import Derived.Laws.AppendOwn
import Derived.Laws.Tables
import Derived.Great.BuildSlice
import Derived.Test.YtmomonnlmbljoaaGreatDoorRac
section
namespace Go.V
open Go.RowKit (Below)
theorem d0L {B0:Nat} {w0:Base} {K:KM} {h h':Trie VObj} {w:World} (S:Sim B0 w0 K h w) {b n cur:Nat} {cs:List (Value×Nat)} {ro:Bool}
 (ho:h.get b=some (.cells cs cur ro)) (hh:∀ j,h'.get j=if j=b then some (.cells (cs.take n) cur ro) else h.get j):Sim B0 w0 K h' w:=by
 have hb:h'.get b=some (.cells (cs.take n) cur ro):=by rw [hh,if_pos rfl]
 have hn:∀ j,j≠b→h'.get j=h.get j:=fun j hj=>by rw [hh,if_neg hj]
 refine ⟨S.size0,S.below,S.dom',fun b2 g2 l2 q=>by by_cases hx:b2=b; exact ⟨_,by rw [hx]; exact hb⟩; rw [hn b2 hx]; exact S.dom2 b2 g2 l2 q,S.own,S.apart,S.same, ?_, ?_, ?_, ?_, ?_,(fun b2 g2 l2 q hnc=>by
  by_cases hx:b2=b
  · exact absurd (by rw [hx]; exact hb) (hnc _ _ _)
  · exact S.gen0 b2 g2 l2 q (fun cs cur ro e=>hnc cs cur ro (by rw [hn b2 hx]; exact e)))⟩
 · intro b2 g l cs2 cur2 ro2 q1 q2 q3
   by_cases hb2:b2=b
   · subst hb2; exact S.room b2 g l cs cur ro q1 q2 ho
   · rw [hn b2 hb2] at q3; exact S.room b2 g l cs2 cur2 ro2 q1 q2 q3
 · intro b2 cs2 cur2 ro2 q
   by_cases hb2:b2=b
   · subst hb2
     rw [hb] at q; cases q
     obtain ⟨r1,r2,r3⟩:=S.gens b2 cs cur ro ho
     exact ⟨r1,r2,fun c hc=>r3 c (List.mem_of_mem_take hc)⟩
   · rw [hn b2 hb2] at q; exact S.gens b2 cs2 cur2 ro2 q
 · intro b2 cs2 cur2 ro2 g l q1 q2 off v st q3 q4 q5
   by_cases hb2:b2=b
   · subst hb2
     rw [hb] at q1; cases q1
     rw [List.getElem?_take] at q3
     split at q3
     · exact S.cells b2 cs cur ro g l ho q2 off v st q3 q4 q5
     · cases q3
   · rw [hn b2 hb2] at q1; exact S.cells b2 cs2 cur2 ro2 g l q1 q2 off v st q3 q4 q5
 · intro b2 es q
   have hb2:b2≠b:=fun e=>by rw [e,hb] at q; cases q
   rw [hn b2 hb2] at q; exact S.map b2 es q
 · intro b2 x pos q
   have hb2:b2≠b:=fun e=>by rw [e,hb] at q; cases q
   rw [hn b2 hb2] at q; exact S.siter b2 x pos q
theorem c5q {B0:Nat} {w0:Base} {K:KM} {h:Trie VObj} {w w':World} (S:Sim B0 w0 K h w) {b g cur o:Nat} {l:Loc} {cs:List (Value×Nat)} {vs':List Value}
 (ho:h.get b=some (.cells cs cur false)) (hk:K b g=some l) (hlo:l.lo≤cs.length) (hoo:o=l.at_+(cs.length - l.lo)) (u:Upd w w' l.blk o vs'):Sim B0 w0 K h w':=by
 obtain ⟨hg1,hg2,hg3⟩:=S.gens b cs cur false ho
 have hown:l.own=true:=(hg1 g l hk).2 rfl
 obtain ⟨c,e,fz,hc1,hc2,hc3⟩:=S.room b g l cs cur false hk hown ho
 refine ⟨S.size0,S.below.trans (u.below (S.own b g l hk hown)),fun b2 g2 l2 q=>by rw [u.size]; exact S.dom' b2 g2 l2 q,S.dom2,S.own,S.apart,S.same, ?_,S.gens, ?_, ?_, ?_,S.gen0⟩
 · intro b2 g2 l2 cs2 cur2 ro2 q1 q2 q3
   exact u.room (S.room b2 g2 l2 cs2 cur2 ro2 q1 q2 q3) hc1
 · intro b2 cs2 cur2 ro2 g2 l2 q1 q2 off v st q3 q4 q5
   obtain ⟨v',r1,r2⟩:=S.cells b2 cs2 cur2 ro2 g2 l2 q1 q2 off v st q3 q4 q5
   refine ⟨v', ?_,r2⟩
   rw [u.cell_other hc1 _ ?_]
   · exact r1
   · by_cases hb2:b2=b
     · subst hb2
       rw [ho] at q1; cases q1
       by_cases hbk:l2.blk=l.blk
       · right
         have e1:=(S.same b2 g l g2 l2 hk q2).2 hbk.symm
         have e2:off<cs.length:=(List.getElem?_eq_some_iff.1 q3).1
         dsimp only
         omega
       · exact Or.inl hbk
     · exact Or.inl (S.apart b g l b2 g2 l2 hk q2 (Ne.symm hb2) hown).symm
 · intro b2 es q
   have hb2:b2≠b:=fun e=>by rw [e,ho] at q; cases q
   obtain ⟨l2,es',clock,r1,r2,r3,r4⟩:=S.map b2 es q
   exact ⟨l2,es',clock,r1,r2,by rw [u.other _ (S.apart b g l b2 0 l2 hk r1 (Ne.symm hb2) hown).symm]; exact r3,r4⟩
 · intro b2 x pos q
   have hb2:b2≠b:=fun e=>by rw [e,ho] at q; cases q
   obtain ⟨l2,r1,r2,r3,r4,r5⟩:=S.siter b2 x pos q
   exact ⟨l2,r1,r2,r3,r4,by rw [u.other _ (S.apart b g l b2 0 l2 hk r1 (Ne.symm hb2) hown).symm]; exact r5⟩
theorem c0e {B0:Nat} {w0:Base} {K:KM} {h h':Trie VObj} {w:World} (S:Sim B0 w0 K h w) {b cur:Nat} {l:Loc} {cs:List (Value×Nat)} {vs:List Value}
 (ho:h.get b=some (.cells cs cur false)) (hh:∀ j,h'.get j=if j=b then some (.cells (cs ++ vs.map fun v=>(v,cur+1)) (cur+1) false) else h.get j)
 (hown:l.own=true) (hl:l.blk<w.heap.size) (hB:B0≤l.blk)
 (hsame:∀ g2 l2,K b g2=some l2→l2.blk=l.blk→l2.at_+l.lo=l.at_+l2.lo) (hapart:∀ b2 g2 l2,b2≠b→K b2 g2=some l2→l2.blk≠l.blk)
 (hroom:∃ a e fz,w.heap[l.blk]?=some (.cells a e fz)∧a.size=l.sz∧∀ o,o<l.sz→w.frozen? ⟨l.blk,o,none⟩=false)
 (hcl:∀ (off:Nat) v st,l.lo≤off→(cs ++ vs.map fun v=>(v,cur+1))[off]?=some (v,st)→∃ v',w.cell? ⟨l.blk,l.at_+(off - l.lo),none⟩=some v'∧VR K v' v) :
 Sim B0 w0 (K.put b (cur+1) l) h' w∧K.le (K.put b (cur+1) l):=by
 obtain ⟨hg1,hg2',hg3⟩:=S.gens b cs cur false ho
 obtain ⟨l0,hg2⟩:=hg2' cur (Nat.le_refl _)
 have hnone:K b (cur+1)=none:=by
  cases q:K b (cur+1) with
  | none=>rfl
  | some l1=>have:=(hg1 _ l1 q).1; omega
 have hle:K.le (K.put b (cur+1) l):=KM.le_put K l hnone
 have hb:h'.get b=some (.cells (cs ++ vs.map fun v=>(v,cur+1)) (cur+1) false):=by rw [hh,if_pos rfl]
 have hn:∀ j,j≠b→h'.get j=h.get j:=fun j hj=>by rw [hh,if_neg hj]
 refine ⟨⟨S.size0,S.below, ?_, ?_, ?_, ?_, ?_, ?_, ?_, ?_, ?_, ?_,fun b2 g2 l2 q hnc=>by
  by_cases hx:b2=b
  · exact absurd (by rw [hx]; exact hb) (hnc _ _ _)
  · rcases KM.put_inv q with ⟨e1,_,_⟩ | p1
    · exact absurd e1 hx
    · exact S.gen0 b2 g2 l2 p1 (fun cs cur ro e=>hnc cs cur ro (by rw [hn b2 hx]; exact e))⟩,hle⟩
 · intro b2 g l' q
   rcases KM.put_inv q with ⟨_,_,e⟩ | q
   · rw [e]; exact ⟨hl,S.size0.2 _ hB⟩
   · exact S.dom' b2 g l' q
 · intro b2 g l' q
   by_cases hx:b2=b
   · exact ⟨_,by rw [hx]; exact hb⟩
   · rw [hn b2 hx]
     rcases KM.put_inv q with ⟨e,_,_⟩ | q
     · exact absurd e hx
     · exact S.dom2 b2 g l' q
 · intro b2 g l' q q2
   rcases KM.put_inv q with ⟨_,_,e⟩ | q
   · rw [e]; exact hB
   · exact S.own b2 g l' q q2
 · intro b1 g1 l1 b2 g2 l2 q1 q2 hne hx
   rcases KM.put_inv q1 with ⟨e1,_,e2⟩ | p1 <;> rcases KM.put_inv q2 with ⟨e3,_,e4⟩ | p2
   · exact absurd (e1.trans e3.symm) hne
   · rw [e2]; exact (hapart b2 g2 l2 (fun e=>hne (e1.trans e.symm)) p2).symm
   · rw [e4]; exact hapart b1 g1 l1 (fun e=>hne (e.trans e3.symm)) p1
   · exact S.apart b1 g1 l1 b2 g2 l2 p1 p2 hne hx
 · intro b1 g1 l1 g2 l2 q1 q2
   rcases KM.put_inv q1 with ⟨e1,_,e2⟩ | p1 <;> rcases KM.put_inv q2 with ⟨e3,_,e4⟩ | p2
   · rw [e2,e4]; exact ⟨rfl,fun _=>rfl⟩
   · rw [e1] at p2
     rw [e2]
     exact ⟨by rw [hown,(hg1 _ _ p2).2 rfl],fun q=>(hsame _ _ p2 q.symm).symm⟩
   · rw [e3] at p1
     rw [e4]
     exact ⟨by rw [hown,(hg1 _ _ p1).2 rfl],fun q=>hsame _ _ p1 q⟩
   · exact S.same b1 g1 l1 g2 l2 p1 p2
 · intro b2 g l1 cs2 cur2 ro2 q1 q2 q3
   by_cases hb2:b2=b
   · subst hb2
     rcases KM.put_inv q1 with ⟨_,_,e2⟩ | p1
     · rw [e2]; exact hroom
     · exact S.room b2 g l1 cs cur false p1 q2 ho
   · rcases KM.put_inv q1 with ⟨e1,_,_⟩ | p1
     · exact absurd e1 hb2
     · rw [hn b2 hb2] at q3; exact S.room b2 g l1 cs2 cur2 ro2 p1 q2 q3
 · intro b2 cs2 cur2 ro2 q
   by_cases hb2:b2=b
   · subst hb2
     rw [hb] at q; cases q
     refine ⟨fun g l1 q1=>?_,fun g hg=>(Nat.lt_or_eq_of_le hg).elim (fun h=>let ⟨l1,r⟩:=hg2' g (by omega); ⟨l1,hle _ _ _ r⟩) (fun h=>⟨l,by rw [h]; exact KM.put_same _ _ _ _⟩),fun c hc=>?_⟩
     · rcases KM.put_inv q1 with ⟨_,e,e2⟩ | p1
       · rw [e,e2]; exact ⟨Nat.le_refl _,fun _=>hown⟩
       · exact ⟨Nat.le_succ_of_le (hg1 g l1 p1).1,(hg1 g l1 p1).2⟩
     · rcases List.mem_append.1 hc with hc | hc
       · exact Nat.le_succ_of_le (hg3 c hc)
       · obtain ⟨v,_,rfl⟩:=List.mem_map.1 hc; exact Nat.le_refl _
   · rw [hn b2 hb2] at q
     obtain ⟨r1,r2,r3⟩:=S.gens b2 cs2 cur2 ro2 q
     refine ⟨fun g l1 q1=>?_,fun g hg=>let ⟨l1,r⟩:=r2 g hg; ⟨l1,hle _ _ _ r⟩,r3⟩
     rcases KM.put_inv q1 with ⟨e1,_,_⟩ | p1
     · exact absurd e1 hb2
     · exact r1 g l1 p1
 · intro b2 cs2 cur2 ro2 g l1 q1 q2 off v st q3 q4 q5
   by_cases hb2:b2=b
   · subst hb2
     rw [hb] at q1; cases q1
     rcases KM.put_inv q2 with ⟨_,e,e2⟩ | p2
     · subst e2
       obtain ⟨v',r1,r2⟩:=hcl off v st q5 q3
       exact ⟨v',r1,r2.mono hle⟩
     · have hg:=(hg1 g l1 p2).1
       have hlt:off<cs.length:=by
        rcases Nat.lt_or_ge off cs.length with h1 | h1
        · exact h1
        · rw [List.getElem?_append_right h1,List.getElem?_map] at q3
          cases hv:vs[off - cs.length]? with
          | none=>rw [hv] at q3; cases q3
          | some y=>rw [hv] at q3; cases q3; omega
       rw [List.getElem?_append_left hlt] at q3
       obtain ⟨v',r1,r2⟩:=S.cells b2 cs cur false g l1 ho p2 off v st q3 q4 q5
       exact ⟨v',r1,r2.mono hle⟩
   · rcases KM.put_inv q2 with ⟨e1,_,_⟩ | p2
     · exact absurd e1 hb2
     · rw [hn b2 hb2] at q1
       obtain ⟨v',r1,r2⟩:=S.cells b2 cs2 cur2 ro2 g l1 q1 p2 off v st q3 q4 q5
       exact ⟨v',r1,r2.mono hle⟩
 · intro b2 es q
   have hb2:b2≠b:=fun e=>by rw [e,hb] at q; cases q
   rw [hn b2 hb2] at q
   obtain ⟨l1,es',clock,r1,r2,r3,r4⟩:=S.map b2 es q
   exact ⟨l1,es',clock,hle _ _ _ r1,r2,r3,r4.mono hle⟩
 · intro b2 x pos q
   have hb2:b2≠b:=fun e=>by rw [e,hb] at q; cases q
   rw [hn b2 hb2] at q
   obtain ⟨l1,r1,r2,r3,r4,r5⟩:=S.siter b2 x pos q
   exact ⟨l1,hle _ _ _ r1,r2,r3,r4,r5⟩
theorem b8v {e:TI} {a:Addr} {len m:Nat} {vs:List Value} {s s':S} {v:Value} (h:appendAt e a len vs m s=some (v,s')) :
 ∃ g cs cur olds,a.spot=some g∧s.h.get a.block=some (.cells cs cur false)∧a.off+len * e.size≤cs.length∧X0 g (cs.drop a.off) (len * e.size)=some olds ∧
   s'.c=s.c∧(∀ j,s'.h.get j=if j=a.block then some (.cells (cs.take (a.off+len * e.size) ++ vs.map fun v=>(v,cur+1)) (cur+1) false) else s.h.get j) ∧
   v=.slice (some ⟨a.block,a.off,some (cur+1)⟩) (len+m) e.size:=by
 unfold appendAt at h
 cases hg:a.spot with
 | none=>rw [hg] at h; cases h
 | some g=>
   rw [hg] at h
   simp only [M.obind,M.bind,rd] at h
   cases hb:Nat.blt a.block s.c with
   | false=>rw [hb] at h; cases h
   | true=>
     rw [hb] at h
     cases ho:s.h.get a.block with
     | none=>rw [ho] at h; cases h
     | some o=>
       rw [ho] at h
       cases o with
       | cells cs cur ro=>
         simp only [a1d,a2B,a2D,Q6,I5,J2] at h
         cases ro with
         | true=>cases h
         | false=>
           simp only [Bool.not_false,M.guard] at h
           cases hgd:Nat.ble (a.off+len * e.size) cs.length with
           | false=>rw [hgd] at h; cases h
           | true=>
             rw [hgd] at h
             cases ht:X0 g (cs.drop a.off) (len * e.size) with
             | none=>rw [ht] at h; cases h
             | some olds=>
               rw [ht] at h
               simp only [U3] at h
               obtain ⟨u,s1,hx,h⟩:=w9 h
               obtain ⟨_,w2,w3⟩:=a5z hx
               cases h
               exact ⟨g,cs,cur,olds,rfl,rfl,Nat.le_of_ble_eq_true hgd,ht,w2,w3,rfl⟩
       | map es=>cases h
       | siter x y=>cases h
end Go.V
end
section
namespace Go.V
open Go.RowKit (Below)
theorem a5r {n:Nat} (h:(!(Nat.beq n 0))=true):n≠0:=by
 intro e; subst e; cases h
structure TabOk (P:Program) (T:Tab):Prop where
 types:∀ t i,T.types.get t=some i→∃ info,P.info? t=some info∧P.underlying t=some i.und∧info.size=i.size∧info.bytes=i.bytes∧info.zero=some i.zero∧i.zero.cells.size=i.size
 funcs:∀ f fn,T.funcs.get f=some fn→P.funcs[f]?=some fn∧(fn.name == "runtime.NumGoroutine")=false
def GK (T:Tab) (K:KM):Prop:=∀ g,g<T.ng→∃ l,K g 0=some l∧l.blk=g∧l.lo=0∧l.at_=0
theorem GK.mono {T:Tab} {K K':KM} (h:GK T K) (hle:K.le K'):GK T K':=fun g hg=>let ⟨l,e,r⟩:=h g hg; ⟨l,hle _ _ _ e,r⟩
theorem L8 {K:KM}:∀ (n:Nat) (v:Value),G8 n v=true→VR K v v:=by
 intro n
 induction n with
 | zero=>intro v h; cases h
 | succ n ih=>
   intro v h
   cases v with
   | agg cs=>
     have h':L6 (G8 n) cs.toList=true:=h
     rw [K9] at h'
     exact .agg rfl fun i v' v e e'=>by rw [e] at e'; cases e'; exact ih _ (h' _ (List.mem_of_getElem? e))
   | tuple cs=>
     have h':L6 (G8 n) cs.toList=true:=h
     rw [K9] at h'
     exact .tuple rfl fun i v' v e e'=>by rw [e] at e'; cases e'; exact ih _ (h' _ (List.mem_of_getElem? e))
   | iface t v=>exact .iface (ih v h)
   | func fn a b=>cases h
   | _=>exact .plain h
theorem VR.eq_of_plain {K:KM} {v' v:Value} (r:VR K v' v) (h:V.plain v=true):v'=v:=by
 cases r with
 | plain _=>rfl
 | ptr _ _=>simp [V.plain] at h
 | slice _ _ _ _ _ _=>simp [V.plain] at h
 | map _=>simp [V.plain] at h
 | _=>simp [V.plain] at h
theorem VR.eq_of_noAddr {K:KM} {v' v:Value} (r:VR K v' v):∀ n,G8 n v=true→v'=v:=by
 induction r with
 | plain _=>intro n h; rfl
 | ptr _ _=>intro n h; cases n <;> simp [G8,V.plain] at h
 | slice _ _ _ _ _ _=>intro n h; cases n <;> simp [G8,V.plain] at h
 | map _=>intro n h; cases n <;> simp [G8,V.plain] at h
 | @agg cs' cs hl _ ih=>
   intro n h
   cases n with
   | zero=>cases h
   | succ n=>
     have h':L6 (G8 n) cs.toList=true:=h
     rw [K9] at h'
     congr 1
     apply Array.ext'
     apply List.ext_getElem?
     intro i
     by_cases hi:i<cs.toList.length
     · have hi':i<cs'.toList.length:=by rw [hl]; exact hi
       rw [List.getElem?_eq_getElem hi,List.getElem?_eq_getElem hi']
       rw [ih i _ _ (List.getElem?_eq_getElem hi') (List.getElem?_eq_getElem hi) n (h' _ (List.getElem_mem hi))]
     · rw [List.getElem?_eq_none (by omega),List.getElem?_eq_none (by omega)]
 | @tuple cs' cs hl _ ih=>
   intro n h
   cases n with
   | zero=>cases h
   | succ n=>
     have h':L6 (G8 n) cs.toList=true:=h
     rw [K9] at h'
     congr 1
     apply Array.ext'
     apply List.ext_getElem?
     intro i
     by_cases hi:i<cs.toList.length
     · have hi':i<cs'.toList.length:=by rw [hl]; exact hi
       rw [List.getElem?_eq_getElem hi,List.getElem?_eq_getElem hi']
       rw [ih i _ _ (List.getElem?_eq_getElem hi') (List.getElem?_eq_getElem hi) n (h' _ (List.getElem_mem hi))]
     · rw [List.getElem?_eq_none (by omega),List.getElem?_eq_none (by omega)]
 | func _ _ _ _ _ _=>intro n h; cases n <;> cases h
 | iface _ ih=>intro n h; cases n with
   | zero=>cases h
   | succ n=>rw [ih n h]
theorem F5 {T:Tab} {K:KM} {a:Act} {fr:List Value} (hf:VRL K a.tmps.toList fr) (hg:GK T K) {x:Operand} {v:Value} (h:J8 T fr x=some v):VR K (a.eval x) v:=by
 cases x with
 | tmp t=>
   cases h
   have:=hf.lget t
   rw [U0 a.tmps.toList] at this
   simpa [Act.eval,Array.getD_eq_getD_getElem?] using this
 | const c=>
   have h':(match G8 3 c with | true=>some c | false=>none)=some v:=h
   split at h'
   · rename_i hn; cases h'; exact L8 _ _ hn
   · cases h'
 | global g=>
   have h':(match Nat.blt g T.ng with | true=>some (Value.pointer (some ⟨g, 0,some 0⟩)) | false=>none)=some v:=h
   split at h'
   · rename_i hn
     cases h'
     obtain ⟨l,e1,e2,e3,e4⟩:=hg g (by simpa [Nat.blt_eq] using hn)
     have:=VR.ptr (off:=0) e1 (by omega)
     rw [e2,e3,e4] at this
     exact this
   · cases h'
 | func f=>cases h; exact .func rfl (fun i v' v e=>by simp at e) rfl (fun i v' v e=>by simp at e)
theorem a0e {T:Tab} {K:KM} {a:Act} {fr:List Value} (hf:VRL K a.tmps.toList fr) (hg:GK T K):∀ {xs:List Operand} {vs:List Value},M0 T fr xs=some vs→VRL K (xs.map a.eval) vs:=by
 intro xs
 induction xs with
 | nil=>intro vs h; cases h; exact VRL.nil K
 | cons x xs ih=>
   intro vs h
   have h':(match J8 T fr x with | none=>none | some v=>(match M0 T fr xs with | none=>none | some vs=>some (v::vs)))=some vs:=h
   split at h'
   · cases h'
   · rename_i v hv
     split at h'
     · cases h'
     · rename_i vs1 hvs; cases h'; exact VRL.cons (F5 hf hg hv) (ih hvs)
def F9 (P:Program) (B0:Nat) (w0:Base) (K:KM) (s':S) (x:Sem Next) (w:World) (v:Value):Prop:=
 ∃ n w' K',x.run P w=.ok n w'∧Step B0 w0 K s' w' K'∧((∃ v',n=.value v'∧VR K' v' v)∨(n=.skip∧v=undef))
section
variable {P:Program} {T:Tab} {B0:Nat} {w0:Base} {w:World} {K:KM} {s s':S} {a:Act} {fr:List Value} {v:Value}
theorem Step.same {s1:S} (S:Sim B0 w0 K s.h w) (h:s1.h=s.h):Step B0 w0 K s1 w K:=⟨KM.le_refl K,fun _ _ _=>rfl,by rw [h]; exact S⟩
theorem F9.quiet {x:Sem Value} {v':Value} (S:Sim B0 w0 K s.h w) (hs:s'.h=s.h) (hx:x.run P w=.ok v' w) (r:VR K v' v) :
 F9 P B0 w0 K s' (do pure (Next.value (← x))) w v:=
 ⟨.value v',w,K,by simp [hx],Step.same S hs,Or.inl ⟨v',rfl,r⟩⟩
theorem F9.step {x:Sem Value} {v':Value} {w':World} {K':KM} (hx:x.run P w=.ok v' w') (st:Step B0 w0 K s' w' K') (r:VR K' v' v) :
 F9 P B0 w0 K s' (do pure (Next.value (← x))) w v:=
 ⟨.value v',w',K',by simp [hx],st,Or.inl ⟨v',rfl,r⟩⟩
theorem a0p {α:Type} {x:Sem α} {y:α} (h:a0H P x=some y) (w:World):x.run P w=.ok y w:=by
 induction x with
 | pure a=>cases h; rfl
 | program k ih=>exact ih P h
 | mark m k ih=>exact ih h
 | _=>cases h
theorem K3 {x:Operand} {k:Value→M Value} (h:ev T fr x k s=some (v,s')):∃ u,J8 T fr x=some u∧k u s=some (v,s'):=C9 h
theorem a0h {xs:List Operand} {k:List Value→M Value} (h:evs T fr xs k s=some (v,s')):∃ us,M0 T fr xs=some us∧k us s=some (v,s'):=C9 h
theorem I8 {α:Type} {t:TypeId} {k:TI→M α} {u:α} (h:ti T t k s=some (u,s')):∃ i,T.types.get t=some i∧k i s=some (u,s'):=C9 h
theorem a0f {α:Type} {x:Value} {k:Addr→M α} {u:α} (h:K5 x k s=some (u,s')):∃ ad,x=.pointer (some ad)∧k ad s=some (u,s'):=by
 cases x with
 | pointer o=>
   obtain ⟨ad,e,h⟩:=C9 h
   exact ⟨ad,by rw [e],h⟩
 | _=>cases h
theorem a1n {x':Value} {ad:Addr} (r:VR K x' (.pointer (some ad))):∃ ad',x'=.pointer (some ad')∧VR K (.pointer (some ad')) (.pointer (some ad)):=by
 generalize hv:Value.pointer (some ad)=x at r
 cases r with
 | plain hp=>subst hv; simp [V.plain] at hp
 | ptr hk hl=>cases hv; exact ⟨_,rfl,.ptr hk hl⟩
 | _=>cases hv
theorem VR.fwd {ad ad':Addr} (r:VR K (.pointer (some ad')) (.pointer (some ad))) (n:Nat):VR K (.pointer (some (ad'.add n))) (.pointer (some (fwd ad n))):=by
 obtain ⟨g,l,e1,e2,e3,rfl⟩:=a0X r
 rw [a1p]
 obtain ⟨b,off,sp⟩:=ad
 cases e1
 have:=VR.ptr (off:=off+n) e2 (by dsimp only at e3; omega)
 rw [show l.at_+(off+n - l.lo)=l.at_+(off - l.lo)+n by dsimp only at e3; omega] at this
 exact this
theorem VR.cells {v' v:Value} (r:VR K v' v):VRL K v'.cells.toList v.cells.toList:=by
 cases r with
 | agg hl ih=>exact ⟨hl,ih⟩
 | plain hp=>
   cases v' with
   | agg cs=>simp [V.plain] at hp
   | _=>exact VRL.cons (.plain hp) (VRL.nil K)
 | ptr h1 h2=>exact VRL.cons (.ptr h1 h2) (VRL.nil K)
 | slice h1 h2 h3 h4 h5 h6=>exact VRL.cons (.slice h1 h2 h3 h4 h5 h6) (VRL.nil K)
 | map h1=>exact VRL.cons (.map h1) (VRL.nil K)
 | tuple h1 h2=>exact VRL.cons (.tuple h1 h2) (VRL.nil K)
 | func h1 h2 h3 h4=>exact VRL.cons (.func h1 h2 h3 h4) (VRL.nil K)
 | iface h=>exact VRL.cons (.iface h) (VRL.nil K)
theorem b0y (hT:TabOk P T) {t:TypeId} {i:TI} (h:T.types.get t=some i) (w:World):(isAgg t).run P w=.ok (a3m i.und) w:=by
 obtain ⟨info,h1,h2,_⟩:=hT.types t i h
 unfold isAgg
 simp only [Sem.run_bind,run_underlying h2,Result.andThen_ok]
 cases i.und <;> rfl
theorem L9 (hT:TabOk P T) {t:TypeId} {i:TI} (h:T.types.get t=some i) (w:World):(sizeOf t).run P w=.ok i.size w:=by
 obtain ⟨info,h1,h2,h3,_⟩:=hT.types t i h
 simp [sizeOf,typeInfo,h1,h3]
theorem J3 (hT:TabOk P T) {t:TypeId} {i:TI} (h:T.types.get t=some i) (w:World):(underlying t).run P w=.ok i.und w:=by
 obtain ⟨info,h1,h2,_⟩:=hT.types t i h
 exact run_underlying h2 w
theorem a1F (hT:TabOk P T) {t:TypeId} {i:TI} (h:T.types.get t=some i) (w:World):(zeroValue t).run P w=.ok i.zero w:=by
 obtain ⟨info,h1,h2,h3,h4,h5,h6⟩:=hT.types t i h
 simp [zeroValue,typeInfo,h1,h5]
theorem b0E (hT:TabOk P T) {t:TypeId} {ad ad':Addr} {u:Value} (h:a1h T t ad s=some (u,s')) (S:Sim B0 w0 K s.h w) (r:VR K (.pointer (some ad')) (.pointer (some ad))) :
 ∃ u',(loadVar t ad').run P w=.ok u' w∧VR K u' u∧s'.h=s.h∧s'.c=s.c:=by
 obtain ⟨i,hi,h⟩:=I8 h
 unfold loadVar
 simp only [Sem.run_bind,b0y hT hi,Result.andThen_ok]
 cases hag:a3m i.und with
 | true=>
   rw [hag] at h
   obtain ⟨_,h⟩:=A8 h
   obtain ⟨vs,s1,h1,h2⟩:=w9 h
   obtain ⟨e1,e2⟩:=o9 h2
   obtain ⟨vs',r1,r2,r3,r4,r5⟩:=a2Z (P:=P) h1 S r
   refine ⟨.agg vs'.toArray, ?_, ?_,by rw [e2,r5],by rw [e2,r4]⟩
   · simp [L9 hT hi,r1]
   · rw [e1]; exact .agg (by simpa using r2.len) (by simpa using r2.at_)
 | false=>
   rw [hag] at h
   obtain ⟨vs,s1,h1,h2⟩:=w9 h
   obtain ⟨e1,e2⟩:=o9 h2
   obtain ⟨vs',r1,r2,r3,r4,r5⟩:=a2Z (P:=P) h1 S r
   refine ⟨d9 vs' 0, ?_,by rw [e1]; exact r2.lget 0,by rw [e2,r5],by rw [e2,r4]⟩
   obtain ⟨x,rfl⟩:∃ x,vs'=[x]:=by
    match vs',r3 with
    | [x],_=>exact ⟨x,rfl⟩
   have hadd:ad'.add 0=ad':=rfl
   simp only [Bool.false_eq_true,if_false]
   simp only [loadCells,loadCellsFrom,Sem.run_bind,hadd] at r1
   rw [run_load] at r1 ⊢
   cases hc:w.cell? ad' with
   | some y=>rw [hc] at r1; simp at r1; rw [r1]; rfl
   | none=>
     rw [hc] at r1
     cases hf:w.farLoad P ad' (Mode.plain == Mode.atomic) with
     | ok z=>rw [hf] at r1; cases z; simp at r1 ⊢; rw [r1]; rfl
     | error z=>rw [hf] at r1; simp at r1
theorem c6u (hT:TabOk P T) {t:TypeId} {ad ad':Addr} {u u':Value} {un:Unit} (h:b2R T t ad u s=some (un,s')) (S:Sim B0 w0 K s.h w) (r:VR K (.pointer (some ad')) (.pointer (some ad))) (hu:VR K u' u) :
 ∃ w',(storeVar t ad' u').run P w=.ok () w'∧Sim B0 w0 K s'.h w'∧s'.c=s.c:=by
 obtain ⟨i,hi,h⟩:=I8 h
 obtain ⟨hg,h⟩:=A8 h
 simp only [Bool.and_eq_true,Bool.not_eq_true',J2] at hg
 have hn:=Nat.eq_of_beq_eq_true hg.2
 have hc:=hu.cells
 have hpos:0<u.cells.toList.length:=by
  rcases Nat.eq_zero_or_pos i.size with h0 | h0
  · rw [h0] at hg; simp at hg
  · omega
 obtain ⟨w',r1,r2,r3⟩:=c0T (P:=P) h S hpos r hc
 refine ⟨w', ?_,r2,r3⟩
 have hs:u'.cells.size=i.size:=by rw [← Array.length_toList,hc.len,hn]
 simp [storeVar,L9 hT hi,hs,r1]
end
end Go.V
end
section
namespace Go.V
open Go.RowKit (Below)
section
variable {P:Program} {T:Tab} {B0:Nat} {w0:Base} {w:World} {K:KM} {s s':S} {a:Act} {fr:List Value} {v:Value}
theorem b9S {x:Operand} (h:M.lift (J8 T fr x) s=some (v,s')) (S:Sim B0 w0 K s.h w) (hf:VRL K a.tmps.toList fr) (hg:GK T K) :
 F9 P B0 w0 K s' (pure (Next.value (a.eval x))) w v:=by
 obtain ⟨h1,rfl⟩:=a1H h
 exact ⟨_,w,K,rfl,Step.same S rfl,Or.inl ⟨_,rfl,F5 hf hg h1⟩⟩
theorem d8e {c x y:Operand} (h:a3I T fr c x y s=some (v,s')) (S:Sim B0 w0 K s.h w) (hf:VRL K a.tmps.toList fr) (hg:GK T K) :
 F9 P B0 w0 K s' (do pure (Next.value (if ← asBool (a.eval c) then a.eval x else a.eval y))) w v:=by
 obtain ⟨vc,e1,q0h⟩:=K3 h
 obtain ⟨va,e2,q1h⟩:=K3 q0h
 obtain ⟨vb,e3,q2h⟩:=K3 q1h
 have r1:=F5 hf hg e1
 have r2:=F5 hf hg e2
 have r3:=F5 hf hg e3
 cases vc with
 | bool t=>
   have:=r1.eq_of_plain rfl
   rw [this]
   cases t with
   | true=>
     obtain ⟨rfl,rfl⟩:=o9 q2h
     exact ⟨_,w,K,rfl,Step.same S rfl,Or.inl ⟨_,rfl,r2⟩⟩
   | false=>
     obtain ⟨rfl,rfl⟩:=o9 q2h
     exact ⟨_,w,K,rfl,Step.same S rfl,Or.inl ⟨_,rfl,r3⟩⟩
 | _=>exact absurd q2h (by intro q; cases q)
theorem d7Q (hT:TabOk P T) {t:TypeId} {x:Operand} (h:a2P T fr t x s=some (v,s')) (S:Sim B0 w0 K s.h w) (hf:VRL K a.tmps.toList fr) (hg:GK T K) :
 F9 P B0 w0 K s' (do pure (Next.value (← Instr.loadAt t (a.eval x)))) w v:=by
 obtain ⟨vx,e1,q3h⟩:=K3 h
 obtain ⟨ad,rfl,q4h⟩:=a0f q3h
 obtain ⟨ad',e2,r⟩:=a1n (F5 hf hg e1)
 obtain ⟨u',r1,r2,r3,r4⟩:=b0E hT q4h S r
 refine F9.quiet S r3 ?_ r2
 rw [e2]
 simp [Instr.loadAt,Instr.sureAddr,r1]
theorem d4K (hT:TabOk P T) {t:TypeId} {x y:Operand} (h:a2r T fr t x y s=some (v,s')) (S:Sim B0 w0 K s.h w) (hf:VRL K a.tmps.toList fr) (hg:GK T K) :
 F9 P B0 w0 K s' (do Instr.storeAt t (a.eval x) (a.eval y); pure Next.skip) w v:=by
 obtain ⟨vx,e1,q5h⟩:=K3 h
 obtain ⟨vy,e2,q6h⟩:=K3 q5h
 obtain ⟨ad,rfl,q7h⟩:=a0f q6h
 obtain ⟨un,s1,h1,h2⟩:=w9 q7h
 obtain ⟨rfl,rfl⟩:=o9 h2
 obtain ⟨ad',e3,r⟩:=a1n (F5 hf hg e1)
 obtain ⟨w',r1,r2,r3⟩:=c6u hT h1 S r (F5 hf hg e2)
 refine ⟨.skip,w',K, ?_,⟨KM.le_refl K,fun _ _ _=>rfl,r2⟩,Or.inr ⟨rfl,rfl⟩⟩
 rw [e3]
 simp [Instr.storeAt,Instr.sureAddr,r1]
theorem a1J {vs vs':List Value} {ad:Addr} (h:M9 vs s=some (ad,s')) (S:Sim B0 w0 K s.h w) (F:K8 K s s') (hv:VRL K vs' vs) (t:TypeId) :
 ∃ K',Step B0 w0 K s' (w.alloc (.cells vs'.toArray t)) K'∧K' s.c 0=some ⟨w.heap.size, 0, 0,vs'.length,true⟩∧ad=⟨s.c, 0,some 0⟩:=by
 have:=Z6 (w':=w.alloc (.cells vs'.toArray t)) (arr:=vs'.toArray) (e:=t) (fz:=(0, 0)) (rest:=[]) h S F hv (Grew.alloc _ _) (by show (w.heap.push _)[w.heap.size]?=_; simp) (by simp) (fun o _=>by simp)
 simpa using this
theorem d5K (hT:TabOk P T) {t:TypeId} (h:b9T T t s=some (v,s')) (S:Sim B0 w0 K s.h w) (F:K8 K s s') :
 F9 P B0 w0 K s' (do pure (Next.value (← Instr.alloc t true (.tuple #[])))) w v:=by
 obtain ⟨i,hi,q8h⟩:=I8 h
 obtain ⟨hgd,q9h⟩:=A8 q8h
 obtain ⟨ad,s1,h1,h2⟩:=w9 q9h
 obtain ⟨rfl,rfl⟩:=o9 h2
 simp only [Bool.and_eq_true] at hgd
 have hz:VR K i.zero i.zero:=L8 _ _ hgd.1
 obtain ⟨K',r1,r2,rfl⟩:=a1J h1 S F hz.cells t
 refine F9.step (v':=.pointer (some ⟨w.heap.size, 0,none⟩)) (w':=w.alloc (.cells i.zero.cells t)) ?_ r1 ?_
 · simp [Instr.alloc,a1F hT hi,newVar,newRow]
 · exact VR.ptr (off:=0) r2 (Nat.zero_le _)
theorem e1r {t:TypeId} {x:Operand} (h:a5B T fr x s=some (v,s')) (S:Sim B0 w0 K s.h w) (F:K8 K s s') (hf:VRL K a.tmps.toList fr) (hg:GK T K) :
 F9 P B0 w0 K s' (do pure (Next.value (← Instr.box t (a.eval x)))) w v:=by
 obtain ⟨vx,e1,q10h⟩:=K3 h
 obtain ⟨hgd,q11h⟩:=A8 q10h
 obtain ⟨ad,s1,h1,h2⟩:=w9 q11h
 obtain ⟨rfl,rfl⟩:=o9 h2
 obtain ⟨K',r1,r2,rfl⟩:=a1J h1 S F (F5 hf hg e1).cells t
 refine F9.step (v':=.pointer (some ⟨w.heap.size, 0,none⟩)) (w':=w.alloc (.cells (a.eval x).cells t)) ?_ r1 ?_
 · simp [Instr.box,newVar,newRow]
 · exact VR.ptr (off:=0) r2 (Nat.zero_le _)
theorem b3a (hT:TabOk P T) {t:TypeId} {x:Operand} {f:Nat} (h:a0n T fr t x f s=some (v,s')) (S:Sim B0 w0 K s.h w) (hf:VRL K a.tmps.toList fr) (hg:GK T K) :
 F9 P B0 w0 K s' (do pure (Next.value (← Instr.fieldAt t (a.eval x) f))) w v:=by
 obtain ⟨vx,e1,q12h⟩:=K3 h
 obtain ⟨d,hd,q13h⟩:=I8 q12h
 generalize hu:d.und=u at q13h
 cases u with
 | struct fields=>
   obtain ⟨ad,rfl,q14h⟩:=a0f q13h
   obtain ⟨fd,e2,q15h⟩:=C9 q14h
   obtain ⟨n,hn,q16h⟩:=I8 q15h
   obtain ⟨hgd,q17h⟩:=A8 q16h
   obtain ⟨rfl,rfl⟩:=o9 q17h
   obtain ⟨ad',e3,r⟩:=a1n (F5 hf hg e1)
   rw [O7] at e2
   have e2':fields[f]?=some fd:=by simpa using e2
   have hn0:¬ n.size=0:=a5r hgd
   refine F9.quiet S rfl ?_ (r.fwd fd.offset)
   rw [e3]
   simp [Instr.fieldAt,J3 hT hd,hu,e2',Instr.sureAddr,fieldPlace,L9 hT hn,hn0]
 | _=>exact absurd q13h (by intro q; cases q)
theorem U2 {x':Value} {o:Option Addr} {len es:Nat} (r:VR K x' (.slice o len es)) :
 (∃ ad ad' cap,o=some ad∧x'=.slice (some ad') len cap∧len≤cap∧VR K (.slice (some ad') len cap) (.slice (some ad) len es)∧0<es∧(cap=0∨ad'.spot=none) ∧
   (0<cap→VR K (.pointer (some ad')) (.pointer (some ad))))∨(o=none∧len=0∧es=0∧x'=.slice none 0 0):=by
 generalize hv:Value.slice o len es=x at r
 cases r with
 | plain hp=>
   subst hv
   simp [V.plain] at hp
   obtain ⟨⟨rfl,h1⟩,h2⟩:=hp
   exact Or.inr ⟨rfl,h1,h2,by rw [h1,h2]⟩
 | @slice b g off len' cap es' l a' hk hl hes hlc hsp hor=>
   cases hv
   refine Or.inl ⟨_,a',cap,rfl,rfl,hlc,.slice hk hl hes hlc hsp hor,hes,hsp,fun hc=>?_⟩
   rcases hor with h0 | ⟨h1,h2,h3⟩
   · omega
   · have:a'=⟨l.blk,l.at_+(off - l.lo),none⟩:=by
      obtain ⟨x,y,z⟩:=a'
      simp only at h1 h2 hsp
      rw [h1,h2,hsp.resolve_left (by omega)]
     rw [this]
     exact .ptr hk hl
 | _=>cases hv
theorem a0G {x:Value} {n:Nat} (h:a0K x=some n):∃ k,x=.int k (Int.ofNat n):=by
 cases x with
 | int k m=>cases m with
   | ofNat m=>cases h; exact ⟨k,rfl⟩
   | negSucc m=>cases h
 | _=>cases h
theorem b3W (hT:TabOk P T) {t:TypeId} {x y:Operand} (h:a0r T fr t x y s=some (v,s')) (S:Sim B0 w0 K s.h w) (hf:VRL K a.tmps.toList fr) (hg:GK T K) :
 F9 P B0 w0 K s' (do pure (Next.value (← Instr.indexAt t (a.eval x) (a.eval y)))) w v:=by
 obtain ⟨vx,e1,q18h⟩:=K3 h
 obtain ⟨vy,e2,q19h⟩:=K3 q18h
 obtain ⟨d,hd,q20h⟩:=I8 q19h
 obtain ⟨i,hi,q21h⟩:=C9 q20h
 obtain ⟨k,rfl⟩:=a0G hi
 have ey:a.eval y=.int k (Int.ofNat i):=(F5 hf hg e2).eq_of_plain rfl
 rw [ey]
 generalize hu:d.und=u at q21h
 cases u with
 | array len elem=>
   obtain ⟨ad,rfl,q22h⟩:=a0f q21h
   obtain ⟨e,he,q23h⟩:=I8 q22h
   obtain ⟨hgd,q24h⟩:=A8 q23h
   obtain ⟨rfl,rfl⟩:=o9 q24h
   obtain ⟨ad',e3,r⟩:=a1n (F5 hf hg e1)
   simp only [Bool.and_eq_true] at hgd
   have hlt:i<len:=by simpa [Nat.blt_eq] using hgd.1
   refine F9.quiet S rfl ?_ (r.fwd (i * e.size))
   rw [e3]
   simp [Instr.indexAt,asIntOf,J3 hT hd,hu,Instr.sureAddr,hlt,L9 hT he]
 | slice elem=>
   cases vx with
   | slice o len es=>
     obtain ⟨ad,rfl,q25h⟩:=C9 q21h
     obtain ⟨e,he,q26h⟩:=I8 q25h
     obtain ⟨hg1,q27h⟩:=A8 q26h
     obtain ⟨e',he',q28h⟩:=I8 q27h
     rw [he] at he'; cases he'
     obtain ⟨hgd,q29h⟩:=A8 q28h
     obtain ⟨rfl,rfl⟩:=o9 q29h
     simp only [Bool.and_eq_true] at hgd
     have hlt:i<len:=by simpa [Nat.blt_eq] using hgd.1
     rcases U2 (F5 hf hg e1) with ⟨ad1,ad',cap,q1,q2,q3,q4,q5,q6,q7⟩ | ⟨q1,_⟩
     · cases q1
       have r:=q7 (by omega)
       refine F9.quiet S rfl ?_ (r.fwd (i * e.size))
       rw [q2]
       simp [Instr.indexAt,asIntOf,J3 hT hd,hu,hlt,L9 hT he]
     · cases q1
   | _=>exact absurd q21h (by intro q; cases q)
 | _=>exact absurd q21h (by intro q; cases q)
theorem VRL.get? {l' l:List Value} (h:VRL K l' l) {i:Nat} {x:Value} (e:l[i]?=some x):∃ x',l'[i]?=some x'∧VR K x' x:=by
 have hi:i<l.length:=(List.getElem?_eq_some_iff.1 e).1
 have hi':i<l'.length:=by rw [h.len]; exact hi
 exact ⟨l'[i],List.getElem?_eq_getElem hi',h.at_ i _ _ (List.getElem?_eq_getElem hi') e⟩
theorem b7G (hT:TabOk P T) {t:TypeId} {cs' cs:List Value} {off:Nat} {u:Value} (h:partV T t cs off s=some (u,s')) (hc:VRL K cs' cs) (w:World) :
 ∃ u',(part t cs'.toArray off).run P w=.ok u' w∧VR K u' u∧s'=s:=by
 obtain ⟨i,hi,q30h⟩:=I8 h
 unfold part
 simp only [Sem.run_bind,b0y hT hi,Result.andThen_ok]
 cases hag:a3m i.und with
 | true=>
   rw [hag] at q30h
   obtain ⟨rfl,rfl⟩:=o9 q30h
   refine ⟨.agg ((cs'.drop off).take i.size).toArray, ?_, ?_,rfl⟩
   · simp only [if_true,Sem.run_bind,L9 hT hi,Result.andThen_ok,Sem.run_pure]
     congr 2
     apply Array.ext'
     simp [List.extract]
   · rw [a2D,a2B]
     have:=(hc.drop off).take i.size
     exact .agg (by simpa using this.len) (by simpa using this.at_)
 | false=>
   rw [hag] at q30h
   obtain ⟨x,hx,q31h⟩:=C9 q30h
   obtain ⟨rfl,rfl⟩:=o9 q31h
   rw [O7] at hx
   obtain ⟨x',q1,q2⟩:=hc.get? hx
   exact ⟨x',by simp [q1],q2,rfl⟩
theorem d2O {x':Value} {cs:Array Value} (r:VR K x' (.agg cs)):∃ cs',x'=.agg cs'∧VRL K cs'.toList cs.toList:=by
 generalize hv:Value.agg cs=x at r
 cases r with
 | plain hp=>subst hv; simp [V.plain] at hp
 | agg hl ih=>cases hv; exact ⟨_,rfl,⟨hl,ih⟩⟩
 | _=>cases hv
theorem d5t {x':Value} {cs:Array Value} (r:VR K x' (.tuple cs)):∃ cs',x'=.tuple cs'∧VRL K cs'.toList cs.toList:=by
 generalize hv:Value.tuple cs=x at r
 cases r with
 | plain hp=>subst hv; simp [V.plain] at hp
 | tuple hl ih=>cases hv; exact ⟨_,rfl,⟨hl,ih⟩⟩
 | _=>cases hv
theorem d5N (hT:TabOk P T) {t:TypeId} {x:Operand} {f:Nat} (h:a2i T fr t x f s=some (v,s')) (S:Sim B0 w0 K s.h w) (hf:VRL K a.tmps.toList fr) (hg:GK T K) :
 F9 P B0 w0 K s' (do pure (Next.value (← Instr.field t (a.eval x) f))) w v:=by
 obtain ⟨vx,e1,q32h⟩:=K3 h
 obtain ⟨d,hd,q33h⟩:=I8 q32h
 generalize hu:d.und=u at q33h
 cases u with
 | struct fields=>
   cases vx with
   | agg cs=>
     obtain ⟨fd,e2,q34h⟩:=C9 q33h
     obtain ⟨cs',e3,r⟩:=d2O (F5 hf hg e1)
     obtain ⟨u',q1,q2,rfl⟩:=b7G hT q34h r w
     rw [O7] at e2
     have e2':fields[f]?=some fd:=by simpa using e2
     refine F9.quiet S rfl ?_ q2
     rw [e3]
     simp [Instr.field,J3 hT hd,hu,e2',asAgg] at q1 ⊢
     exact q1
   | _=>exact absurd q33h (by intro q; cases q)
 | _=>exact absurd q33h (by intro q; cases q)
theorem c7e {x:Operand} {i:Nat} (h:a1l T fr x i s=some (v,s')) (S:Sim B0 w0 K s.h w) (hf:VRL K a.tmps.toList fr) (hg:GK T K) :
 F9 P B0 w0 K s' (do pure (Next.value (← Instr.extract (a.eval x) i))) w v:=by
 obtain ⟨vx,e1,q35h⟩:=K3 h
 split at q35h
 · rename_i cs
   obtain ⟨y,e2,q36h⟩:=C9 q35h
   obtain ⟨rfl,rfl⟩:=o9 q36h
   rw [O7] at e2
   obtain ⟨cs',e3,r⟩:=d5t (F5 hf hg e1)
   obtain ⟨y',q1,q2⟩:=r.get? e2
   have q1':cs'[i]?=some y':=by simpa using q1
   refine F9.quiet S rfl ?_ q2
   rw [e3]
   simp [Instr.extract,q1']
 · cases q35h
theorem b9C {o:Oper} {x:Operand} (ho:o.op=.nilCheck x) (h:a0O T fr x s=some (v,s')) (S:Sim B0 w0 K s.h w) (hf:VRL K a.tmps.toList fr) (hg:GK T K) :
 F9 P B0 w0 K s' (execOp a.eval o) w v:=by
 obtain ⟨o1,o2,o3,o4,o5,o6⟩:=o
 cases ho
 unfold execOp
 simp only
 obtain ⟨vx,e1,q37h⟩:=K3 h
 have r:=F5 hf hg e1
 split at q37h
 · rename_i o
   obtain ⟨hgd,q38h⟩:=A8 q37h
   obtain ⟨rfl,rfl⟩:=o9 q38h
   cases o with
   | none=>cases hgd
   | some ad=>
     obtain ⟨ad',e2,r'⟩:=a1n r
     rw [e2]
     exact ⟨_,w,K,rfl,Step.same S rfl,Or.inl ⟨_,rfl,r'⟩⟩
 · rename_i fn x1 x2
   obtain ⟨hgd,q39h⟩:=A8 q37h
   obtain ⟨rfl,rfl⟩:=o9 q39h
   cases fn with
   | func f=>
     generalize hv:Value.func (Fn.func f) x1 x2=y at r
     generalize hx:a.eval x=y' at r
     cases r with
     | plain hp=>subst hv; simp [V.plain] at hp
     | func h1 h2 h3 h4=>
       cases hv
       exact ⟨_,w,K,rfl,Step.same S rfl,Or.inl ⟨_,rfl,.func h1 h2 h3 h4⟩⟩
     | _=>cases hv
   | _=>cases hgd
 · cases q37h
theorem d5f (hT:TabOk P T) {t:TypeId} {x:Operand} (h:a2t T fr t x s=some (v,s')) (S:Sim B0 w0 K s.h w) (hf:VRL K a.tmps.toList fr) (hg:GK T K) :
 F9 P B0 w0 K s' (do pure (Next.value (← Instr.makeInterface t (a.eval x)))) w v:=by
 obtain ⟨vx,e1,q40h⟩:=K3 h
 obtain ⟨d,hd,q41h⟩:=I8 q40h
 obtain ⟨hgd,q42h⟩:=A8 q41h
 obtain ⟨rfl,rfl⟩:=o9 q42h
 refine F9.quiet S rfl ?_ (.iface (F5 hf hg e1))
 unfold Instr.makeInterface
 simp only [Sem.run_bind,J3 hT hd,Result.andThen_ok]
 cases hu:d.und <;> first | rfl | (rw [hu] at hgd; cases hgd)
theorem d8L {fn:Fn} {x y:Array Operand} (h:a3p T fr fn x y s=some (v,s')) (S:Sim B0 w0 K s.h w) (hf:VRL K a.tmps.toList fr) (hg:GK T K) :
 F9 P B0 w0 K s' (do pure (Next.value (← Instr.makeFunc fn (x.map a.eval) (y.map a.eval)))) w v:=by
 obtain ⟨va,e1,q43h⟩:=a0h h
 obtain ⟨vb,e2,q44h⟩:=a0h q43h
 obtain ⟨rfl,rfl⟩:=o9 q44h
 have r1:=a0e hf hg e1
 have r2:=a0e hf hg e2
 exact F9.quiet S rfl rfl (.func (by simpa using r1.len) (by simpa using r1.at_) (by simpa using r2.len) (by simpa using r2.at_))
end
end Go.V
end
