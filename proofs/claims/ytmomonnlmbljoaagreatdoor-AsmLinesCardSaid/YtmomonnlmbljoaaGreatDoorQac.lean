import Derived.Laws.AppendOwn
import Derived.Laws.Tables
import Derived.Great.BuildSlice
import Derived.Test.YtmomonnlmbljoaaGreatDoorQab
section
namespace Go.V
open Go.RowKit (Below)
theorem c2B {B0:Nat} {w0:Base} {K:KM} {h h':Trie VObj} {w:World} (S:Sim B0 w0 K h w) {b n cur:Nat} {cs:List (Value × Nat)} {ro:Bool}
 (ho:h.get b=some (.cells cs cur ro)) (hh:∀ j,h'.get j=if j=b then some (.cells (cs.take n) cur ro) else h.get j):Sim B0 w0 K h' w:=by
 have hb:h'.get b=some (.cells (cs.take n) cur ro):=by rw [hh,if_pos rfl]
 have hn:∀ j,j ≠ b → h'.get j=h.get j:=fun j hj=>by rw [hh,if_neg hj]
 refine ⟨S.size0,S.below,S.dom',fun b2 g2 l2 q=>by by_cases hx:b2=b; exact ⟨_,by rw [hx]; exact hb⟩; rw [hn b2 hx]; exact S.dom2 b2 g2 l2 q,S.own,S.apart,S.same, ?_, ?_, ?_, ?_, ?_,(fun b2 g2 l2 q hnc=>by
  by_cases hx:b2=b
  · exact absurd (by rw [hx]; exact hb) (hnc _ _ _)
  · exact S.gen0 b2 g2 l2 q (fun cs cur ro e=>hnc cs cur ro (by rw [hn b2 hx]; exact e)))⟩
 · intro b2 g l cs2 cur2 ro2 q1 q2 q3
   by_cases hb2:b2=b
   · subst hb2; exact S.room b2 g l cs cur ro q1 q2 ho
   · rw [hn b2 hb2] at q3; exact S.room b2 g l cs2 cur2 ro2 q1 q2 q3
 · intro b2 cs2 cur2 ro2 q
   by_cases hb2:b2=b
   · subst hb2
     rw [hb] at q; cases q
     obtain ⟨r1,r2,r3⟩:=S.gens b2 cs cur ro ho
     exact ⟨r1,r2,fun c hc=>r3 c (List.mem_of_mem_take hc)⟩
   · rw [hn b2 hb2] at q; exact S.gens b2 cs2 cur2 ro2 q
 · intro b2 cs2 cur2 ro2 g l q1 q2 off v st q3 q4 q5
   by_cases hb2:b2=b
   · subst hb2
     rw [hb] at q1; cases q1
     rw [List.getElem?_take] at q3
     split at q3
     · exact S.cells b2 cs cur ro g l ho q2 off v st q3 q4 q5
     · cases q3
   · rw [hn b2 hb2] at q1; exact S.cells b2 cs2 cur2 ro2 g l q1 q2 off v st q3 q4 q5
 · intro b2 es q
   have hb2:b2 ≠ b:=fun e=>by rw [e,hb] at q; cases q
   rw [hn b2 hb2] at q; exact S.map b2 es q
 · intro b2 x pos q
   have hb2:b2 ≠ b:=fun e=>by rw [e,hb] at q; cases q
   rw [hn b2 hb2] at q; exact S.siter b2 x pos q
theorem c0f {B0:Nat} {w0:Base} {K:KM} {h:Trie VObj} {w w':World} (S:Sim B0 w0 K h w) {b g cur o:Nat} {l:Loc} {cs:List (Value × Nat)} {vs':List Value}
 (ho:h.get b=some (.cells cs cur false)) (hk:K b g=some l) (hlo:l.lo ≤ cs.length) (hoo:o=l.at_ + (cs.length - l.lo)) (u:Upd w w' l.blk o vs'):Sim B0 w0 K h w':=by
 obtain ⟨hg1,hg2,hg3⟩:=S.gens b cs cur false ho
 have hown:l.own=true:=(hg1 g l hk).2 rfl
 obtain ⟨c,e,fz,hc1,hc2,hc3⟩:=S.room b g l cs cur false hk hown ho
 refine ⟨S.size0,S.below.trans (u.below (S.own b g l hk hown)),fun b2 g2 l2 q=>by rw [u.size]; exact S.dom' b2 g2 l2 q,S.dom2,S.own,S.apart,S.same, ?_,S.gens, ?_, ?_, ?_,S.gen0⟩
 · intro b2 g2 l2 cs2 cur2 ro2 q1 q2 q3
   exact u.room (S.room b2 g2 l2 cs2 cur2 ro2 q1 q2 q3) hc1
 · intro b2 cs2 cur2 ro2 g2 l2 q1 q2 off v st q3 q4 q5
   obtain ⟨v',r1,r2⟩:=S.cells b2 cs2 cur2 ro2 g2 l2 q1 q2 off v st q3 q4 q5
   refine ⟨v', ?_,r2⟩
   rw [u.cell_other hc1 _ ?_]
   · exact r1
   · by_cases hb2:b2=b
     · subst hb2
       rw [ho] at q1; cases q1
       by_cases hbk:l2.blk=l.blk
       · right
         have e1:=(S.same b2 g l g2 l2 hk q2).2 hbk.symm
         have e2:off < cs.length:=(List.getElem?_eq_some_iff.1 q3).1
         dsimp only
         omega
       · exact Or.inl hbk
     · exact Or.inl (S.apart b g l b2 g2 l2 hk q2 (Ne.symm hb2) hown).symm
 · intro b2 es q
   have hb2:b2 ≠ b:=fun e=>by rw [e,ho] at q; cases q
   obtain ⟨l2,es',clock,r1,r2,r3,r4⟩:=S.map b2 es q
   exact ⟨l2,es',clock,r1,r2,by rw [u.other _ (S.apart b g l b2 0 l2 hk r1 (Ne.symm hb2) hown).symm]; exact r3,r4⟩
 · intro b2 x pos q
   have hb2:b2 ≠ b:=fun e=>by rw [e,ho] at q; cases q
   obtain ⟨l2,r1,r2,r3,r4,r5⟩:=S.siter b2 x pos q
   exact ⟨l2,r1,r2,r3,r4,by rw [u.other _ (S.apart b g l b2 0 l2 hk r1 (Ne.symm hb2) hown).symm]; exact r5⟩
theorem b9m {B0:Nat} {w0:Base} {K:KM} {h h':Trie VObj} {w:World} (S:Sim B0 w0 K h w) {b cur:Nat} {l:Loc} {cs:List (Value × Nat)} {vs:List Value}
 (ho:h.get b=some (.cells cs cur false)) (hh:∀ j,h'.get j=if j=b then some (.cells (cs ++ vs.map fun v=>(v,cur + 1)) (cur + 1) false) else h.get j)
 (hown:l.own=true) (hl:l.blk < w.heap.size) (hB:B0 ≤ l.blk)
 (hsame:∀ g2 l2,K b g2=some l2 → l2.blk=l.blk → l2.at_ + l.lo=l.at_ + l2.lo) (hapart:∀ b2 g2 l2,b2 ≠ b → K b2 g2=some l2 → l2.blk ≠ l.blk)
 (hroom:∃ a e fz,w.heap[l.blk]?=some (.cells a e fz) ∧ a.size=l.sz ∧ ∀ o,o < l.sz → w.frozen? ⟨l.blk,o,none⟩=false)
 (hcl:∀ (off:Nat) v st,l.lo ≤ off → (cs ++ vs.map fun v=>(v,cur + 1))[off]?=some (v,st) → ∃ v',w.cell? ⟨l.blk,l.at_ + (off - l.lo),none⟩=some v' ∧ VR K v' v) :
 Sim B0 w0 (K.put b (cur + 1) l) h' w ∧ K.le (K.put b (cur + 1) l):=by
 obtain ⟨hg1,hg2',hg3⟩:=S.gens b cs cur false ho
 obtain ⟨l0,hg2⟩:=hg2' cur (Nat.le_refl _)
 have hnone:K b (cur + 1)=none:=by
  cases q:K b (cur + 1) with
  | none=>rfl
  | some l1=>have:=(hg1 _ l1 q).1; omega
 have hle:K.le (K.put b (cur + 1) l):=KM.le_put K l hnone
 have hb:h'.get b=some (.cells (cs ++ vs.map fun v=>(v,cur + 1)) (cur + 1) false):=by rw [hh,if_pos rfl]
 have hn:∀ j,j ≠ b → h'.get j=h.get j:=fun j hj=>by rw [hh,if_neg hj]
 refine ⟨⟨S.size0,S.below, ?_, ?_, ?_, ?_, ?_, ?_, ?_, ?_, ?_, ?_,fun b2 g2 l2 q hnc=>by
  by_cases hx:b2=b
  · exact absurd (by rw [hx]; exact hb) (hnc _ _ _)
  · rcases KM.put_inv q with ⟨e1,_,_⟩ | p1
    · exact absurd e1 hx
    · exact S.gen0 b2 g2 l2 p1 (fun cs cur ro e=>hnc cs cur ro (by rw [hn b2 hx]; exact e))⟩,hle⟩
 · intro b2 g l' q
   rcases KM.put_inv q with ⟨_,_,e⟩ | q
   · rw [e]; exact ⟨hl,S.size0.2 _ hB⟩
   · exact S.dom' b2 g l' q
 · intro b2 g l' q
   by_cases hx:b2=b
   · exact ⟨_,by rw [hx]; exact hb⟩
   · rw [hn b2 hx]
     rcases KM.put_inv q with ⟨e,_,_⟩ | q
     · exact absurd e hx
     · exact S.dom2 b2 g l' q
 · intro b2 g l' q q2
   rcases KM.put_inv q with ⟨_,_,e⟩ | q
   · rw [e]; exact hB
   · exact S.own b2 g l' q q2
 · intro b1 g1 l1 b2 g2 l2 q1 q2 hne hx
   rcases KM.put_inv q1 with ⟨e1,_,e2⟩ | p1 <;> rcases KM.put_inv q2 with ⟨e3,_,e4⟩ | p2
   · exact absurd (e1.trans e3.symm) hne
   · rw [e2]; exact (hapart b2 g2 l2 (fun e=>hne (e1.trans e.symm)) p2).symm
   · rw [e4]; exact hapart b1 g1 l1 (fun e=>hne (e.trans e3.symm)) p1
   · exact S.apart b1 g1 l1 b2 g2 l2 p1 p2 hne hx
 · intro b1 g1 l1 g2 l2 q1 q2
   rcases KM.put_inv q1 with ⟨e1,_,e2⟩ | p1 <;> rcases KM.put_inv q2 with ⟨e3,_,e4⟩ | p2
   · rw [e2,e4]; exact ⟨rfl,fun _=>rfl⟩
   · rw [e1] at p2
     rw [e2]
     exact ⟨by rw [hown,(hg1 _ _ p2).2 rfl],fun q=>(hsame _ _ p2 q.symm).symm⟩
   · rw [e3] at p1
     rw [e4]
     exact ⟨by rw [hown,(hg1 _ _ p1).2 rfl],fun q=>hsame _ _ p1 q⟩
   · exact S.same b1 g1 l1 g2 l2 p1 p2
 · intro b2 g l1 cs2 cur2 ro2 q1 q2 q3
   by_cases hb2:b2=b
   · subst hb2
     rcases KM.put_inv q1 with ⟨_,_,e2⟩ | p1
     · rw [e2]; exact hroom
     · exact S.room b2 g l1 cs cur false p1 q2 ho
   · rcases KM.put_inv q1 with ⟨e1,_,_⟩ | p1
     · exact absurd e1 hb2
     · rw [hn b2 hb2] at q3; exact S.room b2 g l1 cs2 cur2 ro2 p1 q2 q3
 · intro b2 cs2 cur2 ro2 q
   by_cases hb2:b2=b
   · subst hb2
     rw [hb] at q; cases q
     refine ⟨fun g l1 q1=>?_,fun g hg=>(Nat.lt_or_eq_of_le hg).elim (fun h=>let ⟨l1,r⟩:=hg2' g (by omega); ⟨l1,hle _ _ _ r⟩) (fun h=>⟨l,by rw [h]; exact KM.put_same _ _ _ _⟩),fun c hc=>?_⟩
     · rcases KM.put_inv q1 with ⟨_,e,e2⟩ | p1
       · rw [e,e2]; exact ⟨Nat.le_refl _,fun _=>hown⟩
       · exact ⟨Nat.le_succ_of_le (hg1 g l1 p1).1,(hg1 g l1 p1).2⟩
     · rcases List.mem_append.1 hc with hc | hc
       · exact Nat.le_succ_of_le (hg3 c hc)
       · obtain ⟨v,_,rfl⟩:=List.mem_map.1 hc; exact Nat.le_refl _
   · rw [hn b2 hb2] at q
     obtain ⟨r1,r2,r3⟩:=S.gens b2 cs2 cur2 ro2 q
     refine ⟨fun g l1 q1=>?_,fun g hg=>let ⟨l1,r⟩:=r2 g hg; ⟨l1,hle _ _ _ r⟩,r3⟩
     rcases KM.put_inv q1 with ⟨e1,_,_⟩ | p1
     · exact absurd e1 hb2
     · exact r1 g l1 p1
 · intro b2 cs2 cur2 ro2 g l1 q1 q2 off v st q3 q4 q5
   by_cases hb2:b2=b
   · subst hb2
     rw [hb] at q1; cases q1
     rcases KM.put_inv q2 with ⟨_,e,e2⟩ | p2
     · subst e2
       obtain ⟨v',r1,r2⟩:=hcl off v st q5 q3
       exact ⟨v',r1,r2.mono hle⟩
     · have hg:=(hg1 g l1 p2).1
       have hlt:off < cs.length:=by
        rcases Nat.lt_or_ge off cs.length with h1 | h1
        · exact h1
        · rw [List.getElem?_append_right h1,List.getElem?_map] at q3
          cases hv:vs[off - cs.length]? with
          | none=>rw [hv] at q3; cases q3
          | some y=>rw [hv] at q3; cases q3; omega
       rw [List.getElem?_append_left hlt] at q3
       obtain ⟨v',r1,r2⟩:=S.cells b2 cs cur false g l1 ho p2 off v st q3 q4 q5
       exact ⟨v',r1,r2.mono hle⟩
   · rcases KM.put_inv q2 with ⟨e1,_,_⟩ | p2
     · exact absurd e1 hb2
     · rw [hn b2 hb2] at q1
       obtain ⟨v',r1,r2⟩:=S.cells b2 cs2 cur2 ro2 g l1 q1 p2 off v st q3 q4 q5
       exact ⟨v',r1,r2.mono hle⟩
 · intro b2 es q
   have hb2:b2 ≠ b:=fun e=>by rw [e,hb] at q; cases q
   rw [hn b2 hb2] at q
   obtain ⟨l1,es',clock,r1,r2,r3,r4⟩:=S.map b2 es q
   exact ⟨l1,es',clock,hle _ _ _ r1,r2,r3,r4.mono hle⟩
 · intro b2 x pos q
   have hb2:b2 ≠ b:=fun e=>by rw [e,hb] at q; cases q
   rw [hn b2 hb2] at q
   obtain ⟨l1,r1,r2,r3,r4,r5⟩:=S.siter b2 x pos q
   exact ⟨l1,hle _ _ _ r1,r2,r3,r4,r5⟩
theorem b7z {e:TI} {a:Addr} {len m:Nat} {vs:List Value} {s s':S} {v:Value} (h:appendAt e a len vs m s=some (v,s')) :
 ∃ g cs cur olds,a.spot=some g ∧ s.h.get a.block=some (.cells cs cur false) ∧ a.off + len * e.size ≤ cs.length ∧ a0w g (cs.drop a.off) (len * e.size)=some olds ∧
   s'.c=s.c ∧ (∀ j,s'.h.get j=if j=a.block then some (.cells (cs.take (a.off + len * e.size) ++ vs.map fun v=>(v,cur + 1)) (cur + 1) false) else s.h.get j) ∧
   v=.slice (some ⟨a.block,a.off,some (cur + 1)⟩) (len + m) e.size:=by
 unfold appendAt at h
 cases hg:a.spot with
 | none=>rw [hg] at h; cases h
 | some g=>
   rw [hg] at h
   simp only [M.obind,M.bind,rd] at h
   cases hb:Nat.blt a.block s.c with
   | false=>rw [hb] at h; cases h
   | true=>
     rw [hb] at h
     cases ho:s.h.get a.block with
     | none=>rw [ho] at h; cases h
     | some o=>
       rw [ho] at h
       cases o with
       | cells cs cur ro=>
         simp only [a7z,a6h,b0z,a3X,M7,a0m] at h
         cases ro with
         | true=>cases h
         | false=>
           simp only [Bool.not_false,M.guard] at h
           cases hgd:Nat.ble (a.off + len * e.size) cs.length with
           | false=>rw [hgd] at h; cases h
           | true=>
             rw [hgd] at h
             cases ht:a0w g (cs.drop a.off) (len * e.size) with
             | none=>rw [ht] at h; cases h
             | some olds=>
               rw [ht] at h
               simp only [a3m] at h
               obtain ⟨u,s1,hx,h⟩:=M8 h
               obtain ⟨_,w2,w3⟩:=b2R hx
               cases h
               exact ⟨g,cs,cur,olds,rfl,rfl,Nat.le_of_ble_eq_true hgd,ht,w2,w3,rfl⟩
       | map es=>cases h
       | siter x y=>cases h
end Go.V
end
section
namespace Go.V
open Go.RowKit (Below)
theorem b2V {n:Nat} (h:(!(Nat.beq n 0))=true):n ≠ 0:=by
 intro e; subst e; cases h
structure TabOk (P:Program) (T:Tab):Prop where
 types:∀ t i,T.types.get t=some i → ∃ info,P.info? t=some info ∧ P.underlying t=some i.und ∧ info.size=i.size ∧ info.bytes=i.bytes ∧ info.zero=some i.zero ∧ i.zero.cells.size=i.size
 funcs:∀ f fn,T.funcs.get f=some fn → P.funcs[f]?=some fn ∧ (fn.name == "runtime.NumGoroutine")=false
def GK (T:Tab) (K:KM):Prop:=∀ g,g < T.ng → ∃ l,K g 0=some l ∧ l.blk=g ∧ l.lo=0 ∧ l.at_=0
theorem GK.mono {T:Tab} {K K':KM} (h:GK T K) (hle:K.le K'):GK T K':=fun g hg=>let ⟨l,e,r⟩:=h g hg; ⟨l,hle _ _ _ e,r⟩
theorem a3h {K:KM}:∀ (n:Nat) (v:Value),a0y n v=true → VR K v v:=by
 intro n
 induction n with
 | zero=>intro v h; cases h
 | succ n ih=>
   intro v h
   cases v with
   | agg cs=>
     have h':a0N (a0y n) cs.toList=true:=h
     rw [a1a] at h'
     exact .agg rfl fun i v' v e e'=>by rw [e] at e'; cases e'; exact ih _ (h' _ (List.mem_of_getElem? e))
   | tuple cs=>
     have h':a0N (a0y n) cs.toList=true:=h
     rw [a1a] at h'
     exact .tuple rfl fun i v' v e e'=>by rw [e] at e'; cases e'; exact ih _ (h' _ (List.mem_of_getElem? e))
   | iface t v=>exact .iface (ih v h)
   | func fn a b=>cases h
   | _=>exact .plain h
theorem VR.eq_of_plain {K:KM} {v' v:Value} (r:VR K v' v) (h:V.plain v=true):v'=v:=by
 cases r with
 | plain _=>rfl
 | ptr _ _=>simp [V.plain] at h
 | slice _ _ _ _ _ _=>simp [V.plain] at h
 | map _=>simp [V.plain] at h
 | _=>simp [V.plain] at h
theorem VR.eq_of_noAddr {K:KM} {v' v:Value} (r:VR K v' v):∀ n,a0y n v=true → v'=v:=by
 induction r with
 | plain _=>intro n h; rfl
 | ptr _ _=>intro n h; cases n <;> simp [a0y,V.plain] at h
 | slice _ _ _ _ _ _=>intro n h; cases n <;> simp [a0y,V.plain] at h
 | map _=>intro n h; cases n <;> simp [a0y,V.plain] at h
 | @agg cs' cs hl _ ih=>
   intro n h
   cases n with
   | zero=>cases h
   | succ n=>
     have h':a0N (a0y n) cs.toList=true:=h
     rw [a1a] at h'
     congr 1
     apply Array.ext'
     apply List.ext_getElem?
     intro i
     by_cases hi:i < cs.toList.length
     · have hi':i < cs'.toList.length:=by rw [hl]; exact hi
       rw [List.getElem?_eq_getElem hi,List.getElem?_eq_getElem hi']
       rw [ih i _ _ (List.getElem?_eq_getElem hi') (List.getElem?_eq_getElem hi) n (h' _ (List.getElem_mem hi))]
     · rw [List.getElem?_eq_none (by omega),List.getElem?_eq_none (by omega)]
 | @tuple cs' cs hl _ ih=>
   intro n h
   cases n with
   | zero=>cases h
   | succ n=>
     have h':a0N (a0y n) cs.toList=true:=h
     rw [a1a] at h'
     congr 1
     apply Array.ext'
     apply List.ext_getElem?
     intro i
     by_cases hi:i < cs.toList.length
     · have hi':i < cs'.toList.length:=by rw [hl]; exact hi
       rw [List.getElem?_eq_getElem hi,List.getElem?_eq_getElem hi']
       rw [ih i _ _ (List.getElem?_eq_getElem hi') (List.getElem?_eq_getElem hi) n (h' _ (List.getElem_mem hi))]
     · rw [List.getElem?_eq_none (by omega),List.getElem?_eq_none (by omega)]
 | func _ _ _ _ _ _=>intro n h; cases n <;> cases h
 | iface _ ih=>intro n h; cases n with
   | zero=>cases h
   | succ n=>rw [ih n h]
theorem a0C {T:Tab} {K:KM} {a:Act} {fr:List Value} (hf:VRL K a.tmps.toList fr) (hg:GK T K) {x:Operand} {v:Value} (h:a2H T fr x=some v):VR K (a.eval x) v:=by
 cases x with
 | tmp t=>
   cases h
   have:=hf.lget t
   rw [a5A a.tmps.toList] at this
   simpa [Act.eval,Array.getD_eq_getD_getElem?] using this
 | const c=>
   have h':(match a0y 3 c with | true=>some c | false=>none)=some v:=h
   split at h'
   · rename_i hn; cases h'; exact a3h _ _ hn
   · cases h'
 | global g=>
   have h':(match Nat.blt g T.ng with | true=>some (Value.pointer (some ⟨g, 0,some 0⟩)) | false=>none)=some v:=h
   split at h'
   · rename_i hn
     cases h'
     obtain ⟨l,e1,e2,e3,e4⟩:=hg g (by simpa [Nat.blt_eq] using hn)
     have:=VR.ptr (off:=0) e1 (by omega)
     rw [e2,e3,e4] at this
     exact this
   · cases h'
 | func f=>cases h; exact .func rfl (fun i v' v e=>by simp at e) rfl (fun i v' v e=>by simp at e)
theorem a6E {T:Tab} {K:KM} {a:Act} {fr:List Value} (hf:VRL K a.tmps.toList fr) (hg:GK T K):∀ {xs:List Operand} {vs:List Value},a3i T fr xs=some vs → VRL K (xs.map a.eval) vs:=by
 intro xs
 induction xs with
 | nil=>intro vs h; cases h; exact VRL.nil K
 | cons x xs ih=>
   intro vs h
   have h':(match a2H T fr x with | none=>none | some v=>(match a3i T fr xs with | none=>none | some vs=>some (v :: vs)))=some vs:=h
   split at h'
   · cases h'
   · rename_i v hv
     split at h'
     · cases h'
     · rename_i vs1 hvs; cases h'; exact VRL.cons (a0C hf hg hv) (ih hvs)
def a0R (P:Program) (B0:Nat) (w0:Base) (K:KM) (s':S) (x:Sem Next) (w:World) (v:Value):Prop:=
 ∃ n w' K',x.run P w=.ok n w' ∧ Step B0 w0 K s' w' K' ∧ ((∃ v',n=.value v' ∧ VR K' v' v) ∨ (n=.skip ∧ v=undef))
section
variable {P:Program} {T:Tab} {B0:Nat} {w0:Base} {w:World} {K:KM} {s s':S} {a:Act} {fr:List Value} {v:Value}
theorem Step.same {s1:S} (S:Sim B0 w0 K s.h w) (h:s1.h=s.h):Step B0 w0 K s1 w K:=⟨KM.le_refl K,fun _ _ _=>rfl,by rw [h]; exact S⟩
theorem a0R.quiet {x:Sem Value} {v':Value} (S:Sim B0 w0 K s.h w) (hs:s'.h=s.h) (hx:x.run P w=.ok v' w) (r:VR K v' v) :
 a0R P B0 w0 K s' (do pure (Next.value (← x))) w v:=
 ⟨.value v',w,K,by simp [hx],Step.same S hs,Or.inl ⟨v',rfl,r⟩⟩
theorem a0R.step {x:Sem Value} {v':Value} {w':World} {K':KM} (hx:x.run P w=.ok v' w') (st:Step B0 w0 K s' w' K') (r:VR K' v' v) :
 a0R P B0 w0 K s' (do pure (Next.value (← x))) w v:=
 ⟨.value v',w',K',by simp [hx],st,Or.inl ⟨v',rfl,r⟩⟩
theorem a7h {α:Type} {x:Sem α} {y:α} (h:a3e P x=some y) (w:World):x.run P w=.ok y w:=by
 induction x with
 | pure a=>cases h; rfl
 | program k ih=>exact ih P h
 | mark m k ih=>exact ih h
 | _=>cases h
theorem a2J {x:Operand} {k:Value → M Value} (h:ev T fr x k s=some (v,s')):∃ u,a2H T fr x=some u ∧ k u s=some (v,s'):=U4 h
theorem a6U {xs:List Operand} {k:List Value → M Value} (h:evs T fr xs k s=some (v,s')):∃ us,a3i T fr xs=some us ∧ k us s=some (v,s'):=U4 h
theorem a2c {α:Type} {t:TypeId} {k:TI → M α} {u:α} (h:ti T t k s=some (u,s')):∃ i,T.types.get t=some i ∧ k i s=some (u,s'):=U4 h
theorem a6M {α:Type} {x:Value} {k:Addr → M α} {u:α} (h:a5e x k s=some (u,s')):∃ ad,x=.pointer (some ad) ∧ k ad s=some (u,s'):=by
 cases x with
 | pointer o=>
   obtain ⟨ad,e,h⟩:=U4 h
   exact ⟨ad,by rw [e],h⟩
 | _=>cases h
theorem a8r {x':Value} {ad:Addr} (r:VR K x' (.pointer (some ad))):∃ ad',x'=.pointer (some ad') ∧ VR K (.pointer (some ad')) (.pointer (some ad)):=by
 generalize hv:Value.pointer (some ad)=x at r
 cases r with
 | plain hp=>subst hv; simp [V.plain] at hp
 | ptr hk hl=>cases hv; exact ⟨_,rfl,.ptr hk hl⟩
 | _=>cases hv
theorem VR.fwd {ad ad':Addr} (r:VR K (.pointer (some ad')) (.pointer (some ad))) (n:Nat):VR K (.pointer (some (ad'.add n))) (.pointer (some (fwd ad n))):=by
 obtain ⟨g,l,e1,e2,e3,rfl⟩:=a8f r
 rw [a8t]
 obtain ⟨b,off,sp⟩:=ad
 cases e1
 have:=VR.ptr (off:=off + n) e2 (by dsimp only at e3; omega)
 rw [show l.at_ + (off + n - l.lo)=l.at_ + (off - l.lo) + n by dsimp only at e3; omega] at this
 exact this
theorem VR.cells {v' v:Value} (r:VR K v' v):VRL K v'.cells.toList v.cells.toList:=by
 cases r with
 | agg hl ih=>exact ⟨hl,ih⟩
 | plain hp=>
   cases v' with
   | agg cs=>simp [V.plain] at hp
   | _=>exact VRL.cons (.plain hp) (VRL.nil K)
 | ptr h1 h2=>exact VRL.cons (.ptr h1 h2) (VRL.nil K)
 | slice h1 h2 h3 h4 h5 h6=>exact VRL.cons (.slice h1 h2 h3 h4 h5 h6) (VRL.nil K)
 | map h1=>exact VRL.cons (.map h1) (VRL.nil K)
 | tuple h1 h2=>exact VRL.cons (.tuple h1 h2) (VRL.nil K)
 | func h1 h2 h3 h4=>exact VRL.cons (.func h1 h2 h3 h4) (VRL.nil K)
 | iface h=>exact VRL.cons (.iface h) (VRL.nil K)
theorem b4L (hT:TabOk P T) {t:TypeId} {i:TI} (h:T.types.get t=some i) (w:World):(isAgg t).run P w=.ok (b1x i.und) w:=by
 obtain ⟨info,h1,h2,_⟩:=hT.types t i h
 unfold isAgg
 simp only [Sem.run_bind,run_underlying h2,Result.andThen_ok]
 cases i.und <;> rfl
theorem a3j (hT:TabOk P T) {t:TypeId} {i:TI} (h:T.types.get t=some i) (w:World):(sizeOf t).run P w=.ok i.size w:=by
 obtain ⟨info,h1,h2,h3,_⟩:=hT.types t i h
 simp [sizeOf,typeInfo,h1,h3]
theorem a2x (hT:TabOk P T) {t:TypeId} {i:TI} (h:T.types.get t=some i) (w:World):(underlying t).run P w=.ok i.und w:=by
 obtain ⟨info,h1,h2,_⟩:=hT.types t i h
 exact run_underlying h2 w
theorem a9b (hT:TabOk P T) {t:TypeId} {i:TI} (h:T.types.get t=some i) (w:World):(zeroValue t).run P w=.ok i.zero w:=by
 obtain ⟨info,h1,h2,h3,h4,h5,h6⟩:=hT.types t i h
 simp [zeroValue,typeInfo,h1,h5]
theorem b4w (hT:TabOk P T) {t:TypeId} {ad ad':Addr} {u:Value} (h:a8k T t ad s=some (u,s')) (S:Sim B0 w0 K s.h w) (r:VR K (.pointer (some ad')) (.pointer (some ad))) :
 ∃ u',(loadVar t ad').run P w=.ok u' w ∧ VR K u' u ∧ s'.h=s.h ∧ s'.c=s.c:=by
 obtain ⟨i,hi,h⟩:=a2c h
 unfold loadVar
 simp only [Sem.run_bind,b4L hT hi,Result.andThen_ok]
 cases hag:b1x i.und with
 | true=>
   rw [hag] at h
   obtain ⟨_,h⟩:=R4 h
   obtain ⟨vs,s1,h1,h2⟩:=M8 h
   obtain ⟨e1,e2⟩:=J3 h2
   obtain ⟨vs',r1,r2,r3,r4,r5⟩:=b0N (P:=P) h1 S r
   refine ⟨.agg vs'.toArray, ?_, ?_,by rw [e2,r5],by rw [e2,r4]⟩
   · simp [a3j hT hi,r1]
   · rw [e1]; exact .agg (by simpa using r2.len) (by simpa using r2.at_)
 | false=>
   rw [hag] at h
   obtain ⟨vs,s1,h1,h2⟩:=M8 h
   obtain ⟨e1,e2⟩:=J3 h2
   obtain ⟨vs',r1,r2,r3,r4,r5⟩:=b0N (P:=P) h1 S r
   refine ⟨d9 vs' 0, ?_,by rw [e1]; exact r2.lget 0,by rw [e2,r5],by rw [e2,r4]⟩
   obtain ⟨x,rfl⟩:∃ x,vs'=[x]:=by
    match vs',r3 with
    | [x],_=>exact ⟨x,rfl⟩
   have hadd:ad'.add 0=ad':=rfl
   simp only [Bool.false_eq_true,if_false]
   simp only [loadCells,loadCellsFrom,Sem.run_bind,hadd] at r1
   rw [run_load] at r1 ⊢
   cases hc:w.cell? ad' with
   | some y=>rw [hc] at r1; simp at r1; rw [r1]; rfl
   | none=>
     rw [hc] at r1
     cases hf:w.farLoad P ad' (Mode.plain == Mode.atomic) with
     | ok z=>rw [hf] at r1; cases z; simp at r1 ⊢; rw [r1]; rfl
     | error z=>rw [hf] at r1; simp at r1
theorem c0Y (hT:TabOk P T) {t:TypeId} {ad ad':Addr} {u u':Value} {un:Unit} (h:b6B T t ad u s=some (un,s')) (S:Sim B0 w0 K s.h w) (r:VR K (.pointer (some ad')) (.pointer (some ad))) (hu:VR K u' u) :
 ∃ w',(storeVar t ad' u').run P w=.ok () w' ∧ Sim B0 w0 K s'.h w' ∧ s'.c=s.c:=by
 obtain ⟨i,hi,h⟩:=a2c h
 obtain ⟨hg,h⟩:=R4 h
 simp only [Bool.and_eq_true,Bool.not_eq_true',a0m] at hg
 have hn:=Nat.eq_of_beq_eq_true hg.2
 have hc:=hu.cells
 have hpos:0 < u.cells.toList.length:=by
  rcases Nat.eq_zero_or_pos i.size with h0 | h0
  · rw [h0] at hg; simp at hg
  · omega
 obtain ⟨w',r1,r2,r3⟩:=c0D (P:=P) h S hpos r hc
 refine ⟨w', ?_,r2,r3⟩
 have hs:u'.cells.size=i.size:=by rw [← Array.length_toList,hc.len,hn]
 simp [storeVar,a3j hT hi,hs,r1]
end
end Go.V
end
section
namespace Go.V
open Go.RowKit (Below)
section
variable {P:Program} {T:Tab} {B0:Nat} {w0:Base} {w:World} {K:KM} {s s':S} {a:Act} {fr:List Value} {v:Value}
theorem b9u {x:Operand} (h:M.lift (a2H T fr x) s=some (v,s')) (S:Sim B0 w0 K s.h w) (hf:VRL K a.tmps.toList fr) (hg:GK T K) :
 a0R P B0 w0 K s' (pure (Next.value (a.eval x))) w v:=by
 obtain ⟨h1,rfl⟩:=a6g h
 exact ⟨_,w,K,rfl,Step.same S rfl,Or.inl ⟨_,rfl,a0C hf hg h1⟩⟩
theorem c7h {c x y:Operand} (h:b1p T fr c x y s=some (v,s')) (S:Sim B0 w0 K s.h w) (hf:VRL K a.tmps.toList fr) (hg:GK T K) :
 a0R P B0 w0 K s' (do pure (Next.value (if ← asBool (a.eval c) then a.eval x else a.eval y))) w v:=by
 obtain ⟨vc,e1,q0h⟩:=a2J h
 obtain ⟨va,e2,q1h⟩:=a2J q0h
 obtain ⟨vb,e3,q2h⟩:=a2J q1h
 have r1:=a0C hf hg e1
 have r2:=a0C hf hg e2
 have r3:=a0C hf hg e3
 cases vc with
 | bool t=>
   have:=r1.eq_of_plain rfl
   rw [this]
   cases t with
   | true=>
     obtain ⟨rfl,rfl⟩:=J3 q2h
     exact ⟨_,w,K,rfl,Step.same S rfl,Or.inl ⟨_,rfl,r2⟩⟩
   | false=>
     obtain ⟨rfl,rfl⟩:=J3 q2h
     exact ⟨_,w,K,rfl,Step.same S rfl,Or.inl ⟨_,rfl,r3⟩⟩
 | _=>exact absurd q2h (by intro q; cases q)
theorem c5Y (hT:TabOk P T) {t:TypeId} {x:Operand} (h:b1j T fr t x s=some (v,s')) (S:Sim B0 w0 K s.h w) (hf:VRL K a.tmps.toList fr) (hg:GK T K) :
 a0R P B0 w0 K s' (do pure (Next.value (← Instr.loadAt t (a.eval x)))) w v:=by
 obtain ⟨vx,e1,q3h⟩:=a2J h
 obtain ⟨ad,rfl,q4h⟩:=a6M q3h
 obtain ⟨ad',e2,r⟩:=a8r (a0C hf hg e1)
 obtain ⟨u',r1,r2,r3,r4⟩:=b4w hT q4h S r
 refine a0R.quiet S r3 ?_ r2
 rw [e2]
 simp [Instr.loadAt,Instr.sureAddr,r1]
theorem c2Q (hT:TabOk P T) {t:TypeId} {x y:Operand} (h:a9Y T fr t x y s=some (v,s')) (S:Sim B0 w0 K s.h w) (hf:VRL K a.tmps.toList fr) (hg:GK T K) :
 a0R P B0 w0 K s' (do Instr.storeAt t (a.eval x) (a.eval y); pure Next.skip) w v:=by
 obtain ⟨vx,e1,q5h⟩:=a2J h
 obtain ⟨vy,e2,q6h⟩:=a2J q5h
 obtain ⟨ad,rfl,q7h⟩:=a6M q6h
 obtain ⟨un,s1,h1,h2⟩:=M8 q7h
 obtain ⟨rfl,rfl⟩:=J3 h2
 obtain ⟨ad',e3,r⟩:=a8r (a0C hf hg e1)
 obtain ⟨w',r1,r2,r3⟩:=c0Y hT h1 S r (a0C hf hg e2)
 refine ⟨.skip,w',K, ?_,⟨KM.le_refl K,fun _ _ _=>rfl,r2⟩,Or.inr ⟨rfl,rfl⟩⟩
 rw [e3]
 simp [Instr.storeAt,Instr.sureAddr,r1]
theorem a8R {vs vs':List Value} {ad:Addr} (h:a2q vs s=some (ad,s')) (S:Sim B0 w0 K s.h w) (F:a2S K s s') (hv:VRL K vs' vs) (t:TypeId) :
 ∃ K',Step B0 w0 K s' (w.alloc (.cells vs'.toArray t)) K' ∧ K' s.c 0=some ⟨w.heap.size, 0, 0,vs'.length,true⟩ ∧ ad=⟨s.c, 0,some 0⟩:=by
 have:=a6B (w':=w.alloc (.cells vs'.toArray t)) (arr:=vs'.toArray) (e:=t) (fz:=(0, 0)) (rest:=[]) h S F hv (Grew.alloc _ _) (by show (w.heap.push _)[w.heap.size]?=_; simp) (by simp) (fun o _=>by simp)
 simpa using this
theorem c3p (hT:TabOk P T) {t:TypeId} (h:b9l T t s=some (v,s')) (S:Sim B0 w0 K s.h w) (F:a2S K s s') :
 a0R P B0 w0 K s' (do pure (Next.value (← Instr.alloc t true (.tuple #[])))) w v:=by
 obtain ⟨i,hi,q8h⟩:=a2c h
 obtain ⟨hgd,q9h⟩:=R4 q8h
 obtain ⟨ad,s1,h1,h2⟩:=M8 q9h
 obtain ⟨rfl,rfl⟩:=J3 h2
 simp only [Bool.and_eq_true] at hgd
 have hz:VR K i.zero i.zero:=a3h _ _ hgd.1
 obtain ⟨K',r1,r2,rfl⟩:=a8R h1 S F hz.cells t
 refine a0R.step (v':=.pointer (some ⟨w.heap.size, 0,none⟩)) (w':=w.alloc (.cells i.zero.cells t)) ?_ r1 ?_
 · simp [Instr.alloc,a9b hT hi,newVar,newRow]
 · exact VR.ptr (off:=0) r2 (Nat.zero_le _)
theorem c7O {t:TypeId} {x:Operand} (h:b3x T fr x s=some (v,s')) (S:Sim B0 w0 K s.h w) (F:a2S K s s') (hf:VRL K a.tmps.toList fr) (hg:GK T K) :
 a0R P B0 w0 K s' (do pure (Next.value (← Instr.box t (a.eval x)))) w v:=by
 obtain ⟨vx,e1,q10h⟩:=a2J h
 obtain ⟨hgd,q11h⟩:=R4 q10h
 obtain ⟨ad,s1,h1,h2⟩:=M8 q11h
 obtain ⟨rfl,rfl⟩:=J3 h2
 obtain ⟨K',r1,r2,rfl⟩:=a8R h1 S F (a0C hf hg e1).cells t
 refine a0R.step (v':=.pointer (some ⟨w.heap.size, 0,none⟩)) (w':=w.alloc (.cells (a.eval x).cells t)) ?_ r1 ?_
 · simp [Instr.box,newVar,newRow]
 · exact VR.ptr (off:=0) r2 (Nat.zero_le _)
theorem b6j (hT:TabOk P T) {t:TypeId} {x:Operand} {f:Nat} (h:a7c T fr t x f s=some (v,s')) (S:Sim B0 w0 K s.h w) (hf:VRL K a.tmps.toList fr) (hg:GK T K) :
 a0R P B0 w0 K s' (do pure (Next.value (← Instr.fieldAt t (a.eval x) f))) w v:=by
 obtain ⟨vx,e1,q12h⟩:=a2J h
 obtain ⟨d,hd,q13h⟩:=a2c q12h
 generalize hu:d.und=u at q13h
 cases u with
 | struct fields=>
   obtain ⟨ad,rfl,q14h⟩:=a6M q13h
   obtain ⟨fd,e2,q15h⟩:=U4 q14h
   obtain ⟨n,hn,q16h⟩:=a2c q15h
   obtain ⟨hgd,q17h⟩:=R4 q16h
   obtain ⟨rfl,rfl⟩:=J3 q17h
   obtain ⟨ad',e3,r⟩:=a8r (a0C hf hg e1)
   rw [a4H] at e2
   have e2':fields[f]?=some fd:=by simpa using e2
   have hn0:¬ n.size=0:=b2V hgd
   refine a0R.quiet S rfl ?_ (r.fwd fd.offset)
   rw [e3]
   simp [Instr.fieldAt,a2x hT hd,hu,e2',Instr.sureAddr,fieldPlace,a3j hT hn,hn0]
 | _=>exact absurd q13h (by intro q; cases q)
theorem a5D {x':Value} {o:Option Addr} {len es:Nat} (r:VR K x' (.slice o len es)) :
 (∃ ad ad' cap,o=some ad ∧ x'=.slice (some ad') len cap ∧ len ≤ cap ∧ VR K (.slice (some ad') len cap) (.slice (some ad) len es) ∧ 0 < es ∧ ad'.spot=none ∧
   (0 < cap → VR K (.pointer (some ad')) (.pointer (some ad)))) ∨ (o=none ∧ len=0 ∧ es=0 ∧ x'=.slice none 0 0):=by
 generalize hv:Value.slice o len es=x at r
 cases r with
 | plain hp=>
   subst hv
   simp [V.plain] at hp
   obtain ⟨⟨rfl,h1⟩,h2⟩:=hp
   exact Or.inr ⟨rfl,h1,h2,by rw [h1,h2]⟩
 | @slice b g off len' cap es' l a' hk hl hes hlc hsp hor=>
   cases hv
   refine Or.inl ⟨_,a',cap,rfl,rfl,hlc,.slice hk hl hes hlc hsp hor,hes,hsp,fun hc=>?_⟩
   rcases hor with h0 | ⟨h1,h2,h3⟩
   · omega
   · have:a'=⟨l.blk,l.at_ + (off - l.lo),none⟩:=by
      obtain ⟨x,y,z⟩:=a'
      simp only at h1 h2 hsp
      rw [h1,h2,hsp]
     rw [this]
     exact .ptr hk hl
 | _=>cases hv
theorem a7y {x:Value} {n:Nat} (h:a8i x=some n):∃ k,x=.int k (Int.ofNat n):=by
 cases x with
 | int k m=>cases m with
   | ofNat m=>cases h; exact ⟨k,rfl⟩
   | negSucc m=>cases h
 | _=>cases h
theorem b7v (hT:TabOk P T) {t:TypeId} {x y:Operand} (h:a7g T fr t x y s=some (v,s')) (S:Sim B0 w0 K s.h w) (hf:VRL K a.tmps.toList fr) (hg:GK T K) :
 a0R P B0 w0 K s' (do pure (Next.value (← Instr.indexAt t (a.eval x) (a.eval y)))) w v:=by
 obtain ⟨vx,e1,q18h⟩:=a2J h
 obtain ⟨vy,e2,q19h⟩:=a2J q18h
 obtain ⟨d,hd,q20h⟩:=a2c q19h
 obtain ⟨i,hi,q21h⟩:=U4 q20h
 obtain ⟨k,rfl⟩:=a7y hi
 have ey:a.eval y=.int k (Int.ofNat i):=(a0C hf hg e2).eq_of_plain rfl
 rw [ey]
 generalize hu:d.und=u at q21h
 cases u with
 | array len elem=>
   obtain ⟨ad,rfl,q22h⟩:=a6M q21h
   obtain ⟨e,he,q23h⟩:=a2c q22h
   obtain ⟨hgd,q24h⟩:=R4 q23h
   obtain ⟨rfl,rfl⟩:=J3 q24h
   obtain ⟨ad',e3,r⟩:=a8r (a0C hf hg e1)
   simp only [Bool.and_eq_true] at hgd
   have hlt:i < len:=by simpa [Nat.blt_eq] using hgd.1
   refine a0R.quiet S rfl ?_ (r.fwd (i * e.size))
   rw [e3]
   simp [Instr.indexAt,asIntOf,a2x hT hd,hu,Instr.sureAddr,hlt,a3j hT he]
 | slice elem=>
   cases vx with
   | slice o len es=>
     obtain ⟨ad,rfl,q25h⟩:=U4 q21h
     obtain ⟨e,he,q26h⟩:=a2c q25h
     obtain ⟨hg1,q27h⟩:=R4 q26h
     obtain ⟨e',he',q28h⟩:=a2c q27h
     rw [he] at he'; cases he'
     obtain ⟨hgd,q29h⟩:=R4 q28h
     obtain ⟨rfl,rfl⟩:=J3 q29h
     simp only [Bool.and_eq_true] at hgd
     have hlt:i < len:=by simpa [Nat.blt_eq] using hgd.1
     rcases a5D (a0C hf hg e1) with ⟨ad1,ad',cap,q1,q2,q3,q4,q5,q6,q7⟩ | ⟨q1,_⟩
     · cases q1
       have r:=q7 (by omega)
       refine a0R.quiet S rfl ?_ (r.fwd (i * e.size))
       rw [q2]
       simp [Instr.indexAt,asIntOf,a2x hT hd,hu,hlt,a3j hT he]
     · cases q1
   | _=>exact absurd q21h (by intro q; cases q)
 | _=>exact absurd q21h (by intro q; cases q)
theorem VRL.get? {l' l:List Value} (h:VRL K l' l) {i:Nat} {x:Value} (e:l[i]?=some x):∃ x',l'[i]?=some x' ∧ VR K x' x:=by
 have hi:i < l.length:=(List.getElem?_eq_some_iff.1 e).1
 have hi':i < l'.length:=by rw [h.len]; exact hi
 exact ⟨l'[i],List.getElem?_eq_getElem hi',h.at_ i _ _ (List.getElem?_eq_getElem hi') e⟩
theorem b6I (hT:TabOk P T) {t:TypeId} {cs' cs:List Value} {off:Nat} {u:Value} (h:partV T t cs off s=some (u,s')) (hc:VRL K cs' cs) (w:World) :
 ∃ u',(part t cs'.toArray off).run P w=.ok u' w ∧ VR K u' u ∧ s'=s:=by
 obtain ⟨i,hi,q30h⟩:=a2c h
 unfold part
 simp only [Sem.run_bind,b4L hT hi,Result.andThen_ok]
 cases hag:b1x i.und with
 | true=>
   rw [hag] at q30h
   obtain ⟨rfl,rfl⟩:=J3 q30h
   refine ⟨.agg ((cs'.drop off).take i.size).toArray, ?_, ?_,rfl⟩
   · simp only [if_true,Sem.run_bind,a3j hT hi,Result.andThen_ok,Sem.run_pure]
     congr 2
     apply Array.ext'
     simp [List.extract]
   · rw [b0z,a6h]
     have:=(hc.drop off).take i.size
     exact .agg (by simpa using this.len) (by simpa using this.at_)
 | false=>
   rw [hag] at q30h
   obtain ⟨x,hx,q31h⟩:=U4 q30h
   obtain ⟨rfl,rfl⟩:=J3 q31h
   rw [a4H] at hx
   obtain ⟨x',q1,q2⟩:=hc.get? hx
   exact ⟨x',by simp [q1],q2,rfl⟩
theorem c2p {x':Value} {cs:Array Value} (r:VR K x' (.agg cs)):∃ cs',x'=.agg cs' ∧ VRL K cs'.toList cs.toList:=by
 generalize hv:Value.agg cs=x at r
 cases r with
 | plain hp=>subst hv; simp [V.plain] at hp
 | agg hl ih=>cases hv; exact ⟨_,rfl,⟨hl,ih⟩⟩
 | _=>cases hv
theorem c4c {x':Value} {cs:Array Value} (r:VR K x' (.tuple cs)):∃ cs',x'=.tuple cs' ∧ VRL K cs'.toList cs.toList:=by
 generalize hv:Value.tuple cs=x at r
 cases r with
 | plain hp=>subst hv; simp [V.plain] at hp
 | tuple hl ih=>cases hv; exact ⟨_,rfl,⟨hl,ih⟩⟩
 | _=>cases hv
theorem c4t (hT:TabOk P T) {t:TypeId} {x:Operand} {f:Nat} (h:b0f T fr t x f s=some (v,s')) (S:Sim B0 w0 K s.h w) (hf:VRL K a.tmps.toList fr) (hg:GK T K) :
 a0R P B0 w0 K s' (do pure (Next.value (← Instr.field t (a.eval x) f))) w v:=by
 obtain ⟨vx,e1,q32h⟩:=a2J h
 obtain ⟨d,hd,q33h⟩:=a2c q32h
 generalize hu:d.und=u at q33h
 cases u with
 | struct fields=>
   cases vx with
   | agg cs=>
     obtain ⟨fd,e2,q34h⟩:=U4 q33h
     obtain ⟨cs',e3,r⟩:=c2p (a0C hf hg e1)
     obtain ⟨u',q1,q2,rfl⟩:=b6I hT q34h r w
     rw [a4H] at e2
     have e2':fields[f]?=some fd:=by simpa using e2
     refine a0R.quiet S rfl ?_ q2
     rw [e3]
     simp [Instr.field,a2x hT hd,hu,e2',asAgg] at q1 ⊢
     exact q1
   | _=>exact absurd q33h (by intro q; cases q)
 | _=>exact absurd q33h (by intro q; cases q)
theorem b9Y {x:Operand} {i:Nat} (h:a8v T fr x i s=some (v,s')) (S:Sim B0 w0 K s.h w) (hf:VRL K a.tmps.toList fr) (hg:GK T K) :
 a0R P B0 w0 K s' (do pure (Next.value (← Instr.extract (a.eval x) i))) w v:=by
 obtain ⟨vx,e1,q35h⟩:=a2J h
 split at q35h
 · rename_i cs
   obtain ⟨y,e2,q36h⟩:=U4 q35h
   obtain ⟨rfl,rfl⟩:=J3 q36h
   rw [a4H] at e2
   obtain ⟨cs',e3,r⟩:=c4c (a0C hf hg e1)
   obtain ⟨y',q1,q2⟩:=r.get? e2
   have q1':cs'[i]?=some y':=by simpa using q1
   refine a0R.quiet S rfl ?_ q2
   rw [e3]
   simp [Instr.extract,q1']
 · cases q35h
theorem b9a {o:Oper} {x:Operand} (ho:o.op=.nilCheck x) (h:a7I T fr x s=some (v,s')) (S:Sim B0 w0 K s.h w) (hf:VRL K a.tmps.toList fr) (hg:GK T K) :
 a0R P B0 w0 K s' (execOp a.eval o) w v:=by
 obtain ⟨o1,o2,o3,o4,o5,o6⟩:=o
 cases ho
 unfold execOp
 simp only
 obtain ⟨vx,e1,q37h⟩:=a2J h
 have r:=a0C hf hg e1
 split at q37h
 · rename_i o
   obtain ⟨hgd,q38h⟩:=R4 q37h
   obtain ⟨rfl,rfl⟩:=J3 q38h
   cases o with
   | none=>cases hgd
   | some ad=>
     obtain ⟨ad',e2,r'⟩:=a8r r
     rw [e2]
     exact ⟨_,w,K,rfl,Step.same S rfl,Or.inl ⟨_,rfl,r'⟩⟩
 · rename_i fn x1 x2
   obtain ⟨hgd,q39h⟩:=R4 q37h
   obtain ⟨rfl,rfl⟩:=J3 q39h
   cases fn with
   | func f=>
     generalize hv:Value.func (Fn.func f) x1 x2=y at r
     generalize hx:a.eval x=y' at r
     cases r with
     | plain hp=>subst hv; simp [V.plain] at hp
     | func h1 h2 h3 h4=>
       cases hv
       exact ⟨_,w,K,rfl,Step.same S rfl,Or.inl ⟨_,rfl,.func h1 h2 h3 h4⟩⟩
     | _=>cases hv
   | _=>cases hgd
 · cases q37h
theorem c2T (hT:TabOk P T) {t:TypeId} {x:Operand} (h:a9V T fr t x s=some (v,s')) (S:Sim B0 w0 K s.h w) (hf:VRL K a.tmps.toList fr) (hg:GK T K) :
 a0R P B0 w0 K s' (do pure (Next.value (← Instr.makeInterface t (a.eval x)))) w v:=by
 obtain ⟨vx,e1,q40h⟩:=a2J h
 obtain ⟨d,hd,q41h⟩:=a2c q40h
 obtain ⟨hgd,q42h⟩:=R4 q41h
 obtain ⟨rfl,rfl⟩:=J3 q42h
 refine a0R.quiet S rfl ?_ (.iface (a0C hf hg e1))
 unfold Instr.makeInterface
 simp only [Sem.run_bind,a2x hT hd,Result.andThen_ok]
 cases hu:d.und <;> first | rfl | (rw [hu] at hgd; cases hgd)
theorem c6L {fn:Fn} {x y:Array Operand} (h:b0T T fr fn x y s=some (v,s')) (S:Sim B0 w0 K s.h w) (hf:VRL K a.tmps.toList fr) (hg:GK T K) :
 a0R P B0 w0 K s' (do pure (Next.value (← Instr.makeFunc fn (x.map a.eval) (y.map a.eval)))) w v:=by
 obtain ⟨va,e1,q43h⟩:=a6U h
 obtain ⟨vb,e2,q44h⟩:=a6U q43h
 obtain ⟨rfl,rfl⟩:=J3 q44h
 have r1:=a6E hf hg e1
 have r2:=a6E hf hg e2
 exact a0R.quiet S rfl rfl (.func (by simpa using r1.len) (by simpa using r1.at_) (by simpa using r2.len) (by simpa using r2.at_))
end
end Go.V
end
section
namespace Go.V
open Go.RowKit (Below)
theorem b4u (off:Nat):∀ (l:List Value) (k0:Nat) (cells:Array Value),off + k0 + l.length ≤ cells.size →
 ((l.zipIdx k0).foldl (fun acc x=>acc.setIfInBounds (off + x.2) x.1) cells).size=cells.size ∧
 ∀ k,((l.zipIdx k0).foldl (fun acc x=>acc.setIfInBounds (off + x.2) x.1) cells)[k]?=if off + k0 ≤ k ∧ k < off + k0 + l.length then l[k - (off + k0)]? else cells[k]?
 | [],k0,cells,_=>⟨rfl,fun k=>by rw [if_neg (by simp)]; rfl⟩
 | v :: l,k0,cells,h=>by
   have h':off + (k0 + 1) + l.length ≤ (cells.setIfInBounds (off + k0) v).size:=by simp at h ⊢; omega
   obtain ⟨h1,h2⟩:=b4u off l (k0 + 1) (cells.setIfInBounds (off + k0) v) h'
   simp only [List.zipIdx_cons,List.foldl_cons]
   refine ⟨by rw [h1]; simp,fun k=>?_⟩
   rw [h2 k]
   simp only [List.length_cons] at h ⊢
   by_cases hk:k=off + k0
   · subst hk
     rw [if_neg (by omega),if_pos (by omega),Array.getElem?_setIfInBounds,if_pos rfl,if_pos (by omega),Nat.sub_self]; rfl
   · by_cases hk2:off + k0 ≤ k ∧ k < off + k0 + (l.length + 1)
     · rw [if_pos (by omega),if_pos hk2,show k - (off + k0)=(k - (off + (k0 + 1))) + 1 by omega]; simp
     · rw [if_neg (by omega),if_neg hk2,Array.getElem?_setIfInBounds,if_neg (fun q=>hk q.symm)]
theorem b5d:∀ (vs cs:List Value) (k:Nat),(a6K vs cs)[k]?=if k < vs.length ∧ k < cs.length then vs[k]? else cs[k]?:=by
 intro vs
 induction vs with
 | nil=>intro cs k; rfl
 | cons v vs ih=>
   intro cs k
   cases cs with
   | nil=>show ([]:List Value)[k]?=_; simp
   | cons c cs=>
     show (v :: a6K vs cs)[k]?=_
     cases k with
     | zero=>simp
     | succ k=>simp [ih]
theorem a9v (vs:List Value):∀ (cs:List Value) (off k:Nat),(a4E vs cs off)[k]?=if off ≤ k ∧ k < off + vs.length ∧ k < cs.length then vs[k - off]? else cs[k]?:=by
 intro cs
 induction cs with
 | nil=>intro off k; show ([]:List Value)[k]?=_; simp
 | cons c cs ih=>
   intro off k
   cases off with
   | zero=>show (a6K vs (c :: cs))[k]?=_; rw [b5d]; simp
   | succ off=>
     show (c :: a4E vs cs off)[k]?=_
     cases k with
     | zero=>simp
     | succ k=>
       simp only [List.getElem?_cons_succ,ih,List.length_cons]
       by_cases hk:off ≤ k ∧ k < off + vs.length ∧ k < cs.length
       · rw [if_pos hk,if_pos (by omega),show k + 1 - (off + 1)=k - off by omega]
       · rw [if_neg hk,if_neg (by omega)]
theorem b0M (vs:List Value):∀ (cs:List Value) (off:Nat),(a4E vs cs off).length=cs.length:=by
 intro cs off
 apply Nat.le_antisymm
 · rcases Nat.lt_or_ge cs.length (a4E vs cs off).length with h | h
   · have:=a9v vs cs off cs.length
     rw [if_neg (by omega),List.getElem?_eq_none (Nat.le_refl _),List.getElem?_eq_getElem h] at this
     cases this
   · exact h
 · rcases Nat.lt_or_ge (a4E vs cs off).length cs.length with h | h
   · have h1:=a9v vs cs off (a4E vs cs off).length
     rw [List.getElem?_eq_none (Nat.le_refl _)] at h1
     by_cases hk:off ≤ (a4E vs cs off).length ∧ (a4E vs cs off).length < off + vs.length ∧ (a4E vs cs off).length < cs.length
     · rw [if_pos hk,List.getElem?_eq_getElem (by omega)] at h1; cases h1
     · rw [if_neg hk,List.getElem?_eq_getElem h] at h1; cases h1
   · exact h
theorem b2k {K:KM} {ρ:Operand → Value} (place:Nat → Option (Nat × Nat)):∀ (qs:List (Nat × Operand)) (vs cs cs2 cs':List Value),
 b0I place qs vs cs=some cs2 → VRL K (qs.map fun q=>ρ q.2) vs → VRL K cs' cs →
 ∃ cs2',Instr.fill place cs'.toArray (qs.map fun q=>(q.1, ρ q.2))=some cs2'.toArray ∧ VRL K cs2' cs2:=by
 intro qs
 induction qs with
 | nil=>intro vs cs cs2 cs' h hv hc; cases h; exact ⟨cs',rfl,hc⟩
 | cons q qs ih=>
   intro vs cs cs2 cs' h hv hc
   cases vs with
   | nil=>have:=hv.len; simp at this
   | cons v vs=>
     have h':(match place q.1 with | none=>none | some os=>match Nat.beq (M4 v.cells.toList) os.2 && Nat.ble (os.1 + os.2) (M4 cs) with | true=>b0I place qs vs (a4E v.cells.toList cs os.1) | false=>none)=some cs2:=h
     cases hp:place q.1 with
     | none=>rw [hp] at h'; cases h'
     | some os=>
       obtain ⟨off,size⟩:=os
       rw [hp] at h'
       dsimp only at h'
       cases hb:Nat.beq (M4 v.cells.toList) size && Nat.ble (off + size) (M4 cs) with
       | false=>rw [hb] at h'; cases h'
       | true=>
         rw [hb] at h'
         simp only [Bool.and_eq_true,a0m] at hb
         have hb1:=Nat.eq_of_beq_eq_true hb.1
         have hb2:=Nat.le_of_ble_eq_true hb.2
         have hvc:=(hv.head).cells
         have hsz:(ρ q.2).cells.size=size:=by rw [← Array.length_toList,hvc.len,hb1]
         have hcs:cs'.length=cs.length:=hc.len
         obtain ⟨f1,f2⟩:=b4u off (ρ q.2).cells.toList 0 cs'.toArray (by simp [hsz]; omega)
         let nc:=(((ρ q.2).cells.toList.zipIdx 0).foldl (fun acc x=>acc.setIfInBounds (off + x.2) x.1) cs'.toArray)
         have hrel:VRL K nc.toList (a4E v.cells.toList cs off):=by
          refine ⟨by rw [b0M]; simpa [nc,hcs] using f1,fun i x' x e e'=>?_⟩
          have g1:nc[i]?=some x':=by simpa using e
          rw [f2 i] at g1
          rw [a9v] at e'
          simp only [Nat.add_zero,Array.length_toList,hsz] at g1
          by_cases hk:off ≤ i ∧ i < off + size
          · rw [if_pos hk] at g1
            rw [if_pos (by rw [hb1]; omega)] at e'
            exact hvc.at_ _ _ _ g1 e'
          · rw [if_neg hk] at g1
            rw [if_neg (by rw [hb1]; omega)] at e'
            exact hc.at_ i x' x (by simpa using g1) e'
         obtain ⟨cs2',r1,r2⟩:=ih vs _ cs2 nc.toList h' hv.tail hrel
         refine ⟨cs2', ?_,r2⟩
         have hcond:¬ (off + size > cs'.length):=by omega
         simp only [List.map_cons,Instr.fill,hp,hsz]
         simp only [ne_eq,not_true_eq_false,decide_false,Bool.false_or,List.size_toArray,hcond]
         rw [← r1]
         congr 1
         rw [← Array.foldl_toList]
         simp [nc,Array.toList_zipIdx]
section
variable {P:Program} {T:Tab} {B0:Nat} {w0:Base} {w:World} {K:KM} {s s':S} {a:Act} {fr:List Value} {v:Value}
theorem b4G (hT:TabOk P T):∀ (fs:List Field),(∀ f ∈ fs,c0A T f=true) →
 ∃ places:List (Nat × Nat),fs.mapM (fun f=>(P.info? f.type).map fun i=>(f.offset,i.size))=some places ∧ ∀ j,places[j]?=a7e T fs j
 | [],_=>⟨[],rfl,fun j=>rfl⟩
 | f :: fs,h=>by
   obtain ⟨places,h1,h2⟩:=b4G hT fs (fun g hg=>h g (List.mem_cons_of_mem _ hg))
   have hf:=h f (List.mem_cons_self ..)
   unfold c0A at hf
   obtain ⟨i,hi⟩:=Option.isSome_iff_exists.1 hf
   obtain ⟨info,g1,_,g3,_⟩:=hT.types _ _ hi
   refine ⟨(f.offset,i.size) :: places,by simp [List.mapM_cons,g1,g3,h1],fun j=>?_⟩
   cases j with
   | zero=>simp [a7e,a4H,hi]
   | succ j=>have:=h2 j; simpa [a7e,a4H] using this
theorem c3U (hT:TabOk P T) {t:TypeId} {ps:Array (Nat × Operand)} (h:a9G T fr t ps s=some (v,s')) (S:Sim B0 w0 K s.h w) (hf:VRL K a.tmps.toList fr) (hg:GK T K) :
 a0R P B0 w0 K s' (do pure (Next.value (← Instr.build t (ps.map fun (i,x)=>(i,a.eval x))))) w v:=by
 obtain ⟨vs,e1,h1⟩:=a6U h
 obtain ⟨i,hi,h2⟩:=a2c h1
 obtain ⟨hz,h3⟩:=R4 h2
 obtain ⟨info,g1,g2,g3,g4,g5,g6⟩:=hT.types t i hi
 have hzz:VRL K i.zero.cells.toList i.zero.cells.toList:=(a3h (K:=K) _ _ hz).cells
 rw [a3X] at e1
 have hv:=a6E hf hg e1
 have hv':VRL K (ps.toList.map fun q=>a.eval q.2) vs:=by rw [List.map_map] at hv; exact hv
 have hparts:(ps.map fun (i,x)=>(i,a.eval x)).toList=ps.toList.map fun q=>(q.1,a.eval q.2):=by simp
 generalize hu:i.und=u at h3
 cases u with
 | struct fields=>
   obtain ⟨hfs,h4⟩:=R4 h3
   obtain ⟨cs,hcs,h5⟩:=U4 h4
   obtain ⟨rfl,rfl⟩:=J3 h5
   rw [a1a] at hfs
   obtain ⟨places,p1,p2⟩:=b4G hT fields.toList hfs
   obtain ⟨cs2',r1,r2⟩:=b2k (ρ:=a.eval) _ ps.toList vs _ cs _ hcs hv' hzz
   refine a0R.quiet (v':=.agg cs2'.toArray) S rfl ?_ (.agg (by simpa using r2.len) (by simpa using r2.at_))
   apply run_build
   unfold Program.built
   rw [g1,g2,hu,hparts]
   have hpl:(fun x=>places.toArray[x]?)=a7e T fields.toList:=by funext j; rw [← p2 j]; simp
   simp only [g5,p1,hpl]
   simpa using r1
 | array n elem=>
   obtain ⟨e,he,h4⟩:=a2c h3
   obtain ⟨cs,hcs,h5⟩:=U4 h4
   obtain ⟨rfl,rfl⟩:=J3 h5
   obtain ⟨einfo,k1,_,k3,_⟩:=hT.types elem e he
   obtain ⟨cs2',r1,r2⟩:=b2k (ρ:=a.eval) _ ps.toList vs _ cs _ hcs hv' hzz
   refine a0R.quiet (v':=.agg cs2'.toArray) S rfl ?_ (.agg (by simpa using r2.len) (by simpa using r2.at_))
   apply run_build
   unfold Program.built
   rw [g1,g2,hu,hparts]
   simp only [g5,k1,k3]
   have:(fun i:Nat=>some (i * e.size,e.size))=a5O e.size:=rfl
   rw [this]
   simpa using r1
 | _=>exact absurd h3 (by intro q; cases q)
theorem a8j (zs:List Value) (n:Nat):(a6f zs n).length=n * zs.length:=by
 induction n with
 | zero=>show ([]:List Value).length=_; simp
 | succ n ih=>show (M6 zs (a6f zs n)).length=_; rw [M7,List.length_append,ih]; rw [Nat.succ_mul]; omega
theorem c4j (zs:List Value):∀ (n k:Nat),k < n * zs.length → (a6f zs n)[k]?=zs[k % zs.length]?:=by
 intro n
 induction n with
 | zero=>intro k h; simp at h
 | succ n ih=>
   intro k h
   show (M6 zs (a6f zs n))[k]?=_
   rw [M7]
   by_cases hk:k < zs.length
   · rw [List.getElem?_append_left hk,Nat.mod_eq_of_lt hk]
   · rw [List.getElem?_append_right (by omega),ih _ (by rw [Nat.succ_mul] at h; omega)]
     rw [Nat.mod_eq_sub_mod (Nat.le_of_not_lt hk)]
theorem b2q (z:Array Value) (n:Nat) (hz:0 < z.size):((Array.range (n * z.size)).map (fun i=>z[i % z.size]!)).toList=a6f z.toList n:=by
 apply List.ext_getElem?
 intro k
 by_cases hk:k < n * z.size
 · rw [c4j _ n k (by simpa using hk)]
   have hm:k % z.size < z.size:=Nat.mod_lt _ hz
   simp [hk,hm]
 · rw [List.getElem?_eq_none (by simp; omega),List.getElem?_eq_none (by rw [a8j]; simp; omega)]
theorem VRL.repl {zs:List Value} (h:VRL K zs zs) (n:Nat):VRL K (a6f zs n) (a6f zs n):=by
 induction n with
 | zero=>exact VRL.nil K
 | succ n ih=>show VRL K (M6 zs (V.a6f zs n)) (M6 zs (V.a6f zs n)); rw [M7]; exact h.append ih
theorem b5h (hT:TabOk P T) {t:TypeId} {len:Nat} {ps:Array (Nat × Operand)} (h:a6A T fr t len ps s=some (v,s')) (S:Sim B0 w0 K s.h w) (F:a2S K s s') (hf:VRL K a.tmps.toList fr) (hg:GK T K) :
 a0R P B0 w0 K s' (do pure (Next.value (← Instr.buildSlice t len (ps.map fun (i,x)=>(i,a.eval x))))) w v:=by
 obtain ⟨vs,e1,h1⟩:=a6U h
 obtain ⟨d,hd,h2⟩:=a2c h1
 rw [a3X] at e1
 have hv:=a6E hf hg e1
 have hv':VRL K (ps.toList.map fun q=>a.eval q.2) vs:=by rw [List.map_map] at hv; exact hv
 have hparts:(ps.map fun (i,x)=>(i,a.eval x)).toList=ps.toList.map fun q=>(q.1,a.eval q.2):=by simp
 generalize hu:d.und=u at h2
 cases u with
 | slice elem=>
   obtain ⟨e,he,h3⟩:=a2c h2
   obtain ⟨hgd,h4⟩:=R4 h3
   obtain ⟨cs,hcs,h5⟩:=U4 h4
   obtain ⟨ad,s1,h6,h7⟩:=M8 h5
   obtain ⟨rfl,rfl⟩:=J3 h7
   simp only [Bool.and_eq_true] at hgd
   obtain ⟨⟨⟨q1,q2⟩,q3⟩,q4⟩:=hgd
   have q2:=b2V q2
   have q4:=Nat.le_of_ble_eq_true q4
   obtain ⟨info,g1,g2,g3,g4,g5,g6⟩:=hT.types elem e he
   have hzz:VRL K e.zero.cells.toList e.zero.cells.toList:=(a3h (K:=K) _ _ q3).cells
   obtain ⟨cs2',r1,r2⟩:=b2k (ρ:=a.eval) _ ps.toList vs _ cs _ hcs hv' (hzz.repl len)
   obtain ⟨K',k1,k2,rfl⟩:=a8R h6 S F r2 elem
   have hlen:cs2'.length=len * e.size:=by
    have:∀ (qs:List (Nat × Operand)) vs cs cs2,b0I (a5O e.size) qs vs cs=some cs2 → cs2.length=cs.length:=by
     intro qs
     induction qs with
     | nil=>intro vs cs cs2 h; cases h; rfl
     | cons q qs ih=>
       intro vs cs cs2 h
       cases vs with
       | nil=>cases h
       | cons v vs=>
         have h':(match Nat.beq (M4 v.cells.toList) e.size && Nat.ble (q.1 * e.size + e.size) (M4 cs) with | true=>b0I (a5O e.size) qs vs (a4E v.cells.toList cs (q.1 * e.size)) | false=>none)=some cs2:=h
         split at h'
         · rw [ih _ _ _ h',b0M]
         · cases h'
    rw [r2.len,this _ _ _ _ hcs,a8j,Array.length_toList,g6]
   refine a0R.step (v':=.slice (some ⟨w.heap.size, 0,none⟩) len len) (w':=w.alloc (.cells cs2'.toArray elem)) ?_ k1 ?_
   · have hsm:¬ len * e.size > 2 ^ 24:=by omega
     by_cases h0:len * e.size=0
     · have hl0:len=0:=by
        rcases Nat.mul_eq_zero.1 h0 with h | h
        · exact h
        · exact absurd h q2
       subst hl0
       simp only [Instr.buildSlice,Sem.run_bind,a2x hT hd,hu,Result.andThen_ok,a3j hT he,hparts]
       have hr:(fun i=>some (i * e.size,e.size))=a5O e.size:=rfl
       have r1':Instr.fill (a5O e.size) #[] (List.map (fun q=>(q.fst,a.eval q.snd)) ps.toList)=some cs2'.toArray:=r1
       have hr0:Array.range 0=#[]:=rfl
       simp [hr,newRow,hr0,r1']
     · have hr:(fun i=>some (i * e.size,e.size))=a5O e.size:=rfl
       have:=run_buildSlice w t elem len (ps.map fun (i,x)=>(i,a.eval x)) cs2'.toArray info e.zero (by rw [← hu]; exact (hT.types t d hd).choose_spec.2.1) g1 g5 (by rw [g3]; exact hsm) (by rw [g3]; exact h0)
        (by
          rw [g3,hr,hparts, ← r1]
          congr 1
          apply Array.ext'
          have hz:=b2q e.zero.cells len (by rw [g6]; omega)
          rw [g6] at hz
          simpa [g6] using hz)
       exact this
   · refine VR.slice (off:=0) k2 (Nat.zero_le _) (by omega) (Nat.le_refl _) rfl ?_
     refine Or.inr ⟨rfl,rfl,fun _=>?_⟩
     dsimp only
     rw [hlen]; omega
 | _=>exact absurd h2 (by intro q; cases q)
end
end Go.V
end
section
namespace Go.V
open Go.RowKit (Below)
section
variable {P:Program} {T:Tab} {B0:Nat} {w0:Base} {w:World} {K:KM} {s s':S} {a:Act} {fr:List Value} {v:Value}
theorem b3g (n:Nat) (h:n < 9223372036854775808):IntKind.i64.wrap (Int.ofNat n)=Int.ofNat n:=by
 unfold IntKind.wrap
 have e1:(2 ^ IntKind.i64.bits:Int)=18446744073709551616:=rfl
 have e2:(2 ^ (IntKind.i64.bits - 1):Int)=9223372036854775808:=rfl
 rw [e1,e2]
 have:(Int.ofNat n) % 18446744073709551616=Int.ofNat n:=Int.emod_eq_of_lt (by simp) (by have:(Int.ofNat n)=(n:Int):=rfl; omega)
 rw [this]
 simp only [Int.ofNat_eq_natCast]
 rw [if_neg (by simp; omega)]
theorem c2V (zs:List Value) (m n:Nat):a6f zs (m + n)=a6f zs m ++ a6f zs n:=by
 induction m with
 | zero=>rw [Nat.zero_add]; rfl
 | succ m ih=>
   rw [show m + 1 + n=(m + n) + 1 by omega]
   show M6 zs (a6f zs (m + n))=M6 zs (a6f zs m) ++ a6f zs n
   rw [M7,M7,ih,List.append_assoc]
theorem c6U (hT:TabOk P T) {t:TypeId} {x y:Operand} (h:b0S T fr t x y s=some (v,s')) (S:Sim B0 w0 K s.h w) (F:a2S K s s') (hf:VRL K a.tmps.toList fr) (hg:GK T K) :
 a0R P B0 w0 K s' (do pure (Next.value (← Instr.makeSlice t (a.eval x) (a.eval y)))) w v:=by
 obtain ⟨vx,e1,h1⟩:=a2J h
 obtain ⟨vy,e2,h2⟩:=a2J h1
 obtain ⟨d,hd,h3⟩:=a2c h2
 generalize hu:d.und=u at h3
 cases u with
 | slice elem=>
   obtain ⟨e,he,h4⟩:=a2c h3
   obtain ⟨l,hl,h5⟩:=U4 h4
   obtain ⟨c,hc,h6⟩:=U4 h5
   obtain ⟨hgd,h7⟩:=R4 h6
   obtain ⟨ad,s1,h8,h9⟩:=M8 h7
   obtain ⟨rfl,rfl⟩:=J3 h9
   obtain ⟨k1,rfl⟩:=a7y hl
   obtain ⟨k2,rfl⟩:=a7y hc
   have ex:a.eval x=.int k1 (Int.ofNat l):=(a0C hf hg e1).eq_of_plain rfl
   have ey:a.eval y=.int k2 (Int.ofNat c):=(a0C hf hg e2).eq_of_plain rfl
   simp only [Bool.and_eq_true] at hgd
   obtain ⟨⟨⟨⟨⟨q1,q2⟩,q3⟩,q4⟩,q5⟩,q6⟩:=hgd
   have q1:=Nat.le_of_ble_eq_true q1
   have q2:c < 4294967296:=by simpa [Nat.blt_eq,a6w] using q2
   have q3:e.bytes < 4096:=by simpa [Nat.blt_eq] using q3
   have q5:=b2V q5
   obtain ⟨info,g1,g2,g3,g4,g5,g6⟩:=hT.types elem e he
   have hzz:VRL K e.zero.cells.toList e.zero.cells.toList:=(a3h (K:=K) _ _ q6).cells
   have hzpos:0 < e.zero.cells.size:=by rw [g6]; omega
   let arr:Array Value:=(Array.range (c * e.size)).map (fun i=>e.zero.cells[i % e.zero.cells.size]!)
   have harr:arr.toList=a6f e.zero.cells.toList c:=by
    have:=b2q e.zero.cells c hzpos
    simpa [arr,g6] using this
   have hsz:arr.size=c * e.size:=by simp [arr]
   obtain ⟨K',r1,r2,rfl⟩:=a6B (w':=w.alloc (.cells arr elem)) (arr:=arr) (e:=elem) (fz:=(0, 0)) (rest:=a6f e.zero.cells.toList (c - l)) h8 S F (hzz.repl l) (Grew.alloc _ _)
    (by show (w.heap.push _)[w.heap.size]?=_; simp) (by rw [harr, ← c2V]; congr 1; omega) (fun o _=>by simp)
   refine a0R.step (v':=.slice (some ⟨w.heap.size, 0,none⟩) l c) (w':=w.alloc (.cells arr elem)) ?_ r1 ?_
   · rw [ex,ey]
     have hb:(e.bytes:Int) * Int.ofNat c < 2 ^ 48:=by
      have h1:e.bytes * c < 4096 * 4294967296:=by
       rcases Nat.eq_zero_or_pos c with h0 | h0
       · subst h0; simp
       · exact Nat.lt_of_lt_of_le (Nat.mul_lt_mul_of_pos_right q3 h0) (Nat.mul_le_mul_left _ (by omega))
      have:(e.bytes:Int) * Int.ofNat c=((e.bytes * c:Nat):Int):=by simp
      rw [this]; omega
     have hb':¬ ((e.bytes:Int) * (c:Int) > 281474976710656):=by
      have:(e.bytes:Int) * Int.ofNat c=(e.bytes:Int) * (c:Int):=rfl
      omega
     simp only [Instr.makeSlice,Sem.run_bind,a2x hT hd,hu,Result.andThen_ok,asInt,asIntOf,Sem.run_pure,typeInfo,run_program,g1,b3g l (by omega),b3g c (by omega),g4]
     have hcond:(decide (Int.ofNat c < 0) || decide ((e.bytes:Int) * Int.ofNat c > 2 ^ 48) || decide (Int.ofNat l < 0) || decide (Int.ofNat l > Int.ofNat c))=false:=by
      simp only [Bool.or_eq_false_iff,decide_eq_false_iff_not]
      refine ⟨⟨⟨?_, ?_⟩, ?_⟩, ?_⟩ <;> simp only [Int.ofNat_eq_natCast,Int.reducePow] at * <;> omega
     simp only [hcond,Bool.false_eq_true,if_false,run_askRoom,Sem.run_bind,Result.andThen_ok,a3j hT he]
     have hfin:∀ z:Array Value,(z=e.zero.cells ∨ c * e.size=0) → (Array.range (c * e.size)).map (fun x=>z[x % z.size]!)=arr:=by
      intro z hz
      rcases hz with rfl | h0
      · rfl
      · have hr0:Array.range 0=#[]:=rfl
        simp [h0,arr,hr0]
     simp only [Int.ofNat_eq_natCast,Int.toNat_natCast] at *
     by_cases h0:c * e.size=0
     · rw [if_pos h0]
       simp only [Sem.run_bind,Sem.run_pure,Result.andThen_ok,newRow,run_newObj]
       rw [hfin #[] (Or.inr h0)]
       rfl
     · rw [if_neg h0]
       simp only [Sem.run_bind,a9b hT he,Sem.run_pure,Result.andThen_ok,newRow,run_newObj]
       rw [hfin _ (Or.inl rfl)]
       rfl
   · refine VR.slice (off:=0) r2 (Nat.zero_le _) (by omega) q1 rfl (Or.inr ⟨rfl,rfl,fun _=>?_⟩)
     dsimp only
     rw [hsz]; omega
 | _=>exact absurd h3 (by intro q; cases q)
end
end Go.V
end
