import Derived.Laws.AppendOwn
import Derived.Laws.Tables
import Derived.Great.BuildSlice
import Derived.Test.YtmomonnlmbljoaaGreatDoorPac
section
namespace Go.V
open Go.RowKit (Below)
def KM.put (K:KM) (b g:Nat) (l:Loc):KM:=fun b' g'=>if b'=b∧g'=g then some l else K b' g'
theorem KM.put_same (K:KM) (b g:Nat) (l:Loc):K.put b g l b g=some l:=by simp [KM.put]
theorem KM.put_other (K:KM) {b g b' g':Nat} (l:Loc) (h:¬ (b'=b∧g'=g)):K.put b g l b' g'=K b' g':=by simp [KM.put,h]
theorem KM.le_put (K:KM) {b g:Nat} (l:Loc) (h:K b g=none):K.le (K.put b g l):=fun b' g' l' e=>by
 rw [KM.put_other K l (fun ⟨h1,h2⟩=>by rw [h1,h2,h] at e; cases e)]; exact e
theorem KM.put_inv {K:KM} {b g b' g':Nat} {l l':Loc} (h:K.put b g l b' g'=some l'):(b'=b∧g'=g∧l'=l)∨K b' g'=some l':=by
 unfold KM.put at h
 split at h
 · rename_i q; cases h; exact Or.inl ⟨q.1,q.2,rfl⟩
 · exact Or.inr h
structure Grew (w w':World):Prop where
 os:w'.os=w.os
 tape:w'.tape=w.tape
 output:w'.output=w.output
 size:w.heap.size≤w'.heap.size
 old:∀ k,k<w.heap.size→w'.heap[k]?=w.heap[k]?
theorem Grew.refl (w:World):Grew w w:=⟨rfl,rfl,rfl,Nat.le_refl _,fun _ _=>rfl⟩
theorem Grew.trans {a b c:World} (h:Grew a b) (k:Grew b c):Grew a c:=
 ⟨k.os.trans h.os,k.tape.trans h.tape,k.output.trans h.output,Nat.le_trans h.size k.size,fun i hi=>(k.old i (Nat.lt_of_lt_of_le hi h.size)).trans (h.old i hi)⟩
theorem Grew.alloc (w:World) (o:Obj):Grew w (w.alloc o):=
 ⟨rfl,rfl,rfl,by simp,fun k hk=>RowKit.Below.heap_alloc w o k hk⟩
theorem Grew.drew (w:World):Grew w w.drew:=⟨rfl,rfl,rfl,Nat.le_refl _,fun _ _=>rfl⟩
theorem Grew.cell {w w':World} (h:Grew w w') {a:Addr} (ha:a.block<w.heap.size):w'.cell? a=w.cell? a:=World.cell?_of_block (w:=w) (h.old _ ha)
theorem Grew.frozen {w w':World} (h:Grew w w') {a:Addr} (ha:a.block<w.heap.size):w'.frozen? a=w.frozen? a:=World.frozen?_of_block (w:=w) (h.old _ ha)
theorem Grew.below {w w':World} (h:Grew w w') {B:Nat} (hB:B≤w.heap.size):Below B w w':=⟨h.os,h.tape,h.output,h.size,fun k hk=>h.old k (by omega)⟩
theorem Sim.base {B0:Nat} {w0:Base} {K:KM} {h:Trie VObj} {w:World} (S:Sim B0 w0 K h w):B0≤w.heap.size:=Nat.le_trans S.size0.1 S.below.size
theorem a6E {B0:Nat} {w0:Base} {K:KM} {h:Trie VObj} {w w':World} (S:Sim B0 w0 K h w) (G:Grew w w'):Sim B0 w0 K h w':=by
 refine ⟨S.size0,S.below.trans (G.below S.base),fun b g l q=>⟨Nat.lt_of_lt_of_le (S.dom b g l q) G.size,(S.dom' b g l q).2⟩,S.dom2,S.own,S.apart,S.same, ?_,S.gens, ?_, ?_, ?_,S.gen0⟩
 · intro b g l cs cur ro q1 q2 q3
   obtain ⟨c,e,fz,r1,r2,r3⟩:=S.room b g l cs cur ro q1 q2 q3
   exact ⟨c,e,fz,by rw [G.old _ (S.dom b g l q1)]; exact r1,r2,fun o ho=>by rw [G.frozen (S.dom b g l q1)]; exact r3 o ho⟩
 · intro b cs cur ro g l q1 q2 off v st q3 q4 q5
   obtain ⟨v',r1,r2⟩:=S.cells b cs cur ro g l q1 q2 off v st q3 q4 q5
   exact ⟨v',by rw [G.cell (S.dom b g l q2)]; exact r1,r2⟩
 · intro b es q
   obtain ⟨l,es',clock,r1,r2,r3,r4⟩:=S.map b es q
   exact ⟨l,es',clock,r1,r2,by rw [G.old _ (S.dom b 0 l r1)]; exact r3,r4⟩
 · intro b x pos q
   obtain ⟨l,r1,r2,r3,r4,r5⟩:=S.siter b x pos q
   exact ⟨l,r1,r2,r3,r4,by rw [G.old _ (S.dom b 0 l r1)]; exact r5⟩
theorem MR.mono {K K':KM} (h:K.le K') {a:List MapEntry} {b:List (Value×Value)} (r:MR K a b):MR K' a b:=
 ⟨r.len,fun i e' e q q'=>⟨(r.key i e' e q q').1,(r.key i e' e q q').2.mono h⟩⟩
theorem b4R {B0:Nat} {w0:Base} {K:KM} {h h':Trie VObj} {w:World} (S:Sim B0 w0 K h w) {c:Nat} {l:Loc} {o:VObj}
 (hK:∀ g,K c g=none) (hh:∀ j,h'.get j=if j=c then some o else h.get j) (hl:l.blk<w.heap.size) (hB:B0≤l.blk) (hown:l.own=true)
 (hfresh:∀ b g l',K b g=some l'→l'.blk≠l.blk)
 (hcells:∀ cs cur ro,o=.cells cs cur ro→cur=0∧ro=false∧(∀ x∈cs,x.2=0)∧l.lo=0 ∧
   (∃ a e fz,w.heap[l.blk]?=some (.cells a e fz)∧a.size=l.sz∧∀ o,o<l.sz→w.frozen? ⟨l.blk,o,none⟩=false) ∧
   ∀ (off:Nat) v st,cs[off]?=some (v,st)→∃ v',w.cell? ⟨l.blk,l.at_+off,none⟩=some v'∧VR K v' v)
 (hmap:∀ es,o=.map es→∃ es' clock,w.heap[l.blk]?=some (.map es' clock)∧MR K es'.toList es)
 (hiter:∀ x pos,o=.siter x pos→l.lo=0∧l.at_=0∧w.heap[l.blk]?=some (.stringIter x pos)) :
 Sim B0 w0 (K.put c 0 l) h' w:=by
 have hle:K.le (K.put c 0 l):=KM.le_put K l (hK 0)
 have hc:h'.get c=some o:=by rw [hh,if_pos rfl]
 have hn:∀ j,j≠c→h'.get j=h.get j:=fun j hj=>by rw [hh,if_neg hj]
 have hput:∀ b g l',(K.put c 0 l) b g=some l'→(b=c∧g=0∧l'=l)∨(b≠c∧K b g=some l'):=by
  intro b g l' q
  rcases KM.put_inv q with q | q
  · exact Or.inl q
  · refine Or.inr ⟨fun e=>?_,q⟩
    rw [e,hK] at q; cases q
 refine ⟨S.size0,S.below, ?_, ?_, ?_, ?_, ?_, ?_, ?_, ?_, ?_, ?_,(fun b g l1 q hnc=>by
  rcases hput b g l1 q with ⟨_,e,_⟩ | ⟨n1,q1⟩
  · exact e
  · exact S.gen0 b g l1 q1 (fun cs cur ro e=>hnc cs cur ro (by rw [hn b n1]; exact e)))⟩
 · intro b g l' q
   rcases hput b g l' q with ⟨_,_,rfl⟩ | ⟨_,q⟩
   · exact ⟨hl,S.size0.2 _ hB⟩
   · exact S.dom' b g l' q
 · intro b g l' q
   rcases hput b g l' q with ⟨e,_,_⟩ | ⟨hne,q⟩
   · exact ⟨o,by rw [e]; exact hc⟩
   · rw [hn b hne]; exact S.dom2 b g l' q
 · intro b g l' q q2
   rcases hput b g l' q with ⟨_,_,rfl⟩ | ⟨_,q⟩
   · exact hB
   · exact S.own b g l' q q2
 · intro b g l1 b' g' l2 q1 q2 hne ho
   rcases hput b g l1 q1 with ⟨e1,_,e2⟩ | ⟨_,p1⟩ <;> rcases hput b' g' l2 q2 with ⟨e3,_,e4⟩ | ⟨_,p2⟩
   · exact absurd (e1.trans e3.symm) hne
   · rw [e2]; exact (hfresh b' g' l2 p2).symm
   · rw [e4]; exact hfresh b g l1 p1
   · exact S.apart b g l1 b' g' l2 p1 p2 hne ho
 · intro b g l1 g' l2 q1 q2
   rcases hput b g l1 q1 with ⟨rfl,rfl,rfl⟩ | ⟨n1,q1⟩ <;> rcases hput b g' l2 q2 with ⟨e,rfl,rfl⟩ | ⟨n2,q2⟩
   · exact ⟨rfl,fun _=>rfl⟩
   · exact absurd rfl n2
   · exact absurd e n1
   · exact S.same b g l1 g' l2 q1 q2
 · intro b g l1 cs cur ro q1 q2 q3
   rcases hput b g l1 q1 with ⟨rfl,rfl,rfl⟩ | ⟨n1,q1⟩
   · rw [hc] at q3
     cases q3
     exact (hcells cs cur ro rfl).2.2.2.2.1
   · rw [hn b n1] at q3
     exact S.room b g l1 cs cur ro q1 q2 q3
 · intro b cs cur ro q
   by_cases hb:b=c
   · subst hb
     rw [hc] at q
     cases q
     obtain ⟨rfl,rfl,e3,e4,e5,e6⟩:=hcells cs cur ro rfl
     refine ⟨fun g l1 q1=>?_,fun g hg=>⟨l,by rw [Nat.le_zero.1 hg]; exact KM.put_same K b 0 l⟩,fun x hx=>by rw [e3 x hx]; exact Nat.le_refl _⟩
     rcases hput b g l1 q1 with ⟨_,rfl,rfl⟩ | ⟨n1,_⟩
     · exact ⟨Nat.le_refl _,fun _=>hown⟩
     · exact absurd rfl n1
   · rw [hn b hb] at q
     obtain ⟨r1,r2,r3⟩:=S.gens b cs cur ro q
     refine ⟨fun g l1 q1=>?_,fun g hg=>let ⟨l1,r⟩:=r2 g hg; ⟨l1,hle _ _ _ r⟩,r3⟩
     rcases hput b g l1 q1 with ⟨e,_,_⟩ | ⟨_,q1⟩
     · exact absurd e hb
     · exact r1 g l1 q1
 · intro b cs cur ro g l1 q1 q2 off v st q3 q4 q5
   rcases hput b g l1 q2 with ⟨rfl,rfl,rfl⟩ | ⟨n1,q2⟩
   · rw [hc] at q1
     cases q1
     obtain ⟨rfl,rfl,e3,e4,e5,e6⟩:=hcells cs cur ro rfl
     obtain ⟨v',r1,r2⟩:=e6 off v st q3
     exact ⟨v',by rw [e4,Nat.sub_zero]; exact r1,r2.mono hle⟩
   · rw [hn b n1] at q1
     obtain ⟨v',r1,r2⟩:=S.cells b cs cur ro g l1 q1 q2 off v st q3 q4 q5
     exact ⟨v',r1,r2.mono hle⟩
 · intro b es q
   by_cases hb:b=c
   · subst hb
     rw [hc] at q
     cases q
     obtain ⟨es',clock,r1,r2⟩:=hmap es rfl
     exact ⟨l,es',clock,KM.put_same K b 0 l,hown,r1,r2.mono hle⟩
   · rw [hn b hb] at q
     obtain ⟨l1,es',clock,r1,r2,r3,r4⟩:=S.map b es q
     exact ⟨l1,es',clock,hle _ _ _ r1,r2,r3,r4.mono hle⟩
 · intro b x pos q
   by_cases hb:b=c
   · subst hb
     rw [hc] at q
     cases q
     obtain ⟨r1,r2,r3⟩:=hiter x pos rfl
     exact ⟨l,KM.put_same K b 0 l,hown,r1,r2,r3⟩
   · rw [hn b hb] at q
     obtain ⟨l1,r1,r2,r3,r4,r5⟩:=S.siter b x pos q
     exact ⟨l1,hle _ _ _ r1,r2,r3,r4,r5⟩
structure Step (B0:Nat) (w0:Base) (K:KM) (s':S) (w':World) (K':KM):Prop where
 le:K.le K'
 far:∀ i g,s'.c≤i→K' i g=K i g
 sim:Sim B0 w0 K' s'.h w'
def a2C (_:KM) (s s':S):Prop:=∀ i,s.c≤i→i<s'.c→s.h.get i=none
theorem Sim.none {B0:Nat} {w0:Base} {K:KM} {h:Trie VObj} {w:World} (S:Sim B0 w0 K h w) {i:Nat} (hi:h.get i=none) (g:Nat):K i g=none:=by
 cases q:K i g with
 | none=>rfl
 | some l=>obtain ⟨o,e⟩:=S.dom2 i g l q; rw [hi] at e; cases e
theorem a9g {vs:List Value} {s s':S} {a:Addr} (h:a1U vs s=some (a,s')) :
 (∀ v∈vs,a0I v=true)∧a=⟨s.c, 0,some 0⟩∧s'.c=s.c+1∧∀ j,s'.h.get j=if j=s.c then some (.cells (vs.map fun v=>(v, 0)) 0 false) else s.h.get j:=by
 unfold a1U at h
 cases hg:a0o a0I vs with
 | false=>rw [hg] at h; cases h
 | true=>
   rw [hg] at h
   simp only [M.guard,a2R,a3I,M.bind,b1B,M.pure] at h
   cases h
   exact ⟨(a0y _ _).1 hg,rfl,rfl,fun j=>Trie.get_put _ _ _ _ (Nat.lt_succ_self _) j⟩
theorem a6A {B0:Nat} {w0:Base} {K:KM} {w w':World} {vs vs':List Value} {s s':S} {a:Addr} (h:a1U vs s=some (a,s')) (S:Sim B0 w0 K s.h w) (F:a2C K s s')
 (hv:VRL K vs' vs) {arr:Array Value} {e:TypeId} {fz:Nat×Nat} (G:Grew w w') (hblk:w'.heap[w.heap.size]?=some (.cells arr e fz)) {rest:List Value} (harr:arr.toList=vs' ++ rest)
 (hfz:∀ o,o<arr.size→¬ (fz.1≤o∧o<fz.2)) :
 ∃ K',Step B0 w0 K s' w' K'∧K' s.c 0=some ⟨w.heap.size, 0, 0,arr.size,true⟩∧a=⟨s.c, 0,some 0⟩:=by
 obtain ⟨h1,h2,h3,h4⟩:=a9g h
 have S':=a6E S G
 have hK:∀ g,K s.c g=none:=S.none (F s.c (Nat.le_refl _) (by omega))
 have hlt:w.heap.size<w'.heap.size:=(Array.getElem?_eq_some_iff.1 hblk).1
 refine ⟨K.put s.c 0 ⟨w.heap.size, 0, 0,arr.size,true⟩,⟨KM.le_put K _ (hK 0), ?_, ?_⟩,KM.put_same _ _ _ _,h2⟩
 · intro i g hi
   exact KM.put_other K _ (fun q=>by omega)
 · refine b4R (o:=.cells (vs.map fun v=>(v, 0)) 0 false) S' hK h4 hlt S.base rfl (fun b g l q=>by have:=S.dom b g l q; dsimp only; omega) ?_ (fun es q=>by cases q) (fun x pos q=>by cases q)
   intro cs cur ro q
   cases q
   refine ⟨rfl,rfl,fun x hx=>?_,rfl,⟨arr,e,fz,hblk,rfl,fun o ho=>?_⟩, ?_⟩
   · obtain ⟨v,_,rfl⟩:=List.mem_map.1 hx; rfl
   · simp only [World.frozen?,hblk]
     have:=hfz o ho
     simpa using this
   · intro off v st q
     rw [List.getElem?_map] at q
     cases hvo:vs[off]? with
     | none=>rw [hvo] at q; cases q
     | some y=>
       rw [hvo] at q
       cases q
       have hlt:off<vs'.length:=by rw [hv.len]; exact (List.getElem?_eq_some_iff.1 hvo).1
       refine ⟨vs'[off], ?_,hv.at_ _ _ _ (List.getElem?_eq_getElem hlt) hvo⟩
       simp only [World.cell?,hblk,Nat.zero_add]
       have:arr[off]?=some vs'[off]:=by
        rw [← Array.getElem?_toList,harr,List.getElem?_append_left hlt]; exact List.getElem?_eq_getElem hlt
       simpa using this
theorem c3B {B0:Nat} {w0:Base} {K:KM} {h h':Trie VObj} {w:World} (S:Sim B0 w0 K h w) {b n cur:Nat} {cs:List (Value×Nat)} {ro:Bool}
 (ho:h.get b=some (.cells cs cur ro)) (hh:∀ j,h'.get j=if j=b then some (.cells (cs.take n) cur ro) else h.get j):Sim B0 w0 K h' w:=by
 have hb:h'.get b=some (.cells (cs.take n) cur ro):=by rw [hh,if_pos rfl]
 have hn:∀ j,j≠b→h'.get j=h.get j:=fun j hj=>by rw [hh,if_neg hj]
 refine ⟨S.size0,S.below,S.dom',fun b2 g2 l2 q=>by by_cases hx:b2=b; exact ⟨_,by rw [hx]; exact hb⟩; rw [hn b2 hx]; exact S.dom2 b2 g2 l2 q,S.own,S.apart,S.same, ?_, ?_, ?_, ?_, ?_,(fun b2 g2 l2 q hnc=>by
  by_cases hx:b2=b
  · exact absurd (by rw [hx]; exact hb) (hnc _ _ _)
  · exact S.gen0 b2 g2 l2 q (fun cs cur ro e=>hnc cs cur ro (by rw [hn b2 hx]; exact e)))⟩
 · intro b2 g l cs2 cur2 ro2 q1 q2 q3
   by_cases hb2:b2=b
   · subst hb2; exact S.room b2 g l cs cur ro q1 q2 ho
   · rw [hn b2 hb2] at q3; exact S.room b2 g l cs2 cur2 ro2 q1 q2 q3
 · intro b2 cs2 cur2 ro2 q
   by_cases hb2:b2=b
   · subst hb2
     rw [hb] at q; cases q
     obtain ⟨r1,r2,r3⟩:=S.gens b2 cs cur ro ho
     exact ⟨r1,r2,fun c hc=>r3 c (List.mem_of_mem_take hc)⟩
   · rw [hn b2 hb2] at q; exact S.gens b2 cs2 cur2 ro2 q
 · intro b2 cs2 cur2 ro2 g l q1 q2 off v st q3 q4 q5
   by_cases hb2:b2=b
   · subst hb2
     rw [hb] at q1; cases q1
     rw [List.getElem?_take] at q3
     split at q3
     · exact S.cells b2 cs cur ro g l ho q2 off v st q3 q4 q5
     · cases q3
   · rw [hn b2 hb2] at q1; exact S.cells b2 cs2 cur2 ro2 g l q1 q2 off v st q3 q4 q5
 · intro b2 es q
   have hb2:b2≠b:=fun e=>by rw [e,hb] at q; cases q
   rw [hn b2 hb2] at q; exact S.map b2 es q
 · intro b2 x pos q
   have hb2:b2≠b:=fun e=>by rw [e,hb] at q; cases q
   rw [hn b2 hb2] at q; exact S.siter b2 x pos q
theorem c2b {B0:Nat} {w0:Base} {K:KM} {h:Trie VObj} {w w':World} (S:Sim B0 w0 K h w) {b g cur o:Nat} {l:Loc} {cs:List (Value×Nat)} {vs':List Value}
 (ho:h.get b=some (.cells cs cur false)) (hk:K b g=some l) (hlo:l.lo≤cs.length) (hoo:o=l.at_+(cs.length - l.lo)) (u:Upd w w' l.blk o vs'):Sim B0 w0 K h w':=by
 obtain ⟨hg1,hg2,hg3⟩:=S.gens b cs cur false ho
 have hown:l.own=true:=(hg1 g l hk).2 rfl
 obtain ⟨c,e,fz,hc1,hc2,hc3⟩:=S.room b g l cs cur false hk hown ho
 refine ⟨S.size0,S.below.trans (u.below (S.own b g l hk hown)),fun b2 g2 l2 q=>by rw [u.size]; exact S.dom' b2 g2 l2 q,S.dom2,S.own,S.apart,S.same, ?_,S.gens, ?_, ?_, ?_,S.gen0⟩
 · intro b2 g2 l2 cs2 cur2 ro2 q1 q2 q3
   exact u.room (S.room b2 g2 l2 cs2 cur2 ro2 q1 q2 q3) hc1
 · intro b2 cs2 cur2 ro2 g2 l2 q1 q2 off v st q3 q4 q5
   obtain ⟨v',r1,r2⟩:=S.cells b2 cs2 cur2 ro2 g2 l2 q1 q2 off v st q3 q4 q5
   refine ⟨v', ?_,r2⟩
   rw [u.cell_other hc1 _ ?_]
   · exact r1
   · by_cases hb2:b2=b
     · subst hb2
       rw [ho] at q1; cases q1
       by_cases hbk:l2.blk=l.blk
       · right
         have e1:=(S.same b2 g l g2 l2 hk q2).2 hbk.symm
         have e2:off<cs.length:=(List.getElem?_eq_some_iff.1 q3).1
         dsimp only
         omega
       · exact Or.inl hbk
     · exact Or.inl (S.apart b g l b2 g2 l2 hk q2 (Ne.symm hb2) hown).symm
 · intro b2 es q
   have hb2:b2≠b:=fun e=>by rw [e,ho] at q; cases q
   obtain ⟨l2,es',clock,r1,r2,r3,r4⟩:=S.map b2 es q
   exact ⟨l2,es',clock,r1,r2,by rw [u.other _ (S.apart b g l b2 0 l2 hk r1 (Ne.symm hb2) hown).symm]; exact r3,r4⟩
 · intro b2 x pos q
   have hb2:b2≠b:=fun e=>by rw [e,ho] at q; cases q
   obtain ⟨l2,r1,r2,r3,r4,r5⟩:=S.siter b2 x pos q
   exact ⟨l2,r1,r2,r3,r4,by rw [u.other _ (S.apart b g l b2 0 l2 hk r1 (Ne.symm hb2) hown).symm]; exact r5⟩
theorem c0l {B0:Nat} {w0:Base} {K:KM} {h h':Trie VObj} {w:World} (S:Sim B0 w0 K h w) {b cur:Nat} {l:Loc} {cs:List (Value×Nat)} {vs:List Value}
 (ho:h.get b=some (.cells cs cur false)) (hh:∀ j,h'.get j=if j=b then some (.cells (cs ++ vs.map fun v=>(v,cur+1)) (cur+1) false) else h.get j)
 (hown:l.own=true) (hl:l.blk<w.heap.size) (hB:B0≤l.blk)
 (hsame:∀ g2 l2,K b g2=some l2→l2.blk=l.blk→l2.at_+l.lo=l.at_+l2.lo) (hapart:∀ b2 g2 l2,b2≠b→K b2 g2=some l2→l2.blk≠l.blk)
 (hroom:∃ a e fz,w.heap[l.blk]?=some (.cells a e fz)∧a.size=l.sz∧∀ o,o<l.sz→w.frozen? ⟨l.blk,o,none⟩=false)
 (hcl:∀ (off:Nat) v st,l.lo≤off→(cs ++ vs.map fun v=>(v,cur+1))[off]?=some (v,st)→∃ v',w.cell? ⟨l.blk,l.at_+(off - l.lo),none⟩=some v'∧VR K v' v) :
 Sim B0 w0 (K.put b (cur+1) l) h' w∧K.le (K.put b (cur+1) l):=by
 obtain ⟨hg1,hg2',hg3⟩:=S.gens b cs cur false ho
 obtain ⟨l0,hg2⟩:=hg2' cur (Nat.le_refl _)
 have hnone:K b (cur+1)=none:=by
  cases q:K b (cur+1) with
  | none=>rfl
  | some l1=>have:=(hg1 _ l1 q).1; omega
 have hle:K.le (K.put b (cur+1) l):=KM.le_put K l hnone
 have hb:h'.get b=some (.cells (cs ++ vs.map fun v=>(v,cur+1)) (cur+1) false):=by rw [hh,if_pos rfl]
 have hn:∀ j,j≠b→h'.get j=h.get j:=fun j hj=>by rw [hh,if_neg hj]
 refine ⟨⟨S.size0,S.below, ?_, ?_, ?_, ?_, ?_, ?_, ?_, ?_, ?_, ?_,fun b2 g2 l2 q hnc=>by
  by_cases hx:b2=b
  · exact absurd (by rw [hx]; exact hb) (hnc _ _ _)
  · rcases KM.put_inv q with ⟨e1,_,_⟩ | p1
    · exact absurd e1 hx
    · exact S.gen0 b2 g2 l2 p1 (fun cs cur ro e=>hnc cs cur ro (by rw [hn b2 hx]; exact e))⟩,hle⟩
 · intro b2 g l' q
   rcases KM.put_inv q with ⟨_,_,e⟩ | q
   · rw [e]; exact ⟨hl,S.size0.2 _ hB⟩
   · exact S.dom' b2 g l' q
 · intro b2 g l' q
   by_cases hx:b2=b
   · exact ⟨_,by rw [hx]; exact hb⟩
   · rw [hn b2 hx]
     rcases KM.put_inv q with ⟨e,_,_⟩ | q
     · exact absurd e hx
     · exact S.dom2 b2 g l' q
 · intro b2 g l' q q2
   rcases KM.put_inv q with ⟨_,_,e⟩ | q
   · rw [e]; exact hB
   · exact S.own b2 g l' q q2
 · intro b1 g1 l1 b2 g2 l2 q1 q2 hne hx
   rcases KM.put_inv q1 with ⟨e1,_,e2⟩ | p1 <;> rcases KM.put_inv q2 with ⟨e3,_,e4⟩ | p2
   · exact absurd (e1.trans e3.symm) hne
   · rw [e2]; exact (hapart b2 g2 l2 (fun e=>hne (e1.trans e.symm)) p2).symm
   · rw [e4]; exact hapart b1 g1 l1 (fun e=>hne (e.trans e3.symm)) p1
   · exact S.apart b1 g1 l1 b2 g2 l2 p1 p2 hne hx
 · intro b1 g1 l1 g2 l2 q1 q2
   rcases KM.put_inv q1 with ⟨e1,_,e2⟩ | p1 <;> rcases KM.put_inv q2 with ⟨e3,_,e4⟩ | p2
   · rw [e2,e4]; exact ⟨rfl,fun _=>rfl⟩
   · rw [e1] at p2
     rw [e2]
     exact ⟨by rw [hown,(hg1 _ _ p2).2 rfl],fun q=>(hsame _ _ p2 q.symm).symm⟩
   · rw [e3] at p1
     rw [e4]
     exact ⟨by rw [hown,(hg1 _ _ p1).2 rfl],fun q=>hsame _ _ p1 q⟩
   · exact S.same b1 g1 l1 g2 l2 p1 p2
 · intro b2 g l1 cs2 cur2 ro2 q1 q2 q3
   by_cases hb2:b2=b
   · subst hb2
     rcases KM.put_inv q1 with ⟨_,_,e2⟩ | p1
     · rw [e2]; exact hroom
     · exact S.room b2 g l1 cs cur false p1 q2 ho
   · rcases KM.put_inv q1 with ⟨e1,_,_⟩ | p1
     · exact absurd e1 hb2
     · rw [hn b2 hb2] at q3; exact S.room b2 g l1 cs2 cur2 ro2 p1 q2 q3
 · intro b2 cs2 cur2 ro2 q
   by_cases hb2:b2=b
   · subst hb2
     rw [hb] at q; cases q
     refine ⟨fun g l1 q1=>?_,fun g hg=>(Nat.lt_or_eq_of_le hg).elim (fun h=>let ⟨l1,r⟩:=hg2' g (by omega); ⟨l1,hle _ _ _ r⟩) (fun h=>⟨l,by rw [h]; exact KM.put_same _ _ _ _⟩),fun c hc=>?_⟩
     · rcases KM.put_inv q1 with ⟨_,e,e2⟩ | p1
       · rw [e,e2]; exact ⟨Nat.le_refl _,fun _=>hown⟩
       · exact ⟨Nat.le_succ_of_le (hg1 g l1 p1).1,(hg1 g l1 p1).2⟩
     · rcases List.mem_append.1 hc with hc | hc
       · exact Nat.le_succ_of_le (hg3 c hc)
       · obtain ⟨v,_,rfl⟩:=List.mem_map.1 hc; exact Nat.le_refl _
   · rw [hn b2 hb2] at q
     obtain ⟨r1,r2,r3⟩:=S.gens b2 cs2 cur2 ro2 q
     refine ⟨fun g l1 q1=>?_,fun g hg=>let ⟨l1,r⟩:=r2 g hg; ⟨l1,hle _ _ _ r⟩,r3⟩
     rcases KM.put_inv q1 with ⟨e1,_,_⟩ | p1
     · exact absurd e1 hb2
     · exact r1 g l1 p1
 · intro b2 cs2 cur2 ro2 g l1 q1 q2 off v st q3 q4 q5
   by_cases hb2:b2=b
   · subst hb2
     rw [hb] at q1; cases q1
     rcases KM.put_inv q2 with ⟨_,e,e2⟩ | p2
     · subst e2
       obtain ⟨v',r1,r2⟩:=hcl off v st q5 q3
       exact ⟨v',r1,r2.mono hle⟩
     · have hg:=(hg1 g l1 p2).1
       have hlt:off<cs.length:=by
        rcases Nat.lt_or_ge off cs.length with h1 | h1
        · exact h1
        · rw [List.getElem?_append_right h1,List.getElem?_map] at q3
          cases hv:vs[off - cs.length]? with
          | none=>rw [hv] at q3; cases q3
          | some y=>rw [hv] at q3; cases q3; omega
       rw [List.getElem?_append_left hlt] at q3
       obtain ⟨v',r1,r2⟩:=S.cells b2 cs cur false g l1 ho p2 off v st q3 q4 q5
       exact ⟨v',r1,r2.mono hle⟩
   · rcases KM.put_inv q2 with ⟨e1,_,_⟩ | p2
     · exact absurd e1 hb2
     · rw [hn b2 hb2] at q1
       obtain ⟨v',r1,r2⟩:=S.cells b2 cs2 cur2 ro2 g l1 q1 p2 off v st q3 q4 q5
       exact ⟨v',r1,r2.mono hle⟩
 · intro b2 es q
   have hb2:b2≠b:=fun e=>by rw [e,hb] at q; cases q
   rw [hn b2 hb2] at q
   obtain ⟨l1,es',clock,r1,r2,r3,r4⟩:=S.map b2 es q
   exact ⟨l1,es',clock,hle _ _ _ r1,r2,r3,r4.mono hle⟩
 · intro b2 x pos q
   have hb2:b2≠b:=fun e=>by rw [e,hb] at q; cases q
   rw [hn b2 hb2] at q
   obtain ⟨l1,r1,r2,r3,r4,r5⟩:=S.siter b2 x pos q
   exact ⟨l1,hle _ _ _ r1,r2,r3,r4,r5⟩
theorem b6V {e:TI} {a:Addr} {len m:Nat} {vs:List Value} {s s':S} {v:Value} (h:appendAt e a len vs m s=some (v,s')) :
 ∃ g cs cur olds,a.spot=some g∧s.h.get a.block=some (.cells cs cur false)∧a.off+len * e.size≤cs.length∧Y0 g (cs.drop a.off) (len * e.size)=some olds ∧
   s'.c=s.c∧(∀ j,s'.h.get j=if j=a.block then some (.cells (cs.take (a.off+len * e.size) ++ vs.map fun v=>(v,cur+1)) (cur+1) false) else s.h.get j) ∧
   v=.slice (some ⟨a.block,a.off,some (cur+1)⟩) (len+m) e.size:=by
 unfold appendAt at h
 cases hg:a.spot with
 | none=>rw [hg] at h; cases h
 | some g=>
   rw [hg] at h
   simp only [M.obind,M.bind,rd] at h
   cases hb:Nat.blt a.block s.c with
   | false=>rw [hb] at h; cases h
   | true=>
     rw [hb] at h
     cases ho:s.h.get a.block with
     | none=>rw [ho] at h; cases h
     | some o=>
       rw [ho] at h
       cases o with
       | cells cs cur ro=>
         simp only [a7v,a5I,b0B,a3I,N9,Z5] at h
         cases ro with
         | true=>cases h
         | false=>
           simp only [Bool.not_false,M.guard] at h
           cases hgd:Nat.ble (a.off+len * e.size) cs.length with
           | false=>rw [hgd] at h; cases h
           | true=>
             rw [hgd] at h
             cases ht:Y0 g (cs.drop a.off) (len * e.size) with
             | none=>rw [ht] at h; cases h
             | some olds=>
               rw [ht] at h
               simp only [a2R] at h
               obtain ⟨u,s1,hx,h⟩:=O7 h
               obtain ⟨_,w2,w3⟩:=b3v hx
               cases h
               exact ⟨g,cs,cur,olds,rfl,rfl,Nat.le_of_ble_eq_true hgd,ht,w2,w3,rfl⟩
       | map es=>cases h
       | siter x y=>cases h
end Go.V
end
section
namespace Go.V
open Go.RowKit (Below)
theorem b3F {n:Nat} (h:(!(Nat.beq n 0))=true):n≠0:=by
 intro e; subst e; cases h
structure TabOk (P:Program) (T:Tab):Prop where
 types:∀ t i,T.types.get t=some i→∃ info,P.info? t=some info∧P.underlying t=some i.und∧info.size=i.size∧info.bytes=i.bytes∧info.zero=some i.zero∧i.zero.cells.size=i.size
 funcs:∀ f fn,T.funcs.get f=some fn→P.funcs[f]?=some fn∧(fn.name == "runtime.NumGoroutine")=false
def GK (T:Tab) (K:KM):Prop:=∀ g,g<T.ng→∃ l,K g 0=some l∧l.blk=g∧l.lo=0∧l.at_=0
theorem GK.mono {T:Tab} {K K':KM} (h:GK T K) (hle:K.le K'):GK T K':=fun g hg=>let ⟨l,e,r⟩:=h g hg; ⟨l,hle _ _ _ e,r⟩
theorem a2O {K:KM}:∀ (n:Nat) (v:Value),a0e n v=true→VR K v v:=by
 intro n
 induction n with
 | zero=>intro v h; cases h
 | succ n ih=>
   intro v h
   cases v with
   | agg cs=>
     have h':a0o (a0e n) cs.toList=true:=h
     rw [a0y] at h'
     exact .agg rfl fun i v' v e e'=>by rw [e] at e'; cases e'; exact ih _ (h' _ (List.mem_of_getElem? e))
   | tuple cs=>
     have h':a0o (a0e n) cs.toList=true:=h
     rw [a0y] at h'
     exact .tuple rfl fun i v' v e e'=>by rw [e] at e'; cases e'; exact ih _ (h' _ (List.mem_of_getElem? e))
   | iface t v=>exact .iface (ih v h)
   | func fn a b=>cases h
   | _=>exact .plain h
theorem VR.eq_of_plain {K:KM} {v' v:Value} (r:VR K v' v) (h:V.plain v=true):v'=v:=by
 cases r with
 | plain _=>rfl
 | ptr _ _=>simp [V.plain] at h
 | slice _ _ _ _ _ _=>simp [V.plain] at h
 | map _=>simp [V.plain] at h
 | _=>simp [V.plain] at h
theorem VR.eq_of_noAddr {K:KM} {v' v:Value} (r:VR K v' v):∀ n,a0e n v=true→v'=v:=by
 induction r with
 | plain _=>intro n h; rfl
 | ptr _ _=>intro n h; cases n <;> simp [a0e,V.plain] at h
 | slice _ _ _ _ _ _=>intro n h; cases n <;> simp [a0e,V.plain] at h
 | map _=>intro n h; cases n <;> simp [a0e,V.plain] at h
 | @agg cs' cs hl _ ih=>
   intro n h
   cases n with
   | zero=>cases h
   | succ n=>
     have h':a0o (a0e n) cs.toList=true:=h
     rw [a0y] at h'
     congr 1
     apply Array.ext'
     apply List.ext_getElem?
     intro i
     by_cases hi:i<cs.toList.length
     · have hi':i<cs'.toList.length:=by rw [hl]; exact hi
       rw [List.getElem?_eq_getElem hi,List.getElem?_eq_getElem hi']
       rw [ih i _ _ (List.getElem?_eq_getElem hi') (List.getElem?_eq_getElem hi) n (h' _ (List.getElem_mem hi))]
     · rw [List.getElem?_eq_none (by omega),List.getElem?_eq_none (by omega)]
 | @tuple cs' cs hl _ ih=>
   intro n h
   cases n with
   | zero=>cases h
   | succ n=>
     have h':a0o (a0e n) cs.toList=true:=h
     rw [a0y] at h'
     congr 1
     apply Array.ext'
     apply List.ext_getElem?
     intro i
     by_cases hi:i<cs.toList.length
     · have hi':i<cs'.toList.length:=by rw [hl]; exact hi
       rw [List.getElem?_eq_getElem hi,List.getElem?_eq_getElem hi']
       rw [ih i _ _ (List.getElem?_eq_getElem hi') (List.getElem?_eq_getElem hi) n (h' _ (List.getElem_mem hi))]
     · rw [List.getElem?_eq_none (by omega),List.getElem?_eq_none (by omega)]
 | func _ _ _ _ _ _=>intro n h; cases n <;> cases h
 | iface _ ih=>intro n h; cases n with
   | zero=>cases h
   | succ n=>rw [ih n h]
theorem a0k {T:Tab} {K:KM} {a:Act} {fr:List Value} (hf:VRL K a.tmps.toList fr) (hg:GK T K) {x:Operand} {v:Value} (h:a2o T fr x=some v):VR K (a.eval x) v:=by
 cases x with
 | tmp t=>
   cases h
   have:=hf.lget t
   rw [a5n a.tmps.toList] at this
   simpa [Act.eval,Array.getD_eq_getD_getElem?] using this
 | const c=>
   have h':(match a0e 3 c with | true=>some c | false=>none)=some v:=h
   split at h'
   · rename_i hn; cases h'; exact a2O _ _ hn
   · cases h'
 | global g=>
   have h':(match Nat.blt g T.ng with | true=>some (Value.pointer (some ⟨g, 0,some 0⟩)) | false=>none)=some v:=h
   split at h'
   · rename_i hn
     cases h'
     obtain ⟨l,e1,e2,e3,e4⟩:=hg g (by simpa [Nat.blt_eq] using hn)
     have:=VR.ptr (off:=0) e1 (by omega)
     rw [e2,e3,e4] at this
     exact this
   · cases h'
 | func f=>cases h; exact .func rfl (fun i v' v e=>by simp at e) rfl (fun i v' v e=>by simp at e)
theorem a6y {T:Tab} {K:KM} {a:Act} {fr:List Value} (hf:VRL K a.tmps.toList fr) (hg:GK T K):∀ {xs:List Operand} {vs:List Value},a2Q T fr xs=some vs→VRL K (xs.map a.eval) vs:=by
 intro xs
 induction xs with
 | nil=>intro vs h; cases h; exact VRL.nil K
 | cons x xs ih=>
   intro vs h
   have h':(match a2o T fr x with | none=>none | some v=>(match a2Q T fr xs with | none=>none | some vs=>some (v::vs)))=some vs:=h
   split at h'
   · cases h'
   · rename_i v hv
     split at h'
     · cases h'
     · rename_i vs1 hvs; cases h'; exact VRL.cons (a0k hf hg hv) (ih hvs)
def a0x (P:Program) (B0:Nat) (w0:Base) (K:KM) (s':S) (x:Sem Next) (w:World) (v:Value):Prop:=
 ∃ n w' K',x.run P w=.ok n w'∧Step B0 w0 K s' w' K'∧((∃ v',n=.value v'∧VR K' v' v)∨(n=.skip∧v=undef))
section
variable {P:Program} {T:Tab} {B0:Nat} {w0:Base} {w:World} {K:KM} {s s':S} {a:Act} {fr:List Value} {v:Value}
theorem Step.same {s1:S} (S:Sim B0 w0 K s.h w) (h:s1.h=s.h):Step B0 w0 K s1 w K:=⟨KM.le_refl K,fun _ _ _=>rfl,by rw [h]; exact S⟩
theorem a0x.quiet {x:Sem Value} {v':Value} (S:Sim B0 w0 K s.h w) (hs:s'.h=s.h) (hx:x.run P w=.ok v' w) (r:VR K v' v) :
 a0x P B0 w0 K s' (do pure (Next.value (← x))) w v:=
 ⟨.value v',w,K,by simp [hx],Step.same S hs,Or.inl ⟨v',rfl,r⟩⟩
theorem a0x.step {x:Sem Value} {v':Value} {w':World} {K':KM} (hx:x.run P w=.ok v' w') (st:Step B0 w0 K s' w' K') (r:VR K' v' v) :
 a0x P B0 w0 K s' (do pure (Next.value (← x))) w v:=
 ⟨.value v',w',K',by simp [hx],st,Or.inl ⟨v',rfl,r⟩⟩
theorem a7c {α:Type} {x:Sem α} {y:α} (h:a2L P x=some y) (w:World):x.run P w=.ok y w:=by
 induction x with
 | pure a=>cases h; rfl
 | program k ih=>exact ih P h
 | mark m k ih=>exact ih h
 | _=>cases h
theorem a2r {x:Operand} {k:Value→M Value} (h:ev T fr x k s=some (v,s')):∃ u,a2o T fr x=some u∧k u s=some (v,s'):=U2 h
theorem a6Q {xs:List Operand} {k:List Value→M Value} (h:evs T fr xs k s=some (v,s')):∃ us,a2Q T fr xs=some us∧k us s=some (v,s'):=U2 h
theorem a1H {α:Type} {t:TypeId} {k:TI→M α} {u:α} (h:ti T t k s=some (u,s')):∃ i,T.types.get t=some i∧k i s=some (u,s'):=U2 h
theorem a6N {α:Type} {x:Value} {k:Addr→M α} {u:α} (h:a4T x k s=some (u,s')):∃ ad,x=.pointer (some ad)∧k ad s=some (u,s'):=by
 cases x with
 | pointer o=>
   obtain ⟨ad,e,h⟩:=U2 h
   exact ⟨ad,by rw [e],h⟩
 | _=>cases h
theorem a8w {x':Value} {ad:Addr} (r:VR K x' (.pointer (some ad))):∃ ad',x'=.pointer (some ad')∧VR K (.pointer (some ad')) (.pointer (some ad)):=by
 generalize hv:Value.pointer (some ad)=x at r
 cases r with
 | plain hp=>subst hv; simp [V.plain] at hp
 | ptr hk hl=>cases hv; exact ⟨_,rfl,.ptr hk hl⟩
 | _=>cases hv
theorem VR.fwd {ad ad':Addr} (r:VR K (.pointer (some ad')) (.pointer (some ad))) (n:Nat):VR K (.pointer (some (ad'.add n))) (.pointer (some (fwd ad n))):=by
 obtain ⟨g,l,e1,e2,e3,rfl⟩:=a7U r
 rw [a8o]
 obtain ⟨b,off,sp⟩:=ad
 cases e1
 have:=VR.ptr (off:=off+n) e2 (by dsimp only at e3; omega)
 rw [show l.at_+(off+n - l.lo)=l.at_+(off - l.lo)+n by dsimp only at e3; omega] at this
 exact this
theorem VR.cells {v' v:Value} (r:VR K v' v):VRL K v'.cells.toList v.cells.toList:=by
 cases r with
 | agg hl ih=>exact ⟨hl,ih⟩
 | plain hp=>
   cases v' with
   | agg cs=>simp [V.plain] at hp
   | _=>exact VRL.cons (.plain hp) (VRL.nil K)
 | ptr h1 h2=>exact VRL.cons (.ptr h1 h2) (VRL.nil K)
 | slice h1 h2 h3 h4 h5 h6=>exact VRL.cons (.slice h1 h2 h3 h4 h5 h6) (VRL.nil K)
 | map h1=>exact VRL.cons (.map h1) (VRL.nil K)
 | tuple h1 h2=>exact VRL.cons (.tuple h1 h2) (VRL.nil K)
 | func h1 h2 h3 h4=>exact VRL.cons (.func h1 h2 h3 h4) (VRL.nil K)
 | iface h=>exact VRL.cons (.iface h) (VRL.nil K)
theorem b5g (hT:TabOk P T) {t:TypeId} {i:TI} (h:T.types.get t=some i) (w:World):(isAgg t).run P w=.ok (b1W i.und) w:=by
 obtain ⟨info,h1,h2,_⟩:=hT.types t i h
 unfold isAgg
 simp only [Sem.run_bind,run_underlying h2,Result.andThen_ok]
 cases i.und <;> rfl
theorem a2P (hT:TabOk P T) {t:TypeId} {i:TI} (h:T.types.get t=some i) (w:World):(sizeOf t).run P w=.ok i.size w:=by
 obtain ⟨info,h1,h2,h3,_⟩:=hT.types t i h
 simp [sizeOf,typeInfo,h1,h3]
theorem a2f (hT:TabOk P T) {t:TypeId} {i:TI} (h:T.types.get t=some i) (w:World):(underlying t).run P w=.ok i.und w:=by
 obtain ⟨info,h1,h2,_⟩:=hT.types t i h
 exact run_underlying h2 w
theorem a9d (hT:TabOk P T) {t:TypeId} {i:TI} (h:T.types.get t=some i) (w:World):(zeroValue t).run P w=.ok i.zero w:=by
 obtain ⟨info,h1,h2,h3,h4,h5,h6⟩:=hT.types t i h
 simp [zeroValue,typeInfo,h1,h5]
theorem b5a (hT:TabOk P T) {t:TypeId} {ad ad':Addr} {u:Value} (h:a8c T t ad s=some (u,s')) (S:Sim B0 w0 K s.h w) (r:VR K (.pointer (some ad')) (.pointer (some ad))) :
 ∃ u',(loadVar t ad').run P w=.ok u' w∧VR K u' u∧s'.h=s.h∧s'.c=s.c:=by
 obtain ⟨i,hi,h⟩:=a1H h
 unfold loadVar
 simp only [Sem.run_bind,b5g hT hi,Result.andThen_ok]
 cases hag:b1W i.und with
 | true=>
   rw [hag] at h
   obtain ⟨_,h⟩:=U1 h
   obtain ⟨vs,s1,h1,h2⟩:=O7 h
   obtain ⟨e1,e2⟩:=J8 h2
   obtain ⟨vs',r1,r2,r3,r4,r5⟩:=b1Z (P:=P) h1 S r
   refine ⟨.agg vs'.toArray, ?_, ?_,by rw [e2,r5],by rw [e2,r4]⟩
   · simp [a2P hT hi,r1]
   · rw [e1]; exact .agg (by simpa using r2.len) (by simpa using r2.at_)
 | false=>
   rw [hag] at h
   obtain ⟨vs,s1,h1,h2⟩:=O7 h
   obtain ⟨e1,e2⟩:=J8 h2
   obtain ⟨vs',r1,r2,r3,r4,r5⟩:=b1Z (P:=P) h1 S r
   refine ⟨j4 vs' 0, ?_,by rw [e1]; exact r2.lget 0,by rw [e2,r5],by rw [e2,r4]⟩
   obtain ⟨x,rfl⟩:∃ x,vs'=[x]:=by
    match vs',r3 with
    | [x],_=>exact ⟨x,rfl⟩
   have hadd:ad'.add 0=ad':=rfl
   simp only [Bool.false_eq_true,if_false]
   simp only [loadCells,loadCellsFrom,Sem.run_bind,hadd] at r1
   rw [run_load] at r1 ⊢
   cases hc:w.cell? ad' with
   | some y=>rw [hc] at r1; simp at r1; rw [r1]; rfl
   | none=>
     rw [hc] at r1
     cases hf:w.farLoad P ad' (Mode.plain == Mode.atomic) with
     | ok z=>rw [hf] at r1; cases z; simp at r1 ⊢; rw [r1]; rfl
     | error z=>rw [hf] at r1; simp at r1
theorem c2v (hT:TabOk P T) {t:TypeId} {ad ad':Addr} {u u':Value} {un:Unit} (h:b6M T t ad u s=some (un,s')) (S:Sim B0 w0 K s.h w) (r:VR K (.pointer (some ad')) (.pointer (some ad))) (hu:VR K u' u) :
 ∃ w',(storeVar t ad' u').run P w=.ok () w'∧Sim B0 w0 K s'.h w'∧s'.c=s.c:=by
 obtain ⟨i,hi,h⟩:=a1H h
 obtain ⟨hg,h⟩:=U1 h
 simp only [Bool.and_eq_true,Bool.not_eq_true',Z5] at hg
 have hn:=Nat.eq_of_beq_eq_true hg.2
 have hc:=hu.cells
 have hpos:0<u.cells.toList.length:=by
  rcases Nat.eq_zero_or_pos i.size with h0 | h0
  · rw [h0] at hg; simp at hg
  · omega
 obtain ⟨w',r1,r2,r3⟩:=c1A (P:=P) h S hpos r hc
 refine ⟨w', ?_,r2,r3⟩
 have hs:u'.cells.size=i.size:=by rw [← Array.length_toList,hc.len,hn]
 simp [storeVar,a2P hT hi,hs,r1]
end
end Go.V
end
