import Derived.Laws.Cells
import Derived.Below
import Derived.Test.YtmomonnlmbljoaaGreatDoorRab
section
namespace Go.V
open Go.RowKit (Below)
structure Loc where
 blk:Nat
 lo:Nat
 at_:Nat
 sz:Nat
 own:Bool
abbrev KM:=Nat→Nat→Option Loc
def KM.le (K K':KM):Prop:=∀ b g l,K b g=some l→K' b g=some l
theorem KM.le_refl (K:KM):K.le K:=fun _ _ _ h=>h
theorem KM.le_trans {K K' K'':KM} (h:K.le K') (h':K'.le K''):K.le K'':=fun b g l e=>h' b g l (h b g l e)
inductive VR (K:KM):Value→Value→Prop
 | plain {v:Value}:plain v=true→VR K v v
 | ptr {b g off:Nat} {l:Loc}:K b g=some l→l.lo≤off→VR K (.pointer (some ⟨l.blk,l.at_+(off - l.lo),none⟩)) (.pointer (some ⟨b,off,some g⟩))
 | slice {b g off len cap es:Nat} {l:Loc} {a':Addr}:K b g=some l→l.lo≤off→0<es→len≤cap→(cap=0∨a'.spot=none) →
  (cap=0∨(a'.block=l.blk∧a'.off=l.at_+(off - l.lo)∧(l.own=true→a'.off+cap * es≤l.sz))) →
  VR K (.slice (some a') len cap) (.slice (some ⟨b,off,some g⟩) len es)
 | map {b:Nat} {l:Loc}:K b 0=some l→VR K (.map (some l.blk)) (.map (some b))
 | agg {cs' cs:Array Value}:cs'.toList.length=cs.toList.length→(∀ (i:Nat) (v' v:Value),cs'.toList[i]?=some v'→cs.toList[i]?=some v→VR K v' v)→VR K (.agg cs') (.agg cs)
 | tuple {cs' cs:Array Value}:cs'.toList.length=cs.toList.length→(∀ (i:Nat) (v' v:Value),cs'.toList[i]?=some v'→cs.toList[i]?=some v→VR K v' v)→VR K (.tuple cs') (.tuple cs)
 | func {fn:Fn} {a' a b' b:Array Value}:a'.toList.length=a.toList.length→(∀ (i:Nat) (v' v:Value),a'.toList[i]?=some v'→a.toList[i]?=some v→VR K v' v) →
  b'.toList.length=b.toList.length→(∀ (i:Nat) (v' v:Value),b'.toList[i]?=some v'→b.toList[i]?=some v→VR K v' v)→VR K (.func fn a' b') (.func fn a b)
 | iface {t:TypeId} {v' v:Value}:VR K v' v→VR K (.iface t v') (.iface t v)
structure VRL (K:KM) (l' l:List Value):Prop where
 len:l'.length=l.length
 at_:∀ (i:Nat) (v' v:Value),l'[i]?=some v'→l[i]?=some v→VR K v' v
theorem VR.mono {K K':KM} (h:K.le K') {v' v:Value} (r:VR K v' v):VR K' v' v:=by
 induction r with
 | plain h=>exact .plain h
 | ptr hk hl=>exact .ptr (h _ _ _ hk) hl
 | slice hk h1 h2 h3 h4 h5=>exact .slice (h _ _ _ hk) h1 h2 h3 h4 h5
 | map hk=>exact .map (h _ _ _ hk)
 | agg hl _ ih=>exact .agg hl ih
 | tuple hl _ ih=>exact .tuple hl ih
 | func hl _ hl' _ ih ih'=>exact .func hl ih hl' ih'
 | iface _ ih=>exact .iface ih
theorem VRL.mono {K K':KM} (h:K.le K') {l' l:List Value} (r:VRL K l' l):VRL K' l' l:=⟨r.len,fun i v' v e e'=>(r.at_ i v' v e e').mono h⟩
theorem VRL.nil (K:KM):VRL K [] []:=⟨rfl,fun i v' v h=>by simp at h⟩
theorem VRL.cons {K:KM} {v' v:Value} {l' l:List Value} (h:VR K v' v) (r:VRL K l' l):VRL K (v'::l') (v::l):=
 ⟨by simp [r.len],fun i x' x e e'=>by
  cases i with
  | zero=>simp at e e'; subst e e'; exact h
  | succ i=>exact r.at_ i x' x (by simpa using e) (by simpa using e')⟩
theorem VRL.head {K:KM} {v' v:Value} {l' l:List Value} (r:VRL K (v'::l') (v::l)):VR K v' v:=r.at_ 0 v' v rfl rfl
theorem VRL.tail {K:KM} {v' v:Value} {l' l:List Value} (r:VRL K (v'::l') (v::l)):VRL K l' l:=
 ⟨by simpa using r.len,fun i x' x e e'=>r.at_ (i+1) x' x (by simpa using e) (by simpa using e')⟩
theorem VRL.append {K:KM} {a' a b' b:List Value} (h:VRL K a' a) (r:VRL K b' b):VRL K (a' ++ b') (a ++ b):=
 ⟨by simp [h.len,r.len],fun i v' v e e'=>by
  by_cases hi:i<a.length
  · rw [List.getElem?_append_left (by rw [h.len]; exact hi)] at e
    rw [List.getElem?_append_left hi] at e'
    exact h.at_ i v' v e e'
  · rw [List.getElem?_append_right (by rw [h.len]; omega)] at e
    rw [List.getElem?_append_right (by omega)] at e'
    rw [h.len] at e
    exact r.at_ _ v' v e e'⟩
theorem VRL.take {K:KM} {a' a:List Value} (h:VRL K a' a) (n:Nat):VRL K (a'.take n) (a.take n):=
 ⟨by simp [h.len],fun i v' v e e'=>by
  rw [List.getElem?_take] at e e'
  split at e
  · rename_i hi; rw [if_pos hi] at e'; exact h.at_ i v' v e e'
  · cases e⟩
theorem VRL.drop {K:KM} {a' a:List Value} (h:VRL K a' a) (n:Nat):VRL K (a'.drop n) (a.drop n):=
 ⟨by simp [h.len],fun i v' v e e'=>by
  rw [List.getElem?_drop] at e e'
  exact h.at_ _ v' v e e'⟩
theorem VRL.refl_plain {K:KM} (l:List Value) (h:∀ v∈l,V.plain v=true):VRL K l l:=
 ⟨rfl,fun i v' v e e'=>by rw [e] at e'; cases e'; exact .plain (h _ (List.mem_of_getElem? e))⟩
theorem VR.undef (K:KM):VR K undef undef:=.tuple rfl fun i v' v h=>by simp at h
theorem U0 (l:List Value) (i:Nat):d9 l i=(l[i]?).getD Go.undef:=by
 induction l generalizing i with
 | nil=>rfl
 | cons v l ih=>cases i with
   | zero=>rfl
   | succ i=>exact ih i
theorem VRL.lget {K:KM} {l' l:List Value} (h:VRL K l' l) (i:Nat):VR K (d9 l' i) (d9 l i):=by
 rw [U0,U0]
 by_cases hi:i<l.length
 · have hi':i<l'.length:=by rw [h.len]; exact hi
   rw [List.getElem?_eq_getElem hi,List.getElem?_eq_getElem hi']
   exact h.at_ i _ _ (List.getElem?_eq_getElem hi') (List.getElem?_eq_getElem hi)
 · have e1:l[i]?=none:=List.getElem?_eq_none (by omega)
   have e2:l'[i]?=none:=List.getElem?_eq_none (by rw [h.len]; omega)
   rw [e1,e2]
   exact VR.undef K
theorem a1D (l:List Value) (i:Nat) (x:Value):a1t l i x=l.set i x:=by
 induction l generalizing i with
 | nil=>simp [a1t]
 | cons v l ih=>cases i with
   | zero=>rfl
   | succ i=>show v::a1t l i x=_; rw [ih]; rfl
theorem VRL.lset {K:KM} {l' l:List Value} (h:VRL K l' l) (i:Nat) {x' x:Value} (hx:VR K x' x):VRL K (l'.set i x') (a1t l i x):=by
 rw [a1D]
 refine ⟨by simp [h.len],fun j v' v e e'=>?_⟩
 rw [List.getElem?_set] at e e'
 split at e
 · rename_i hij
   subst hij
   rw [if_pos rfl] at e'
   split at e <;> split at e'
   · cases e; cases e'; exact hx
   · cases e'
   · cases e
   · cases e
 · rename_i hij; rw [if_neg hij] at e'; exact h.at_ j v' v e e'
theorem VR.oneCell {K:KM} {v' v:Value} (h:VR K v' v) (h1:X7 v=true):v'.oneCell'=true:=by
 cases h with
 | plain hp=>cases v' <;> first | rfl | exact absurd h1 (by simp [V.X7])
 | agg _ _=>exact absurd h1 (by simp [V.X7])
 | tuple _ _=>exact absurd h1 (by simp [V.X7])
 | _=>rfl
structure MR (K:KM) (es':List MapEntry) (es:List (Value×Value)):Prop where
 len:es'.length=es.length
 key:∀ (i:Nat) (e':MapEntry) (e:Value×Value),es'[i]?=some e'→es[i]?=some e→e'.key=e.1∧VR K e'.val e.2
structure Base where
 w:World
 R:Nat→Prop
structure Sim (B0:Nat) (w0:Base) (K:KM) (h:Trie VObj) (w:World):Prop where
 size0:B0≤w0.w.heap.size∧∀ k,B0≤k→w0.R k
 below:Below B0 w0.w w
 dom':∀ b g l,K b g=some l→l.blk<w.heap.size∧w0.R l.blk
 dom2:∀ b g l,K b g=some l→∃ o,h.get b=some o
 own:∀ b g l,K b g=some l→l.own=true→B0≤l.blk
 apart:∀ b g l b' g' l',K b g=some l→K b' g'=some l'→b≠b'→l.own=true→l.blk≠l'.blk
 same:∀ b g l g' l',K b g=some l→K b g'=some l'→l.own=l'.own∧(l.blk=l'.blk→l.at_+l'.lo=l'.at_+l.lo)
 room:∀ b g l cs cur ro,K b g=some l→l.own=true→h.get b=some (.cells cs cur ro)→∃ c e fz,w.heap[l.blk]?=some (.cells c e fz)∧c.size=l.sz∧∀ o,o<l.sz→w.frozen? ⟨l.blk,o,none⟩=false
 gens:∀ b cs cur ro,h.get b=some (.cells cs cur ro)→(∀ g l,K b g=some l→g≤cur∧(ro=false→l.own=true))∧(∀ g,g≤cur→∃ l,K b g=some l)∧∀ c,c∈cs→c.2≤cur
 cells:∀ b cs cur ro g l,h.get b=some (.cells cs cur ro)→K b g=some l→∀ (off:Nat) v st,cs[off]?=some (v,st)→st≤g→l.lo≤off →
  ∃ v',w.cell? ⟨l.blk,l.at_+(off - l.lo),none⟩=some v'∧VR K v' v
 map:∀ b es,h.get b=some (.map es)→∃ l es' clock,K b 0=some l∧l.own=true∧w.heap[l.blk]?=some (.map es' clock)∧MR K es'.toList es
 siter:∀ b s pos,h.get b=some (.siter s pos)→∃ l,K b 0=some l∧l.own=true∧l.lo=0∧l.at_=0∧w.heap[l.blk]?=some (.stringIter s pos)
 gen0:∀ b g l,K b g=some l→(∀ cs cur ro,h.get b≠some (.cells cs cur ro))→g=0
theorem Sim.dom {B0:Nat} {w0:Base} {K:KM} {h:Trie VObj} {w:World} (S:Sim B0 w0 K h w):∀ b g l,K b g=some l→l.blk<w.heap.size:=fun b g l q=>(S.dom' b g l q).1
theorem a0U (g:Nat):∀ (cs:List (Value×Nat)) (n:Nat) (vs:List Value),X0 g cs n=some vs →
 vs.length=n∧∀ i,i<n→∃ v st,cs[i]?=some (v,st)∧st≤g∧vs[i]?=some v:=by
 intro cs
 induction cs with
 | nil=>
   intro n vs h
   cases n with
   | zero=>cases h; simp
   | succ n=>cases h
 | cons c cs ih=>
   intro n vs h
   cases n with
   | zero=>cases h; simp
   | succ n=>
     have h':(match Nat.ble c.2 g with | true=>(match X0 g cs n with | some vs=>some (c.1::vs) | none=>none) | false=>none)=some vs:=h
     split at h'
     · rename_i hb
       split at h'
       · rename_i vs' hvs
         cases h'
         obtain ⟨h1,h2⟩:=ih n vs' hvs
         refine ⟨by simp [h1],fun i hi=>?_⟩
         cases i with
         | zero=>exact ⟨c.1,c.2,rfl,Nat.le_of_ble_eq_true hb,rfl⟩
         | succ i=>obtain ⟨v,st,e1,e2,e3⟩:=h2 i (by omega); exact ⟨v,st,by simpa using e1,e2,by simpa using e3⟩
       · cases h'
     · cases h'
theorem a1p (b o n:Nat):(⟨b,o,none⟩:Addr).add n=⟨b,o+n,none⟩:=by
 unfold Addr.add; split
 · rename_i h; subst h; rfl
 · rfl
theorem a1Q {a:Addr} {n:Nat} {s s':S} {vs:List Value} (h:loadN a n s=some (vs,s')) :
 ∃ g cs cur ro,a.spot=some g∧s.h.get a.block=some (.cells cs cur ro)∧X0 g (cs.drop a.off) n=some vs∧s'.c=s.c∧s'.h=s.h:=by
 unfold loadN at h
 cases hg:a.spot with
 | none=>rw [hg] at h; cases h
 | some g=>
   rw [hg] at h
   simp only [M.obind,M.bind,rd] at h
   cases hb:Nat.blt a.block s.c with
   | false=>rw [hb] at h; cases h
   | true=>
     rw [hb] at h
     cases ho:s.h.get a.block with
     | none=>rw [ho] at h; cases h
     | some o=>
       rw [ho] at h
       cases o with
       | cells cs cur ro=>
         simp only [a1d,M.lift,a2B] at h
         cases ht:X0 g (cs.drop a.off) n with
         | none=>rw [ht] at h; cases h
         | some vs1=>rw [ht] at h; cases h; exact ⟨g,cs,cur,ro,rfl,rfl,ht,rfl,rfl⟩
       | map es=>cases h
       | siter x y=>cases h
theorem a1q {B0:Nat} {w0:Base} {K:KM} {h:Trie VObj} {w:World} (S:Sim B0 w0 K h w) {b g off n:Nat} {l:Loc} {cs:List (Value×Nat)} {cur:Nat} {ro:Bool} {vs:List Value}
 (hk:K b g=some l) (hlo:l.lo≤off) (ho:h.get b=some (.cells cs cur ro)) (ht:X0 g (cs.drop off) n=some vs) :
 ∃ vs':List Value,VRL K vs' vs∧vs.length=n∧∀ (j:Nat) v',vs'[j]?=some v'→w.cell? ⟨l.blk,l.at_+(off - l.lo)+j,none⟩=some v':=by
 obtain ⟨h1,h2⟩:=a0U g _ n vs ht
 have h3:∀ i, ∃ v',i<n→w.cell? ⟨l.blk,l.at_+(off - l.lo)+i,none⟩=some v'∧∀ v,vs[i]?=some v→VR K v' v:=by
  intro i
  by_cases hi:i<n
  · obtain ⟨v,st,e1,e2,e3⟩:=h2 i hi
    rw [List.getElem?_drop] at e1
    obtain ⟨v',c1,c2⟩:=S.cells b cs cur ro g l ho hk (off+i) v st e1 e2 (by omega)
    refine ⟨v',fun _=>⟨?_,fun u hu=>?_⟩⟩
    · rw [show l.at_+(off - l.lo)+i=l.at_+(off+i - l.lo) by omega]; exact c1
    · rw [e3] at hu; cases hu; exact c2
  · exact ⟨undef,fun h=>absurd h hi⟩
 refine ⟨(List.range n).map fun i=>Classical.choose (h3 i),⟨by simp [h1],fun i v' v e e'=>?_⟩,h1,fun j v' e=>?_⟩
 · have hi:i<n:=by
    have:=(List.getElem?_eq_some_iff.1 e).1; simpa using this
   rw [List.getElem?_map,List.getElem?_range hi] at e
   cases e
   exact (Classical.choose_spec (h3 i) hi).2 v e'
 · have hi:j<n:=by
    have:=(List.getElem?_eq_some_iff.1 e).1; simpa using this
   rw [List.getElem?_map,List.getElem?_range hi] at e
   cases e
   exact (Classical.choose_spec (h3 j) hi).1
theorem a2Z {P:Program} {B0:Nat} {w0:Base} {K:KM} {w:World} {a:Addr} {n:Nat} {s s':S} {vs:List Value} (h:loadN a n s=some (vs,s')) (S:Sim B0 w0 K s.h w)
 {a':Addr} (r:VR K (.pointer (some a')) (.pointer (some a))) :
 ∃ vs',(loadCells a' n).run P w=.ok vs'.toArray w∧VRL K vs' vs∧vs'.length=n∧s'.c=s.c∧s'.h=s.h:=by
 obtain ⟨g,cs,cur,ro,e1,e2,e3,e4,e5⟩:=a1Q h
 generalize hv:Value.pointer (some a)=v at r
 generalize hv':Value.pointer (some a')=v' at r
 cases r with
 | plain hp=>subst hv; cases hv'; simp [V.plain] at hp
 | ptr hk hlo=>
   cases hv; cases hv'
   cases e1
   obtain ⟨vs',c1,c2,c3⟩:=a1q S hk hlo e2 e3
   have hn:vs'.length=n:=by rw [c1.len,c2]
   refine ⟨vs', ?_,c1,hn,e4,e5⟩
   have:=run_loadCells_list (P:=P) w (⟨_,_,none⟩:Addr) vs' (fun j v hj=>by rw [a1p]; exact c3 j v hj)
   rw [hn] at this
   exact this
 | _=>cases hv
structure Upd (w w':World) (b o:Nat) (vs:List Value):Prop where
 os:w'.os=w.os
 tape:w'.tape=w.tape
 output:w'.output=w.output
 size:w'.heap.size=w.heap.size
 other:∀ k,k≠b→w'.heap[k]?=w.heap[k]?
 blk:∀ c e fz,w.heap[b]?=some (.cells c e fz)→∃ c',w'.heap[b]?=some (.cells c' e fz)∧c'.size=c.size ∧
  ∀ j,c'[j]?=if o≤j∧j<o+vs.length then (if j<c.size then vs[j - o]? else none) else c[j]?
theorem Upd.nil (w:World) (b o:Nat):Upd w w b o []:=
 ⟨rfl,rfl,rfl,rfl,fun _ _=>rfl,fun c e fz h=>⟨c,h,rfl,fun j=>by rw [if_neg (by simp)]⟩⟩
theorem a2y (P:Program) (b:Nat):∀ (vs:List Value) (o i:Nat) (w:World),
 (∀ j,j<vs.length→(w.cell? ⟨b,o+i+j,none⟩).isSome=true)→(∀ j,j<vs.length→w.frozen? ⟨b,o+i+j,none⟩=false)→(∀ v∈vs,v.oneCell'=true) →
 ∃ w',(storeCells ⟨b,o,none⟩ vs i).run P w=.ok () w'∧Upd w w' b (o+i) vs
 | [],o,i,w,_,_,_=>⟨w,rfl,Upd.nil w b _⟩
 | v::vs,o,i,w,hc,hf,h1=>by
   have c0:=hc 0 (by simp)
   have f0:=hf 0 (by simp)
   simp only [Nat.add_zero] at c0 f0
   obtain ⟨u,hu⟩:=Option.isSome_iff_exists.1 c0
   have hne:∀ j,(⟨b,o+i,none⟩:Addr)≠⟨b,o+i+(j+1),none⟩:=fun j h=>by
    have:=congrArg Addr.off h; simp at this
   obtain ⟨w',r1,r2⟩:=a2y P b vs o (i+1) (w.setCell ⟨b,o+i,none⟩ v)
    (fun j hj=>by
      have:=hc (j+1) (by simpa using hj)
      rw [show o+(i+1)+j=o+i+(j+1) by omega,World.cell?_setCell_other _ _ _ _ (hne j)]; exact this)
    (fun j hj=>by
      have:=hf (j+1) (by simpa using hj)
      rw [show o+(i+1)+j=o+i+(j+1) by omega,World.frozen?_setCell]; exact this)
    (fun x hx=>h1 x (List.mem_cons_of_mem _ hx))
   refine ⟨w', ?_, ?_⟩
   · simp only [storeCells,Sem.run_bind,a1p]
     rw [run_store P w _ v .plain (h1 v (List.mem_cons_self ..))]
     simp only [hu,f0]
     simpa using r1
   · refine ⟨r2.os,r2.tape,r2.output,by rw [r2.size]; simp, ?_, ?_⟩
     · intro k hk
       rw [r2.other k hk,RowKit.Below.heap_setCell _ _ _ _ hk]
     · intro c e fz hb
       have hb':(w.setCell ⟨b,o+i,none⟩ v).heap[b]?=some (.cells (c.setIfInBounds (o+i) v) e fz):=by
        simp [World.setCell,Array.getElem?_modify,hb]
       obtain ⟨c',g1,g2,g3⟩:=r2.blk _ e fz hb'
       refine ⟨c',g1,by rw [g2]; simp,fun j=>?_⟩
       rw [g3 j]
       simp only [Array.size_setIfInBounds,List.length_cons]
       by_cases hj:j=o+i
       · subst hj
         rw [if_neg (by omega),if_pos (by omega)]
         simp [Array.getElem?_setIfInBounds]
       · by_cases hj2:o+i≤j∧j<o+i+(vs.length+1)
         · rw [if_pos (by omega),if_pos hj2]
           by_cases hs:j<c.size
           · rw [if_pos hs,if_pos hs,show j - (o+i)=(j - (o+(i+1)))+1 by omega]; simp
           · rw [if_neg hs,if_neg hs]
         · rw [if_neg (by omega),if_neg hj2,Array.getElem?_setIfInBounds,if_neg (fun h=>hj h.symm)]
theorem Upd.cell_other {w w':World} {b o:Nat} {vs:List Value} (u:Upd w w' b o vs) {c:Array Value} {e:TypeId} {fz:Nat×Nat} (hw:w.heap[b]?=some (.cells c e fz))
 (a:Addr) (h:a.block≠b∨¬ (o≤a.off∧a.off<o+vs.length)):w'.cell? a=w.cell? a:=by
 by_cases hb:a.block=b
 · rcases h with h | h
   · exact absurd hb h
   · obtain ⟨c',g1,g2,g3⟩:=u.blk c e fz hw
     simp only [World.cell?,hb,hw,g1,g3 a.off,if_neg h]
 · exact World.cell?_of_block (w:=w) (u.other _ hb)
theorem Upd.cell_new {w w':World} {b o:Nat} {vs:List Value} (u:Upd w w' b o vs) {c:Array Value} {e:TypeId} {fz:Nat×Nat} (hw:w.heap[b]?=some (.cells c e fz))
 (hs:o+vs.length≤c.size) (j:Nat) (v:Value) (hj:vs[j]?=some v):w'.cell? ⟨b,o+j,none⟩=some v:=by
 obtain ⟨c',g1,g2,g3⟩:=u.blk c e fz hw
 have hlt:j<vs.length:=(List.getElem?_eq_some_iff.1 hj).1
 have e1:c'[o+j]?=vs[j]?:=by
  rw [g3 (o+j),if_pos (by omega),if_pos (by omega),show o+j - o=j by omega]
 simp only [World.cell?,g1]
 rw [if_neg (by simp),e1,hj]
theorem Upd.frozen {w w':World} {b o:Nat} {vs:List Value} (u:Upd w w' b o vs) {c:Array Value} {e:TypeId} {fz:Nat×Nat} (hw:w.heap[b]?=some (.cells c e fz)) (a:Addr):w'.frozen? a=w.frozen? a:=by
 by_cases hb:a.block=b
 · obtain ⟨c',g1,_,_⟩:=u.blk c e fz hw
   simp only [World.frozen?,hb,hw,g1]
 · exact World.frozen?_of_block (w:=w) (u.other _ hb)
theorem Upd.below {w w':World} {b o:Nat} {vs:List Value} (u:Upd w w' b o vs) {B:Nat} (hB:B≤b):Below B w w':=
 ⟨u.os,u.tape,u.output,by rw [u.size]; exact Nat.le_refl _,fun k hk=>u.other k (by omega)⟩
theorem a2d (g:Nat):∀ (vs:List Value) (cs:List (Value×Nat)) (j:Nat),(Z7 g vs cs)[j]?=if j<vs.length then (vs[j]?).map (fun v=>(v,g)) else cs[j]?:=by
 intro vs
 induction vs with
 | nil=>intro cs j; rfl
 | cons v vs ih=>
   intro cs j
   cases cs with
   | nil=>
     show ((v,g)::Z7 g vs [])[j]?=_
     cases j with
     | zero=>simp
     | succ j=>simp only [List.getElem?_cons_succ,List.length_cons,Nat.succ_lt_succ_iff]; rw [ih]; simp
   | cons c cs=>
     show ((v,g)::Z7 g vs cs)[j]?=_
     cases j with
     | zero=>simp
     | succ j=>simp only [List.getElem?_cons_succ,List.length_cons,Nat.succ_lt_succ_iff]; rw [ih]
theorem b0S (g:Nat) (vs:List Value):∀ (cs:List (Value×Nat)) (n:Nat) (cs':List (Value×Nat)),a1N g vs cs n=some cs' →
 ∀ (j:Nat),cs'[j]?=if n≤j∧j<n+vs.length then (vs[j - n]?).map (fun v=>(v,g)) else cs[j]?:=by
 intro cs
 induction cs with
 | nil=>
   intro n cs' h j
   cases n with
   | zero=>
     have:cs'=Z7 g vs []:=by cases h; rfl
     rw [this,a2d]
     by_cases hj:j<vs.length <;> simp [hj]
   | succ n=>cases h
 | cons c cs ih=>
   intro n cs' h j
   cases n with
   | zero=>
     have:cs'=Z7 g vs (c::cs):=by cases h; rfl
     rw [this,a2d]
     by_cases hj:j<vs.length <;> simp [hj]
   | succ n=>
     have h':(match a1N g vs cs n with | some cs'=>some (c::cs') | none=>none)=some cs':=h
     split at h'
     · rename_i cs1 hc
       cases h'
       cases j with
       | zero=>simp
       | succ j=>
         simp only [List.getElem?_cons_succ]
         rw [ih n cs1 hc j]
         by_cases hj:n≤j∧j<n+vs.length
         · rw [if_pos hj,if_pos (by omega),show j+1 - (n+1)=j - n by omega]
         · rw [if_neg hj,if_neg (by omega)]
     · cases h'
theorem a5z {i:Nat} {o:VObj} {s s':S} {u:Unit} (h:wr i o s=some (u,s')) :
 (∃ o',s.h.get i=some o')∧s'.c=s.c∧∀ j,s'.h.get j=if j=i then some o else s.h.get j:=by
 unfold wr at h
 split at h
 · split at h
   · rename_i o' ho
     rw [Trie.putK_eq] at h
     cases h
     exact ⟨⟨o',ho⟩,rfl,fun j=>Trie.get_put _ _ _ _ (Nat.lt_succ_self _) j⟩
   · cases h
 · cases h
theorem Upd.room {w w':World} {b o:Nat} {vs:List Value} (u:Upd w w' b o vs) {k n:Nat} (h:∃ c e fz,w.heap[k]?=some (.cells c e fz)∧c.size=n∧∀ o,o<n→w.frozen? ⟨k,o,none⟩=false)
 {c0:Array Value} {e0:TypeId} {fz0:Nat×Nat} (hw:w.heap[b]?=some (.cells c0 e0 fz0)) :
 ∃ c e fz,w'.heap[k]?=some (.cells c e fz)∧c.size=n∧∀ o,o<n→w'.frozen? ⟨k,o,none⟩=false:=by
 obtain ⟨c,e,fz,h1,h2,h3⟩:=h
 by_cases hk:k=b
 · subst hk
   obtain ⟨c',g1,g2,_⟩:=u.blk c e fz h1
   exact ⟨c',e,fz,g1,by omega,fun o ho=>by rw [u.frozen h1]; exact h3 o ho⟩
 · exact ⟨c,e,fz,by rw [u.other k hk]; exact h1,h2,fun o ho=>by rw [u.frozen hw]; exact h3 o ho⟩
theorem d2h {B0:Nat} {w0:Base} {K:KM} {h h':Trie VObj} {w w':World} (S:Sim B0 w0 K h w) {b cur off:Nat} {l:Loc} {cs cs':List (Value×Nat)} {vs vs':List Value}
 (hk:K b cur=some l) (hlo:l.lo≤off) (ho:h.get b=some (.cells cs cur false)) (hlen:off+vs.length≤cs.length) (hpos:0<vs.length)
 (hcs:∀ (j:Nat),cs'[j]?=if off≤j∧j<off+vs.length then (vs[j - off]?).map (fun v=>(v,cur)) else cs[j]?)
 (hh:∀ j,h'.get j=if j=b then some (.cells cs' cur false) else h.get j)
 (hv:VRL K vs' vs) (u:Upd w w' l.blk (l.at_+(off - l.lo)) vs'):Sim B0 w0 K h' w':=by
 obtain ⟨hg1,hg2,hg3⟩:=S.gens b cs cur false ho
 have hown:l.own=true:=(hg1 cur l hk).2 rfl
 obtain ⟨c,e,fz,hc1,hc2,hc3⟩:=S.room b cur l cs cur false hk hown ho
 have hsz:l.at_+(off - l.lo)+vs'.length≤c.size:=by
  have h1:off+vs.length - 1<cs.length:=by omega
  obtain ⟨v',q1,_⟩:=S.cells b cs cur false cur l ho hk (off+vs.length - 1) cs[off+vs.length - 1].1 cs[off+vs.length - 1].2 (List.getElem?_eq_getElem h1) (hg3 _ (List.getElem_mem h1)) (by omega)
  simp only [World.cell?,hc1] at q1
  have:=(Array.getElem?_eq_some_iff.1 (by simpa using q1)).1
  rw [hv.len]; omega
 have hb:h'.get b=some (.cells cs' cur false):=by rw [hh,if_pos rfl]
 have hnb:∀ j,j≠b→h'.get j=h.get j:=fun j hj=>by rw [hh,if_neg hj]
 refine ⟨S.size0,S.below.trans (u.below (S.own b cur l hk hown)),fun b2 g2 l2 q=>by rw [u.size]; exact S.dom' b2 g2 l2 q,fun b2 g2 l2 q=>by by_cases hx:b2=b; exact ⟨_,by rw [hx]; exact hb⟩; rw [hnb b2 hx]; exact S.dom2 b2 g2 l2 q,S.own,S.apart,S.same, ?_, ?_, ?_, ?_, ?_,(fun b2 g2 l2 q hnc=>by
  by_cases hx:b2=b
  · exact absurd (by rw [hx]; exact hb) (hnc _ _ _)
  · exact S.gen0 b2 g2 l2 q (fun cs cur ro e=>hnc cs cur ro (by rw [hnb b2 hx]; exact e)))⟩
 · intro b2 g2 l2 cs2 cur2 ro2 q1 q2 q3
   by_cases hb2:b2=b
   · subst hb2
     exact u.room (S.room b2 g2 l2 cs cur false q1 q2 ho) hc1
   · rw [hnb b2 hb2] at q3
     exact u.room (S.room b2 g2 l2 cs2 cur2 ro2 q1 q2 q3) hc1
 · intro b2 cs2 cur2 ro2 q
   by_cases hb2:b2=b
   · subst hb2
     rw [hb] at q
     cases q
     refine ⟨hg1,hg2,fun x hx=>?_⟩
     obtain ⟨j,hj,hx⟩:=List.getElem_of_mem hx
     have e1:=hcs j
     rw [List.getElem?_eq_getElem hj,hx] at e1
     split at e1
     · cases hvj:vs[j - off]? with
       | none=>rw [hvj] at e1; cases e1
       | some y=>rw [hvj] at e1; cases e1; exact Nat.le_refl _
     · exact hg3 x (List.mem_of_getElem? e1.symm)
   · rw [hnb b2 hb2] at q
     exact S.gens b2 cs2 cur2 ro2 q
 · intro b2 cs2 cur2 ro2 g2 l2 q1 q2 off2 v st q3 q4 q5
   by_cases hb2:b2=b
   · subst hb2
     rw [hb] at q1
     cases q1
     have e1:=hcs off2
     rw [q3] at e1
     split at e1
     · rename_i hr
       cases hvj:vs[off2 - off]? with
       | none=>rw [hvj] at e1; cases e1
       | some y=>
         rw [hvj] at e1
         cases e1
         have hgc:g2=cur:=Nat.le_antisymm (hg1 g2 l2 q2).1 q4
         subst hgc
         rw [hk] at q2
         cases q2
         have hlt:off2 - off<vs'.length:=by rw [hv.len]; omega
         refine ⟨vs'[off2 - off], ?_,hv.at_ _ _ _ (List.getElem?_eq_getElem hlt) hvj⟩
         rw [show l.at_+(off2 - l.lo)=l.at_+(off - l.lo)+(off2 - off) by omega]
         exact u.cell_new hc1 hsz _ _ (List.getElem?_eq_getElem hlt)
     · rename_i hr
       obtain ⟨v',r1,r2⟩:=S.cells b2 cs cur false g2 l2 ho q2 off2 v st e1.symm q4 q5
       refine ⟨v', ?_,r2⟩
       rw [u.cell_other hc1 _ ?_]
       · exact r1
       · by_cases hbk:l2.blk=l.blk
         · right
           have:=(S.same b2 cur l g2 l2 hk q2).2 hbk.symm
           have hl:=hv.len
           dsimp only
           omega
         · exact Or.inl hbk
   · rw [hnb b2 hb2] at q1
     obtain ⟨v',r1,r2⟩:=S.cells b2 cs2 cur2 ro2 g2 l2 q1 q2 off2 v st q3 q4 q5
     refine ⟨v', ?_,r2⟩
     rw [u.cell_other hc1 _ (Or.inl (S.apart b cur l b2 g2 l2 hk q2 (Ne.symm hb2) hown).symm)]
     exact r1
 · intro b2 es q
   have hb2:b2≠b:=fun h=>by rw [h,hb] at q; cases q
   rw [hnb b2 hb2] at q
   obtain ⟨l2,es',clock,r1,r2,r3,r4⟩:=S.map b2 es q
   exact ⟨l2,es',clock,r1,r2,by rw [u.other _ (S.apart b cur l b2 0 l2 hk r1 (Ne.symm hb2) hown).symm]; exact r3,r4⟩
 · intro b2 x pos q
   have hb2:b2≠b:=fun h=>by rw [h,hb] at q; cases q
   rw [hnb b2 hb2] at q
   obtain ⟨l2,r1,r2,r3,r4,r5⟩:=S.siter b2 x pos q
   exact ⟨l2,r1,r2,r3,r4,by rw [u.other _ (S.apart b cur l b2 0 l2 hk r1 (Ne.symm hb2) hown).symm]; exact r5⟩
theorem c0V {a:Addr} {vs:List Value} {s s':S} {u:Unit} (h:storeN a vs s=some (u,s')) :
 ∃ cur cs cs',a.spot=some cur∧s.h.get a.block=some (.cells cs cur false)∧(∀ v∈vs,X7 v=true)∧a.off+vs.length≤cs.length ∧
   a1N cur vs cs a.off=some cs'∧s'.c=s.c∧∀ j,s'.h.get j=if j=a.block then some (.cells cs' cur false) else s.h.get j:=by
 unfold storeN at h
 cases hg:a.spot with
 | none=>rw [hg] at h; cases h
 | some g=>
   rw [hg] at h
   simp only [M.obind,M.bind,rd] at h
   cases hb:Nat.blt a.block s.c with
   | false=>rw [hb] at h; cases h
   | true=>
     rw [hb] at h
     cases ho:s.h.get a.block with
     | none=>rw [ho] at h; cases h
     | some o=>
       rw [ho] at h
       cases o with
       | cells cs cur ro=>
         simp only [a1d] at h
         cases hgd:(Nat.beq g cur && !ro && L6 X7 vs && Nat.ble (a.off+F4 vs) (F4 cs)) with
         | false=>rw [hgd] at h; cases h
         | true=>
           rw [hgd] at h
           simp only [Bool.and_eq_true,Bool.not_eq_true',K9,J2] at hgd
           obtain ⟨⟨⟨g1,g2⟩,g3⟩,g4⟩:=hgd
           have g1:=Nat.eq_of_beq_eq_true g1
           have g4:=Nat.le_of_ble_eq_true g4
           subst g1 g2
           simp only [M.guard] at h
           cases hp:a1N g vs cs a.off with
           | none=>rw [hp] at h; cases h
           | some cs'=>
             rw [hp] at h
             simp only [U3] at h
             obtain ⟨_,w2,w3⟩:=a5z h
             exact ⟨g,cs,cs',rfl,rfl,g3,g4,hp,w2,w3⟩
       | map es=>cases h
       | siter x y=>cases h
theorem a0X {K:KM} {a a':Addr} (r:VR K (.pointer (some a')) (.pointer (some a))):∃ g l,a.spot=some g∧K a.block g=some l∧l.lo≤a.off∧a'=⟨l.blk,l.at_+(a.off - l.lo),none⟩:=by
 generalize hv:Value.pointer (some a)=v at r
 generalize hv':Value.pointer (some a')=v' at r
 cases r with
 | plain hp=>subst hv; cases hv'; simp [V.plain] at hp
 | ptr hk hlo=>cases hv; cases hv'; exact ⟨_,_,rfl,hk,hlo,rfl⟩
 | _=>cases hv
theorem c0T {P:Program} {B0:Nat} {w0:Base} {K:KM} {w:World} {a:Addr} {s s':S} {vs vs':List Value} {u:Unit} (h:storeN a vs s=some (u,s')) (S:Sim B0 w0 K s.h w) (hpos:0<vs.length)
 {a':Addr} (r:VR K (.pointer (some a')) (.pointer (some a))) (hv:VRL K vs' vs) :
 ∃ w',(storeCells a' vs').run P w=.ok () w'∧Sim B0 w0 K s'.h w'∧s'.c=s.c:=by
 obtain ⟨cur,cs,cs',e1,e2,e3,e4,e5,e6,e7⟩:=c0V h
 obtain ⟨g,l,f1,f2,f3,rfl⟩:=a0X r
 rw [e1] at f1; cases f1
 obtain ⟨hg1,hg2,hg3⟩:=S.gens _ cs cur false e2
 have hown:l.own=true:=(hg1 cur l f2).2 rfl
 obtain ⟨c,e,fz,hc1,hc2,hc3⟩:=S.room _ cur l cs cur false f2 hown e2
 have hcell:∀ j,j<vs'.length→(w.cell? ⟨l.blk,l.at_+(a.off - l.lo)+0+j,none⟩).isSome=true:=by
  intro j hj
  have h1:a.off+j<cs.length:=by rw [hv.len] at hj; omega
  obtain ⟨v',q1,_⟩:=S.cells _ cs cur false cur l e2 f2 (a.off+j) cs[a.off+j].1 cs[a.off+j].2 (List.getElem?_eq_getElem h1) (hg3 _ (List.getElem_mem h1)) (by omega)
  rw [show l.at_+(a.off - l.lo)+0+j=l.at_+(a.off+j - l.lo) by omega,q1]; rfl
 obtain ⟨w',r1,r2⟩:=a2y P l.blk vs' (l.at_+(a.off - l.lo)) 0 w hcell
  (fun j hj=>by
    refine hc3 _ ?_
    have:=hcell j hj
    obtain ⟨x,hx⟩:=Option.isSome_iff_exists.1 this
    simp only [World.cell?,hc1] at hx
    have:=(Array.getElem?_eq_some_iff.1 (by simpa using hx)).1
    omega)
  (fun v hvm=>by
    obtain ⟨j,hj,rfl⟩:=List.getElem_of_mem hvm
    have hj2:j<vs.length:=by rw [← hv.len]; exact hj
    exact (hv.at_ j _ _ (List.getElem?_eq_getElem hj) (List.getElem?_eq_getElem hj2)).oneCell (e3 _ (List.getElem_mem hj2)))
 exact ⟨w',r1,d2h S f2 f3 e2 e4 hpos (b0S cur vs cs a.off cs' e5) e7 hv r2,e6⟩
def KM.put (K:KM) (b g:Nat) (l:Loc):KM:=fun b' g'=>if b'=b∧g'=g then some l else K b' g'
theorem KM.put_same (K:KM) (b g:Nat) (l:Loc):K.put b g l b g=some l:=by simp [KM.put]
theorem KM.put_other (K:KM) {b g b' g':Nat} (l:Loc) (h:¬ (b'=b∧g'=g)):K.put b g l b' g'=K b' g':=by simp [KM.put,h]
theorem KM.le_put (K:KM) {b g:Nat} (l:Loc) (h:K b g=none):K.le (K.put b g l):=fun b' g' l' e=>by
 rw [KM.put_other K l (fun ⟨h1,h2⟩=>by rw [h1,h2,h] at e; cases e)]; exact e
theorem KM.put_inv {K:KM} {b g b' g':Nat} {l l':Loc} (h:K.put b g l b' g'=some l'):(b'=b∧g'=g∧l'=l)∨K b' g'=some l':=by
 unfold KM.put at h
 split at h
 · rename_i q; cases h; exact Or.inl ⟨q.1,q.2,rfl⟩
 · exact Or.inr h
structure Grew (w w':World):Prop where
 os:w'.os=w.os
 tape:w'.tape=w.tape
 output:w'.output=w.output
 size:w.heap.size≤w'.heap.size
 old:∀ k,k<w.heap.size→w'.heap[k]?=w.heap[k]?
theorem Grew.refl (w:World):Grew w w:=⟨rfl,rfl,rfl,Nat.le_refl _,fun _ _=>rfl⟩
theorem Grew.trans {a b c:World} (h:Grew a b) (k:Grew b c):Grew a c:=
 ⟨k.os.trans h.os,k.tape.trans h.tape,k.output.trans h.output,Nat.le_trans h.size k.size,fun i hi=>(k.old i (Nat.lt_of_lt_of_le hi h.size)).trans (h.old i hi)⟩
theorem Grew.alloc (w:World) (o:Obj):Grew w (w.alloc o):=
 ⟨rfl,rfl,rfl,by simp,fun k hk=>RowKit.Below.heap_alloc w o k hk⟩
theorem Grew.drew (w:World):Grew w w.drew:=⟨rfl,rfl,rfl,Nat.le_refl _,fun _ _=>rfl⟩
theorem Grew.cell {w w':World} (h:Grew w w') {a:Addr} (ha:a.block<w.heap.size):w'.cell? a=w.cell? a:=World.cell?_of_block (w:=w) (h.old _ ha)
theorem Grew.frozen {w w':World} (h:Grew w w') {a:Addr} (ha:a.block<w.heap.size):w'.frozen? a=w.frozen? a:=World.frozen?_of_block (w:=w) (h.old _ ha)
theorem Grew.below {w w':World} (h:Grew w w') {B:Nat} (hB:B≤w.heap.size):Below B w w':=⟨h.os,h.tape,h.output,h.size,fun k hk=>h.old k (by omega)⟩
theorem Sim.base {B0:Nat} {w0:Base} {K:KM} {h:Trie VObj} {w:World} (S:Sim B0 w0 K h w):B0≤w.heap.size:=Nat.le_trans S.size0.1 S.below.size
theorem a0z {B0:Nat} {w0:Base} {K:KM} {h:Trie VObj} {w w':World} (S:Sim B0 w0 K h w) (G:Grew w w'):Sim B0 w0 K h w':=by
 refine ⟨S.size0,S.below.trans (G.below S.base),fun b g l q=>⟨Nat.lt_of_lt_of_le (S.dom b g l q) G.size,(S.dom' b g l q).2⟩,S.dom2,S.own,S.apart,S.same, ?_,S.gens, ?_, ?_, ?_,S.gen0⟩
 · intro b g l cs cur ro q1 q2 q3
   obtain ⟨c,e,fz,r1,r2,r3⟩:=S.room b g l cs cur ro q1 q2 q3
   exact ⟨c,e,fz,by rw [G.old _ (S.dom b g l q1)]; exact r1,r2,fun o ho=>by rw [G.frozen (S.dom b g l q1)]; exact r3 o ho⟩
 · intro b cs cur ro g l q1 q2 off v st q3 q4 q5
   obtain ⟨v',r1,r2⟩:=S.cells b cs cur ro g l q1 q2 off v st q3 q4 q5
   exact ⟨v',by rw [G.cell (S.dom b g l q2)]; exact r1,r2⟩
 · intro b es q
   obtain ⟨l,es',clock,r1,r2,r3,r4⟩:=S.map b es q
   exact ⟨l,es',clock,r1,r2,by rw [G.old _ (S.dom b 0 l r1)]; exact r3,r4⟩
 · intro b x pos q
   obtain ⟨l,r1,r2,r3,r4,r5⟩:=S.siter b x pos q
   exact ⟨l,r1,r2,r3,r4,by rw [G.old _ (S.dom b 0 l r1)]; exact r5⟩
theorem MR.mono {K K':KM} (h:K.le K') {a:List MapEntry} {b:List (Value×Value)} (r:MR K a b):MR K' a b:=
 ⟨r.len,fun i e' e q q'=>⟨(r.key i e' e q q').1,(r.key i e' e q q').2.mono h⟩⟩
theorem c0f {B0:Nat} {w0:Base} {K:KM} {h h':Trie VObj} {w:World} (S:Sim B0 w0 K h w) {c:Nat} {l:Loc} {o:VObj}
 (hK:∀ g,K c g=none) (hh:∀ j,h'.get j=if j=c then some o else h.get j) (hl:l.blk<w.heap.size) (hB:B0≤l.blk) (hown:l.own=true)
 (hfresh:∀ b g l',K b g=some l'→l'.blk≠l.blk)
 (hcells:∀ cs cur ro,o=.cells cs cur ro→cur=0∧ro=false∧(∀ x∈cs,x.2=0)∧l.lo=0 ∧
   (∃ a e fz,w.heap[l.blk]?=some (.cells a e fz)∧a.size=l.sz∧∀ o,o<l.sz→w.frozen? ⟨l.blk,o,none⟩=false) ∧
   ∀ (off:Nat) v st,cs[off]?=some (v,st)→∃ v',w.cell? ⟨l.blk,l.at_+off,none⟩=some v'∧VR K v' v)
 (hmap:∀ es,o=.map es→∃ es' clock,w.heap[l.blk]?=some (.map es' clock)∧MR K es'.toList es)
 (hiter:∀ x pos,o=.siter x pos→l.lo=0∧l.at_=0∧w.heap[l.blk]?=some (.stringIter x pos)) :
 Sim B0 w0 (K.put c 0 l) h' w:=by
 have hle:K.le (K.put c 0 l):=KM.le_put K l (hK 0)
 have hc:h'.get c=some o:=by rw [hh,if_pos rfl]
 have hn:∀ j,j≠c→h'.get j=h.get j:=fun j hj=>by rw [hh,if_neg hj]
 have hput:∀ b g l',(K.put c 0 l) b g=some l'→(b=c∧g=0∧l'=l)∨(b≠c∧K b g=some l'):=by
  intro b g l' q
  rcases KM.put_inv q with q | q
  · exact Or.inl q
  · refine Or.inr ⟨fun e=>?_,q⟩
    rw [e,hK] at q; cases q
 refine ⟨S.size0,S.below, ?_, ?_, ?_, ?_, ?_, ?_, ?_, ?_, ?_, ?_,(fun b g l1 q hnc=>by
  rcases hput b g l1 q with ⟨_,e,_⟩ | ⟨n1,q1⟩
  · exact e
  · exact S.gen0 b g l1 q1 (fun cs cur ro e=>hnc cs cur ro (by rw [hn b n1]; exact e)))⟩
 · intro b g l' q
   rcases hput b g l' q with ⟨_,_,rfl⟩ | ⟨_,q⟩
   · exact ⟨hl,S.size0.2 _ hB⟩
   · exact S.dom' b g l' q
 · intro b g l' q
   rcases hput b g l' q with ⟨e,_,_⟩ | ⟨hne,q⟩
   · exact ⟨o,by rw [e]; exact hc⟩
   · rw [hn b hne]; exact S.dom2 b g l' q
 · intro b g l' q q2
   rcases hput b g l' q with ⟨_,_,rfl⟩ | ⟨_,q⟩
   · exact hB
   · exact S.own b g l' q q2
 · intro b g l1 b' g' l2 q1 q2 hne ho
   rcases hput b g l1 q1 with ⟨e1,_,e2⟩ | ⟨_,p1⟩ <;> rcases hput b' g' l2 q2 with ⟨e3,_,e4⟩ | ⟨_,p2⟩
   · exact absurd (e1.trans e3.symm) hne
   · rw [e2]; exact (hfresh b' g' l2 p2).symm
   · rw [e4]; exact hfresh b g l1 p1
   · exact S.apart b g l1 b' g' l2 p1 p2 hne ho
 · intro b g l1 g' l2 q1 q2
   rcases hput b g l1 q1 with ⟨rfl,rfl,rfl⟩ | ⟨n1,q1⟩ <;> rcases hput b g' l2 q2 with ⟨e,rfl,rfl⟩ | ⟨n2,q2⟩
   · exact ⟨rfl,fun _=>rfl⟩
   · exact absurd rfl n2
   · exact absurd e n1
   · exact S.same b g l1 g' l2 q1 q2
 · intro b g l1 cs cur ro q1 q2 q3
   rcases hput b g l1 q1 with ⟨rfl,rfl,rfl⟩ | ⟨n1,q1⟩
   · rw [hc] at q3
     cases q3
     exact (hcells cs cur ro rfl).2.2.2.2.1
   · rw [hn b n1] at q3
     exact S.room b g l1 cs cur ro q1 q2 q3
 · intro b cs cur ro q
   by_cases hb:b=c
   · subst hb
     rw [hc] at q
     cases q
     obtain ⟨rfl,rfl,e3,e4,e5,e6⟩:=hcells cs cur ro rfl
     refine ⟨fun g l1 q1=>?_,fun g hg=>⟨l,by rw [Nat.le_zero.1 hg]; exact KM.put_same K b 0 l⟩,fun x hx=>by rw [e3 x hx]; exact Nat.le_refl _⟩
     rcases hput b g l1 q1 with ⟨_,rfl,rfl⟩ | ⟨n1,_⟩
     · exact ⟨Nat.le_refl _,fun _=>hown⟩
     · exact absurd rfl n1
   · rw [hn b hb] at q
     obtain ⟨r1,r2,r3⟩:=S.gens b cs cur ro q
     refine ⟨fun g l1 q1=>?_,fun g hg=>let ⟨l1,r⟩:=r2 g hg; ⟨l1,hle _ _ _ r⟩,r3⟩
     rcases hput b g l1 q1 with ⟨e,_,_⟩ | ⟨_,q1⟩
     · exact absurd e hb
     · exact r1 g l1 q1
 · intro b cs cur ro g l1 q1 q2 off v st q3 q4 q5
   rcases hput b g l1 q2 with ⟨rfl,rfl,rfl⟩ | ⟨n1,q2⟩
   · rw [hc] at q1
     cases q1
     obtain ⟨rfl,rfl,e3,e4,e5,e6⟩:=hcells cs cur ro rfl
     obtain ⟨v',r1,r2⟩:=e6 off v st q3
     exact ⟨v',by rw [e4,Nat.sub_zero]; exact r1,r2.mono hle⟩
   · rw [hn b n1] at q1
     obtain ⟨v',r1,r2⟩:=S.cells b cs cur ro g l1 q1 q2 off v st q3 q4 q5
     exact ⟨v',r1,r2.mono hle⟩
 · intro b es q
   by_cases hb:b=c
   · subst hb
     rw [hc] at q
     cases q
     obtain ⟨es',clock,r1,r2⟩:=hmap es rfl
     exact ⟨l,es',clock,KM.put_same K b 0 l,hown,r1,r2.mono hle⟩
   · rw [hn b hb] at q
     obtain ⟨l1,es',clock,r1,r2,r3,r4⟩:=S.map b es q
     exact ⟨l1,es',clock,hle _ _ _ r1,r2,r3,r4.mono hle⟩
 · intro b x pos q
   by_cases hb:b=c
   · subst hb
     rw [hc] at q
     cases q
     obtain ⟨r1,r2,r3⟩:=hiter x pos rfl
     exact ⟨l,KM.put_same K b 0 l,hown,r1,r2,r3⟩
   · rw [hn b hb] at q
     obtain ⟨l1,r1,r2,r3,r4,r5⟩:=S.siter b x pos q
     exact ⟨l1,hle _ _ _ r1,r2,r3,r4,r5⟩
structure Step (B0:Nat) (w0:Base) (K:KM) (s':S) (w':World) (K':KM):Prop where
 le:K.le K'
 far:∀ i g,s'.c≤i→K' i g=K i g
 sim:Sim B0 w0 K' s'.h w'
def K8 (_:KM) (s s':S):Prop:=∀ i,s.c≤i→i<s'.c→s.h.get i=none
theorem Sim.none {B0:Nat} {w0:Base} {K:KM} {h:Trie VObj} {w:World} (S:Sim B0 w0 K h w) {i:Nat} (hi:h.get i=none) (g:Nat):K i g=none:=by
 cases q:K i g with
 | none=>rfl
 | some l=>obtain ⟨o,e⟩:=S.dom2 i g l q; rw [hi] at e; cases e
theorem b5F {vs:List Value} {s s':S} {a:Addr} (h:M9 vs s=some (a,s')) :
 (∀ v∈vs,X7 v=true)∧a=⟨s.c, 0,some 0⟩∧s'.c=s.c+1∧∀ j,s'.h.get j=if j=s.c then some (.cells (vs.map fun v=>(v, 0)) 0 false) else s.h.get j:=by
 unfold M9 at h
 cases hg:L6 X7 vs with
 | false=>rw [hg] at h; cases h
 | true=>
   rw [hg] at h
   simp only [M.guard,U3,Q6,M.bind,a5k,M.pure] at h
   cases h
   exact ⟨(K9 _ _).1 hg,rfl,rfl,fun j=>Trie.get_put _ _ _ _ (Nat.lt_succ_self _) j⟩
theorem Z6 {B0:Nat} {w0:Base} {K:KM} {w w':World} {vs vs':List Value} {s s':S} {a:Addr} (h:M9 vs s=some (a,s')) (S:Sim B0 w0 K s.h w) (F:K8 K s s')
 (hv:VRL K vs' vs) {arr:Array Value} {e:TypeId} {fz:Nat×Nat} (G:Grew w w') (hblk:w'.heap[w.heap.size]?=some (.cells arr e fz)) {rest:List Value} (harr:arr.toList=vs' ++ rest)
 (hfz:∀ o,o<arr.size→¬ (fz.1≤o∧o<fz.2)) :
 ∃ K',Step B0 w0 K s' w' K'∧K' s.c 0=some ⟨w.heap.size, 0, 0,arr.size,true⟩∧a=⟨s.c, 0,some 0⟩:=by
 obtain ⟨h1,h2,h3,h4⟩:=b5F h
 have S':=a0z S G
 have hK:∀ g,K s.c g=none:=S.none (F s.c (Nat.le_refl _) (by omega))
 have hlt:w.heap.size<w'.heap.size:=(Array.getElem?_eq_some_iff.1 hblk).1
 refine ⟨K.put s.c 0 ⟨w.heap.size, 0, 0,arr.size,true⟩,⟨KM.le_put K _ (hK 0), ?_, ?_⟩,KM.put_same _ _ _ _,h2⟩
 · intro i g hi
   exact KM.put_other K _ (fun q=>by omega)
 · refine c0f (o:=.cells (vs.map fun v=>(v, 0)) 0 false) S' hK h4 hlt S.base rfl (fun b g l q=>by have:=S.dom b g l q; dsimp only; omega) ?_ (fun es q=>by cases q) (fun x pos q=>by cases q)
   intro cs cur ro q
   cases q
   refine ⟨rfl,rfl,fun x hx=>?_,rfl,⟨arr,e,fz,hblk,rfl,fun o ho=>?_⟩, ?_⟩
   · obtain ⟨v,_,rfl⟩:=List.mem_map.1 hx; rfl
   · simp only [World.frozen?,hblk]
     have:=hfz o ho
     simpa using this
   · intro off v st q
     rw [List.getElem?_map] at q
     cases hvo:vs[off]? with
     | none=>rw [hvo] at q; cases q
     | some y=>
       rw [hvo] at q
       cases q
       have hlt:off<vs'.length:=by rw [hv.len]; exact (List.getElem?_eq_some_iff.1 hvo).1
       refine ⟨vs'[off], ?_,hv.at_ _ _ _ (List.getElem?_eq_getElem hlt) hvo⟩
       simp only [World.cell?,hblk,Nat.zero_add]
       have:arr[off]?=some vs'[off]:=by
        rw [← Array.getElem?_toList,harr,List.getElem?_append_left hlt]; exact List.getElem?_eq_getElem hlt
       simpa using this
end Go.V
end
