import Derived.RangeFuncKeeps
import Derived.Test.YtmomonnlmbljoaaGreatDoorQag
import Derived.Test.YtmomonnlmbljoaaGreatDoorQai
section
namespace Go.V
open Go.RowKit (Below)
inductive VRen (c:Nat → Prop) (m:Nat → Option (Nat × Nat)):Value → Value → Prop
 | plain {v:Value}:plain v=true → VRen c m v v
 | ptrOld {b off:Nat} {g:Option Nat}:c b → VRen c m (.pointer (some ⟨b,off,g⟩)) (.pointer (some ⟨b,off,g⟩))
 | ptrNew {b b2 g2 off:Nat}:m b=some (b2,g2) → VRen c m (.pointer (some ⟨b,off,some 0⟩)) (.pointer (some ⟨b2,off,some g2⟩))
 | sliceOld {b off n e:Nat} {g:Option Nat}:c b → VRen c m (.slice (some ⟨b,off,g⟩) n e) (.slice (some ⟨b,off,g⟩) n e)
 | sliceNew {b b2 g2 off n e:Nat}:m b=some (b2,g2) → VRen c m (.slice (some ⟨b,off,some 0⟩) n e) (.slice (some ⟨b2,off,some g2⟩) n e)
 | mapOld {b:Nat}:c b → VRen c m (.map (some b)) (.map (some b))
 | agg {cs ds:Array Value}:cs.toList.length=ds.toList.length → (∀ (i:Nat) (v w:Value),cs.toList[i]?=some v → ds.toList[i]?=some w → VRen c m v w) → VRen c m (.agg cs) (.agg ds)
 | tuple {cs ds:Array Value}:cs.toList.length=ds.toList.length → (∀ (i:Nat) (v w:Value),cs.toList[i]?=some v → ds.toList[i]?=some w → VRen c m v w) → VRen c m (.tuple cs) (.tuple ds)
 | func {fn:Fn} {cs ds es fs:Array Value}:cs.toList.length=ds.toList.length → (∀ (i:Nat) (v w:Value),cs.toList[i]?=some v → ds.toList[i]?=some w → VRen c m v w) →
  es.toList.length=fs.toList.length → (∀ (i:Nat) (v w:Value),es.toList[i]?=some v → fs.toList[i]?=some w → VRen c m v w) → VRen c m (.func fn cs es) (.func fn ds fs)
 | iface {t:TypeId} {v w:Value}:VRen c m v w → VRen c m (.iface t v) (.iface t w)
open Classical in
noncomputable def KR (c:Nat → Prop) (m:Nat → Option (Nat × Nat)) (K:KM):KM:=fun b g=>if c b then K b g else match m b with
 | some x=>if g=0 then K x.1 x.2 else none
 | none=>none
theorem a6o {c:Nat → Prop} {m:Nat → Option (Nat × Nat)} {K:KM} {b:Nat} (h:c b) (g:Nat):KR c m K b g=K b g:=by unfold KR; rw [if_pos h]
theorem b7f {c:Nat → Prop} {m:Nat → Option (Nat × Nat)} {K:KM} {b b2 g2:Nat} (h:¬ c b) (hm:m b=some (b2,g2)):KR c m K b 0=K b2 g2:=by unfold KR; rw [if_neg h,hm]; rfl
theorem b0U {c:Nat → Prop} {m:Nat → Option (Nat × Nat)} {K:KM} {b g:Nat} {l:Loc} (h:KR c m K b g=some l):(c b ∧ K b g=some l) ∨ (¬ c b ∧ g=0 ∧ ∃ b2 g2,m b=some (b2,g2) ∧ K b2 g2=some l):=by
 unfold KR at h
 by_cases hb:c b
 · rw [if_pos hb] at h; exact Or.inl ⟨hb,h⟩
 · rw [if_neg hb] at h
   cases hm:m b with
   | none=>rw [hm] at h; cases h
   | some x=>
     rw [hm] at h
     simp only at h
     by_cases hg:g=0
     · rw [if_pos hg] at h; exact Or.inr ⟨hb,hg,x.1,x.2,rfl,h⟩
     · rw [if_neg hg] at h; cases h
section
variable {c:Nat → Prop} {m:Nat → Option (Nat × Nat)} {K:KM} (hn:∀ b x,m b=some x → ¬ c b)
include hn
theorem VR.ren {v1 v2:Value} (r:VRen c m v1 v2):∀ {v':Value},VR K v' v2 → VR (KR c m K) v' v1:=by
 induction r with
 | plain hp=>intro v' q; rw [q.eq_of_plain hp]; exact .plain hp
 | @ptrOld b off g hb=>
   intro v' q
   generalize hz:Value.pointer (some ⟨b,off,g⟩)=z at q
   cases q with
   | plain hp=>subst hz; simp [V.plain] at hp
   | ptr hk hl=>cases hz; exact .ptr (by rw [a6o hb]; exact hk) hl
   | _=>cases hz
 | @ptrNew b b2 g2 off hm=>
   intro v' q
   generalize hz:Value.pointer (some ⟨b2,off,some g2⟩)=z at q
   cases q with
   | plain hp=>subst hz; simp [V.plain] at hp
   | ptr hk hl=>cases hz; exact .ptr (by rw [b7f (hn _ _ hm) hm]; exact hk) hl
   | _=>cases hz
 | @sliceOld b off n e g hb=>
   intro v' q
   generalize hz:Value.slice (some ⟨b,off,g⟩) n e=z at q
   cases q with
   | plain hp=>subst hz; simp [V.plain] at hp
   | slice hk h1 h2 h3 h4 h5=>cases hz; exact .slice (by rw [a6o hb]; exact hk) h1 h2 h3 h4 h5
   | _=>cases hz
 | @sliceNew b b2 g2 off n e hm=>
   intro v' q
   generalize hz:Value.slice (some ⟨b2,off,some g2⟩) n e=z at q
   cases q with
   | plain hp=>subst hz; simp [V.plain] at hp
   | slice hk h1 h2 h3 h4 h5=>cases hz; exact .slice (by rw [b7f (hn _ _ hm) hm]; exact hk) h1 h2 h3 h4 h5
   | _=>cases hz
 | @mapOld b hb=>
   intro v' q
   generalize hz:Value.map (some b)=z at q
   cases q with
   | plain hp=>subst hz; simp [V.plain] at hp
   | map hk=>cases hz; exact .map (by rw [a6o hb]; exact hk)
   | _=>cases hz
 | @agg cs ds hl _ ih=>
   intro v' q
   generalize hz:Value.agg ds=z at q
   cases q with
   | plain hp=>subst hz; simp [V.plain] at hp
   | agg h1 h2=>
     cases hz
     refine .agg (h1.trans hl.symm) fun i a b ha hb=>?_
     have hi:i < ds.toList.length:=by rw [← hl]; exact (List.getElem?_eq_some_iff.1 hb).1
     exact ih i b _ hb (List.getElem?_eq_getElem hi) (h2 i a _ ha (List.getElem?_eq_getElem hi))
   | _=>cases hz
 | @tuple cs ds hl _ ih=>
   intro v' q
   generalize hz:Value.tuple ds=z at q
   cases q with
   | plain hp=>subst hz; simp [V.plain] at hp
   | tuple h1 h2=>
     cases hz
     refine .tuple (h1.trans hl.symm) fun i a b ha hb=>?_
     have hi:i < ds.toList.length:=by rw [← hl]; exact (List.getElem?_eq_some_iff.1 hb).1
     exact ih i b _ hb (List.getElem?_eq_getElem hi) (h2 i a _ ha (List.getElem?_eq_getElem hi))
   | _=>cases hz
 | @func fn cs ds es fs hl _ hl' _ ih ih'=>
   intro v' q
   generalize hz:Value.func fn ds fs=z at q
   cases q with
   | plain hp=>subst hz; simp [V.plain] at hp
   | func h1 h2 h3 h4=>
     cases hz
     refine .func (h1.trans hl.symm) (fun i a b ha hb=>?_) (h3.trans hl'.symm) fun i a b ha hb=>?_
     · have hi:i < ds.toList.length:=by rw [← hl]; exact (List.getElem?_eq_some_iff.1 hb).1
       exact ih i b _ hb (List.getElem?_eq_getElem hi) (h2 i a _ ha (List.getElem?_eq_getElem hi))
     · have hi:i < fs.toList.length:=by rw [← hl']; exact (List.getElem?_eq_some_iff.1 hb).1
       exact ih' i b _ hb (List.getElem?_eq_getElem hi) (h4 i a _ ha (List.getElem?_eq_getElem hi))
   | _=>cases hz
 | iface _ ih=>
   intro v' q
   rename_i t v w _
   generalize hz:Value.iface t w=z at q
   cases q with
   | plain hp=>subst hz; simp [V.plain] at hp
   | iface h=>cases hz; exact .iface (ih h)
   | _=>cases hz
end
inductive ORen (c:Nat → Prop) (m:Nat → Option (Nat × Nat)):Option VObj → Option VObj → Prop
 | none:ORen c m none none
 | cells {cs ds:List (Value × Nat)} {cur:Nat} {ro:Bool}:cs.length=ds.length → (∀ (i:Nat) v w st st',cs[i]?=some (v,st) → ds[i]?=some (w,st') → st=st' ∧ VRen c m v w) → ORen c m (some (.cells cs cur ro)) (some (.cells ds cur ro))
 | map {es fs:List (Value × Value)}:es.length=fs.length → (∀ (i:Nat) (e f:Value × Value),es[i]?=some e → fs[i]?=some f → e.1=f.1 ∧ VRen c m e.2 f.2) → ORen c m (some (.map es)) (some (.map fs))
 | siter {s:ByteArray} {pos:Nat}:ORen c m (some (.siter s pos)) (some (.siter s pos))
structure View (c:Nat → Prop) (m:Nat → Option (Nat × Nat)) (h0 h1 h2:Trie VObj):Prop where
 old:∀ i,c i → ORen c m (h1.get i) (h2.get i) ∨ (h1.get i=h0.get i ∧ h2.get i=h0.get i)
 new:∀ b b2 g2,m b=some (b2,g2) → ¬ c b ∧ ¬ c b2 ∧ ∃ cs ds,h1.get b=some (.cells cs 0 false) ∧ h2.get b2=some (.cells ds g2 false) ∧ cs.length=ds.length ∧
  ∀ (i:Nat) v w st st',cs[i]?=some (v,st) → ds[i]?=some (w,st') → st=0 ∧ VRen c m v w
 dom:∀ b, ¬ c b → m b=none → h1.get b=none
 inj:∀ b b' x x',m b=some x → m b'=some x' → x.1=x'.1 → b=b'
theorem c2K {B0:Nat} {w0:Base} {K K2:KM} {h h2:Trie VObj} {w w':World} (S:Sim B0 w0 K h w) (S2:Sim B0 w0 K2 h2 w') (hle:K.le K2) {i:Nat} (e:h2.get i=h.get i) (g:Nat):K2 i g=K i g:=by
 cases q:K2 i g with
 | none=>
   cases q1:K i g with
   | none=>rfl
   | some l=>rw [hle _ _ _ q1] at q; cases q
 | some l=>
   have key:∀ l',K i g=some l' → some l=K i g:=fun l' h'=>by rw [h', ← q,hle _ _ _ h']
   obtain ⟨o,ho⟩:=S2.dom2 i g l q
   have ho':h.get i=some o:=by rw [← e]; exact ho
   cases o with
   | cells cs cur ro=>
     obtain ⟨l',hl'⟩:=(S.gens i cs cur ro ho').2.1 g ((S2.gens i cs cur ro ho).1 g l q).1
     exact key l' hl'
   | map es=>
     obtain rfl:=S2.gen0 i g l q fun cs cur ro h=>by rw [ho] at h; cases h
     obtain ⟨l',_,_,hl',_⟩:=S.map i es ho'
     exact key l' hl'
   | siter x pos=>
     obtain rfl:=S2.gen0 i g l q fun cs cur ro h=>by rw [ho] at h; cases h
     obtain ⟨l',hl',_⟩:=S.siter i x pos ho'
     exact key l' hl'
theorem b4y {c:Nat → Prop} {m:Nat → Option (Nat × Nat)} {K:KM} (hK:∀ b g l,K b g=some l → c b) {v' v:Value} (r:VR K v' v):VRen c m v v:=by
 induction r with
 | plain h=>exact .plain h
 | ptr hk _=>exact .ptrOld (hK _ _ _ hk)
 | slice hk _ _ _ _ _=>exact .sliceOld (hK _ _ _ hk)
 | map hk=>exact .mapOld (hK _ _ _ hk)
 | agg hl _ ih=>
   refine .agg rfl fun i v w h h'=>?_
   rw [h] at h'; cases h'
   have hi:=(List.getElem?_eq_some_iff.1 h).1
   exact ih i _ v (List.getElem?_eq_getElem (by rw [hl]; exact hi)) h
 | tuple hl _ ih=>
   refine .tuple rfl fun i v w h h'=>?_
   rw [h] at h'; cases h'
   have hi:=(List.getElem?_eq_some_iff.1 h).1
   exact ih i _ v (List.getElem?_eq_getElem (by rw [hl]; exact hi)) h
 | func hl _ hl' _ ih ih'=>
   refine .func rfl (fun i v w h h'=>?_) rfl fun i v w h h'=>?_
   · rw [h] at h'; cases h'
     have hi:=(List.getElem?_eq_some_iff.1 h).1
     exact ih i _ v (List.getElem?_eq_getElem (by rw [hl]; exact hi)) h
   · rw [h] at h'; cases h'
     have hi:=(List.getElem?_eq_some_iff.1 h).1
     exact ih' i _ v (List.getElem?_eq_getElem (by rw [hl']; exact hi)) h
 | iface _ ih=>exact .iface ih
theorem c8U {c:Nat → Prop} {m:Nat → Option (Nat × Nat)} {h0 h1 h2:Trie VObj} {B0:Nat} {w0:Base} {K0 K:KM} {wS w:World} (V:View c m h0 h1 h2) (S0:Sim B0 w0 K0 h0 wS) (hle:K0.le K) (hO:∀ b o,h0.get b=some o → c b) (S:Sim B0 w0 K h2 w):Sim B0 w0 (KR c m K) h1 w:=by
 have hn:∀ b x,m b=some x → ¬ c b:=fun b x e=>(V.new b x.1 x.2 e).1
 have hK0:∀ b g l,K0 b g=some l → c b:=fun b g l q=>let ⟨o,ho⟩:=S0.dom2 b g l q; hO b o ho
 have src:∀ b g l,KR c m K b g=some l → ∃ b2 g2,K b2 g2=some l ∧ ((c b ∧ b2=b ∧ g2=g) ∨ (¬ c b ∧ g=0 ∧ m b=some (b2,g2))):=by
  intro b g l h
  rcases b0U h with ⟨q1,q2⟩ | ⟨q1,q2,b2,g2,q3,q4⟩
  · exact ⟨b,g,q2,Or.inl ⟨q1,rfl,rfl⟩⟩
  · exact ⟨b2,g2,q4,Or.inr ⟨q1,q2,q3⟩⟩
 have cellsOf:∀ b cs cur ro,h1.get b=some (.cells cs cur ro) → (c b ∧ ∃ ds,h2.get b=some (.cells ds cur ro) ∧ cs.length=ds.length ∧ ∀ (i:Nat) v u st st',cs[i]?=some (v,st) → ds[i]?=some (u,st') → st=st' ∧ (VRen c m v u ∨ (v=u ∧ h0.get b=some (.cells cs cur ro) ∧ h2.get b=h0.get b))) ∨
  (¬ c b ∧ cur=0 ∧ ro=false ∧ ∃ b2 g2 ds,m b=some (b2,g2) ∧ h2.get b2=some (.cells ds g2 false) ∧ cs.length=ds.length ∧ ∀ (i:Nat) v u st st',cs[i]?=some (v,st) → ds[i]?=some (u,st') → st=0 ∧ VRen c m v u):=by
  intro b cs cur ro h
  by_cases hb:c b
  · rcases V.old b hb with this | ⟨z1,z2⟩
    · rw [h] at this
      generalize hz:h2.get b=z at this
      cases this with
      | cells q1 q2=>exact Or.inl ⟨hb,_,hz ▸ rfl,q1,fun i v u st st' a1 a2=>⟨(q2 i v u st st' a1 a2).1,Or.inl (q2 i v u st st' a1 a2).2⟩⟩
    · rw [z1] at h
      exact Or.inl ⟨hb,cs,by rw [z2]; exact h,rfl,fun i v u st st' a1 a2=>by rw [a1] at a2; cases a2; exact ⟨rfl,Or.inr ⟨rfl,h,z2⟩⟩⟩
  · cases hm:m b with
    | none=>rw [V.dom b hb hm] at h; cases h
    | some x=>
      obtain ⟨_,_,cs',ds,e1,e2,e3,e4⟩:=V.new b x.1 x.2 hm
      rw [e1] at h
      cases h
      exact Or.inr ⟨hb,rfl,rfl,x.1,x.2,ds,rfl,e2,e3,e4⟩
 refine ⟨S.size0,S.below, ?_, ?_, ?_, ?_, ?_, ?_, ?_, ?_, ?_, ?_,fun b g l h hnc=>?_⟩
 · intro b g l h
   obtain ⟨b2,g2,q,_⟩:=src b g l h
   exact S.dom' b2 g2 l q
 · intro b g l h
   obtain ⟨b2,g2,q,hor⟩:=src b g l h
   rcases hor with ⟨hb,rfl,rfl⟩ | ⟨hb,_,hm⟩
   · obtain ⟨o,ho⟩:=S.dom2 b2 g2 l q
     rcases V.old b2 hb with this | ⟨z1,z2⟩
     · rw [ho] at this
       generalize hz:h1.get b2=z at this
       cases this <;> exact ⟨_,rfl⟩
     · exact ⟨o,by rw [z1, ← z2]; exact ho⟩
   · obtain ⟨_,_,cs,ds,e1,_⟩:=V.new b b2 g2 hm
     exact ⟨_,e1⟩
 · intro b g l h ho
   obtain ⟨b2,g2,q,_⟩:=src b g l h
   exact S.own b2 g2 l q ho
 · intro b g l b' g' l' h h' hne ho
   obtain ⟨b2,g2,q,hor⟩:=src b g l h
   obtain ⟨b3,g3,q',hor'⟩:=src b' g' l' h'
   refine S.apart b2 g2 l b3 g3 l' q q' ?_ ho
   rcases hor with ⟨hb,rfl,rfl⟩ | ⟨hb,_,hm⟩ <;> rcases hor' with ⟨hb',rfl,rfl⟩ | ⟨hb',_,hm'⟩
   · exact hne
   · exact fun e=>(V.new _ _ _ hm').2.1 (e ▸ hb)
   · exact fun e=>(V.new _ _ _ hm).2.1 (e ▸ hb')
   · exact fun e=>hne (V.inj _ _ _ _ hm hm' e)
 · intro b g l g' l' h h'
   obtain ⟨b2,g2,q,hor⟩:=src b g l h
   obtain ⟨b3,g3,q',hor'⟩:=src b g' l' h'
   have e:b3=b2:=by
    rcases hor with ⟨hb,e1,_⟩ | ⟨hb,_,hm⟩ <;> rcases hor' with ⟨hb',e1',_⟩ | ⟨hb',_,hm'⟩
    · exact e1'.trans e1.symm
    · exact absurd hb hb'
    · exact absurd hb' hb
    · rw [hm] at hm'; cases hm'; rfl
   subst e
   exact S.same b3 g2 l g3 l' q q'
 · intro b g l cs cur ro h ho hc
   obtain ⟨b2,g2,q,hor⟩:=src b g l h
   rcases cellsOf b cs cur ro hc with ⟨hb,ds,e1,_⟩ | ⟨hb,_,_,b3,g3,ds,hm,e1,_⟩
   · rcases hor with ⟨_,rfl,rfl⟩ | ⟨hb',_,_⟩
     · exact S.room b2 g2 l ds cur ro q ho e1
     · exact absurd hb hb'
   · rcases hor with ⟨hb',_,_⟩ | ⟨_,_,hm'⟩
     · exact absurd hb' hb
     · rw [hm] at hm'; cases hm'
       exact S.room b2 g2 l ds g2 false q ho e1
 · intro b cs cur ro hc
   rcases cellsOf b cs cur ro hc with ⟨hb,ds,e1,e2,e3⟩ | ⟨hb,rfl,rfl,b3,g3,ds,hm,e1,e2,e3⟩
   · obtain ⟨q1,q2,q3⟩:=S.gens b ds cur ro e1
     refine ⟨fun g l' h=>?_,fun g hg=>let ⟨l,r⟩:=q2 g hg; ⟨l,by rw [a6o hb]; exact r⟩,fun x hx=>?_⟩
     · rw [a6o hb] at h; exact q1 g l' h
     · obtain ⟨i,hi⟩:=List.mem_iff_getElem?.1 hx
       have hlt:i < ds.length:=by rw [← e2]; exact (List.getElem?_eq_some_iff.1 hi).1
       have:=(e3 i x.1 _ x.2 _ hi (List.getElem?_eq_getElem hlt)).1
       rw [this]
       exact q3 _ (List.getElem_mem hlt)
   · obtain ⟨q1,q2,q3⟩:=S.gens b3 ds g3 false e1
     refine ⟨fun g l' h=>?_,fun g hg=>let ⟨l,r⟩:=q2 g3 (Nat.le_refl _); ⟨l,by rw [Nat.le_zero.1 hg,b7f hb hm]; exact r⟩,fun x hx=>?_⟩
     · rcases b0U h with ⟨hb',_⟩ | ⟨_,rfl,b4,g4,hm',hk⟩
       · exact absurd hb' hb
       · rw [hm] at hm'; cases hm'
         exact ⟨Nat.le_refl _,(q1 _ _ hk).2⟩
     · obtain ⟨i,hi⟩:=List.mem_iff_getElem?.1 hx
       have hlt:i < ds.length:=by rw [← e2]; exact (List.getElem?_eq_some_iff.1 hi).1
       have:=(e3 i x.1 _ x.2 _ hi (List.getElem?_eq_getElem hlt)).1
       omega
 · intro b cs cur ro g l hc hk off v st hv hst hlo
   rcases cellsOf b cs cur ro hc with ⟨hb,ds,e1,e2,e3⟩ | ⟨hb,rfl,rfl,b3,g3,ds,hm,e1,e2,e3⟩
   · rw [a6o hb] at hk
     have hlt:off < ds.length:=by rw [← e2]; exact (List.getElem?_eq_some_iff.1 hv).1
     obtain ⟨f1,f2⟩:=e3 off v _ st _ hv (List.getElem?_eq_getElem hlt)
     obtain ⟨v',r1,r2⟩:=S.cells b ds cur ro g l e1 hk off _ _ (List.getElem?_eq_getElem hlt) (by rw [← f1]; exact hst) hlo
     rcases f2 with f2 | ⟨e,z1,z2⟩
     · exact ⟨v',r1,VR.ren hn f2 r2⟩
     · have hk0:K0 b g=some l:=by rw [← c2K S0 S hle z2 g]; exact hk
       obtain ⟨v0,_,q⟩:=S0.cells b cs cur ro g l z1 hk0 off v st hv hst hlo
       rw [← e] at r2
       exact ⟨v',r1,VR.ren hn (b4y hK0 q) r2⟩
   · rcases b0U hk with ⟨hb',_⟩ | ⟨_,rfl,b4,g4,hm',hk'⟩
     · exact absurd hb' hb
     · rw [hm] at hm'; cases hm'
       have hlt:off < ds.length:=by rw [← e2]; exact (List.getElem?_eq_some_iff.1 hv).1
       obtain ⟨f1,f2⟩:=e3 off v _ st _ hv (List.getElem?_eq_getElem hlt)
       obtain ⟨v',r1,r2⟩:=S.cells b3 ds g3 false g3 l e1 hk' off _ _ (List.getElem?_eq_getElem hlt) ((S.gens b3 ds g3 false e1).2.2 _ (List.getElem_mem hlt)) hlo
       exact ⟨v',r1,VR.ren hn f2 r2⟩
 · intro b es hc
   have hb:c b:=by
    by_cases hb:c b
    · exact hb
    · cases hm:m b with
      | none=>rw [V.dom b hb hm] at hc; cases hc
      | some x=>
        obtain ⟨_,_,cs',ds,e1,_⟩:=V.new b x.1 x.2 hm
        rw [e1] at hc; cases hc
   rcases V.old b hb with this | ⟨z1,z2⟩
   rotate_left
   · rw [z1] at hc
     have hc2:h2.get b=some (.map es):=by rw [z2]; exact hc
     obtain ⟨l,es',clock,r1,r2,r3,r4⟩:=S.map b es hc2
     obtain ⟨_,es0,_,_,_,_,t4⟩:=S0.map b es hc
     refine ⟨l,es',clock,by rw [a6o hb]; exact r1,r2,r3,⟨r4.len,fun i e' e he' he=>?_⟩⟩
     have hlt:i < es0.toList.length:=by rw [t4.len]; exact (List.getElem?_eq_some_iff.1 he).1
     obtain ⟨k1,k2⟩:=r4.key i e' e he' he
     exact ⟨k1,VR.ren hn (b4y hK0 (t4.key i _ e (List.getElem?_eq_getElem hlt) he).2) k2⟩
   rw [hc] at this
   generalize hz:h2.get b=z at this
   cases this with
   | @map _ fs q1 q2=>
     obtain ⟨l,es',clock,r1,r2,r3,r4⟩:=S.map b fs hz
     refine ⟨l,es',clock,by rw [a6o hb]; exact r1,r2,r3,⟨by rw [r4.len,q1],fun i e' e he' he=>?_⟩⟩
     have hlt:i < fs.length:=by rw [← q1]; exact (List.getElem?_eq_some_iff.1 he).1
     obtain ⟨k1,k2⟩:=r4.key i e' _ he' (List.getElem?_eq_getElem hlt)
     obtain ⟨k3,k4⟩:=q2 i e _ he (List.getElem?_eq_getElem hlt)
     exact ⟨k1.trans k3.symm,VR.ren hn k4 k2⟩
 · intro b s pos hc
   have hb:c b:=by
    by_cases hb:c b
    · exact hb
    · cases hm:m b with
      | none=>rw [V.dom b hb hm] at hc; cases hc
      | some x=>
        obtain ⟨_,_,cs',ds,e1,_⟩:=V.new b x.1 x.2 hm
        rw [e1] at hc; cases hc
   rcases V.old b hb with this | ⟨z1,z2⟩
   rotate_left
   · rw [z1, ← z2] at hc
     obtain ⟨l,r1,r2⟩:=S.siter b s pos hc
     exact ⟨l,by rw [a6o hb]; exact r1,r2⟩
   rw [hc] at this
   generalize hz:h2.get b=z at this
   cases this with
   | siter=>
     obtain ⟨l,r1,r2⟩:=S.siter b s pos hz
     exact ⟨l,by rw [a6o hb]; exact r1,r2⟩
 · rcases b0U h with ⟨hb,q⟩ | ⟨_,e,_⟩
   · refine S.gen0 b g l q fun cs cur ro e=>?_
     rcases V.old b hb with this | ⟨z1,z2⟩
     · rw [e] at this
       generalize hz:h1.get b=z at this
       cases this with
       | cells q1 q2=>exact hnc _ _ _ hz
     · exact hnc cs cur ro (by rw [z1, ← z2]; exact e)
   · exact e
end Go.V
end
section
noncomputable section
namespace Go.V
open Go.RowKit (Below)
def b1D {β:Type} (t:Trie VObj):(Trie VObj → Option β) → Option β:=
 Trie.rec (motive:=fun _=>(Trie VObj → Option β) → Option β) (fun q=>q .leaf)
  (fun v _ _ ihl ihr q=>ihl fun l=>ihr fun r=>match v with
    | none=>q (.node none l r)
    | some o=>match o with
      | .cells cs cur _=>q (.node (some (.cells cs cur true)) l r)
      | _=>none) t
def b3d (h h':Trie VObj):Prop:=∀ i,(h.get i=none ∧ h'.get i=none) ∨ ∃ cs cur ro,h.get i=some (.cells cs cur ro) ∧ h'.get i=some (.cells cs cur true)
theorem b6q {β:Type} (t:Trie VObj):∀ (q:Trie VObj → Option β) (x:β),b1D t q=some x → ∃ t',b3d t t' ∧ q t'=some x:=by
 induction t with
 | leaf=>intro q x h; exact ⟨.leaf,fun i=>Or.inl ⟨Trie.get_leaf i,Trie.get_leaf i⟩,h⟩
 | node v l r ihl ihr=>
   intro q x h
   have h':b1D l (fun l=>b1D r fun r=>match v with
    | none=>q (.node none l r)
    | some o=>match o with
      | .cells cs cur _=>q (.node (some (.cells cs cur true)) l r)
      | _=>none)=some x:=h
   obtain ⟨l',hl,h1⟩:=ihl _ _ h'
   obtain ⟨r',hr,h2⟩:=ihr _ _ h1
   have key:∀ (v':Option VObj),((v=none ∧ v'=none) ∨ ∃ cs cur ro,v=some (.cells cs cur ro) ∧ v'=some (.cells cs cur true)) → b3d (.node v l r) (.node v' l' r'):=by
    intro v' hv i
    cases i with
    | zero=>rw [Trie.get_node_zero,Trie.get_node_zero]; exact hv
    | succ k=>
      rw [Trie.get_node_succ,Trie.get_node_succ]
      by_cases hk:k % 2=0
      · rw [if_pos hk,if_pos hk]; exact hl _
      · rw [if_neg hk,if_neg hk]; exact hr _
   cases v with
   | none=>exact ⟨_,key none (Or.inl ⟨rfl,rfl⟩),h2⟩
   | some o=>
     cases o with
     | cells cs cur ro=>exact ⟨_,key _ (Or.inr ⟨cs,cur,ro,rfl,rfl⟩),h2⟩
     | map es=>cases h2
     | siter x pos=>cases h2
def b9C:M Unit:=fun s=>b1D s.h fun h=>some ((),⟨s.c,h, [], []⟩)
theorem b8U {s s':S} {u:Unit} (h:b9C s=some (u,s')):s'.c=s.c ∧ b3d s.h s'.h:=by
 obtain ⟨t',h1,h2⟩:=b6q _ _ _ h
 cases h2
 exact ⟨rfl,h1⟩
def a8V (K:KM):KM:=fun b g=>(K b g).map fun l=>{ l with own:=false }
theorem a5U {K:KM} {b g:Nat} {l:Loc} (h:a8V K b g=some l):∃ l0,K b g=some l0 ∧ l={ l0 with own:=false }:=by
 unfold a8V at h
 cases q:K b g with
 | none=>rw [q] at h; cases h
 | some l0=>rw [q] at h; cases h; exact ⟨l0,rfl,rfl⟩
theorem a8q {K:KM} {b g:Nat} {l:Loc} (h:K b g=some l):a8V K b g=some { l with own:=false }:=by unfold a8V; rw [h]; rfl
theorem VR.frz {K:KM} {v' v:Value} (r:VR K v' v):VR (a8V K) v' v:=by
 induction r with
 | plain h=>exact .plain h
 | @ptr b g off l hk hl=>exact VR.ptr (l:={ l with own:=false }) (a8q hk) hl
 | slice hk h1 h2 h3 h4 h5=>
   refine VR.slice (a8q hk) h1 h2 h3 h4 ?_
   rcases h5 with h5 | ⟨h6,h7,_⟩
   · exact Or.inl h5
   · exact Or.inr ⟨h6,h7,fun q=>by cases q⟩
 | @map b l hk=>exact VR.map (l:={ l with own:=false }) (a8q hk)
 | agg h1 _ ih=>exact .agg h1 ih
 | tuple h1 _ ih=>exact .tuple h1 ih
 | func h1 _ h3 _ ih1 ih2=>exact .func h1 ih1 h3 ih2
 | iface _ ih=>exact .iface ih
theorem VRL.frz {K:KM} {l' l:List Value} (h:VRL K l' l):VRL (a8V K) l' l:=⟨h.len,fun i v' v a b=>(h.at_ i v' v a b).frz⟩
theorem GK.frz {T:Tab} {K:KM} (h:GK T K):GK T (a8V K):=fun g hg=>let ⟨_,e,r1,r2,r3⟩:=h g hg; ⟨_,a8q e,r1,r2,r3⟩
structure KeepsR (R:Nat → Prop) (w w':World):Prop where
 size:w.heap.size ≤ w'.heap.size
 same:∀ k o,R k → w.heap[k]?=some o → o.isCells=true ∨ o.isWalk=true → w'.heap[k]?=some o
theorem c0c {B0:Nat} {w0:Base} {K:KM} {h h':Trie VObj} {w w':World} (S:Sim B0 w0 K h w) (F:b3d h h') (Kp:KeepsR w0.R w w') :
 Sim w'.heap.size ⟨w',w0.R⟩ (a8V K) h' w':=by
 have hB:=Nat.le_trans S.base Kp.size
 have hcs:∀ b cs cur ro,h'.get b=some (.cells cs cur ro) → ro=true ∧ ∃ ro0,h.get b=some (.cells cs cur ro0):=by
  intro b cs cur ro q
  rcases F b with ⟨_,e⟩ | ⟨cs0,cur0,ro0,e1,e2⟩
  · rw [e] at q; cases q
  · rw [e2] at q; cases q; exact ⟨rfl,ro0,e1⟩
 refine ⟨⟨Nat.le_refl _,fun k hk=>S.size0.2 k (Nat.le_trans hB hk)⟩,Below.refl _ _, ?_, ?_, ?_, ?_, ?_, ?_, ?_, ?_, ?_, ?_,fun b g l q hnc=>by
  obtain ⟨l0,q0,rfl⟩:=a5U q
  refine S.gen0 b g l0 q0 fun cs cur ro e=>?_
  rcases F b with ⟨e',_⟩ | ⟨cs0,cur0,ro0,e1,e2⟩
  · rw [e'] at e; cases e
  · exact hnc _ _ _ e2⟩
 · intro b g l q
   obtain ⟨l0,q0,rfl⟩:=a5U q
   exact ⟨Nat.lt_of_lt_of_le (S.dom b g l0 q0) Kp.size,(S.dom' b g l0 q0).2⟩
 · intro b g l q
   obtain ⟨l0,q0,rfl⟩:=a5U q
   obtain ⟨o,ho⟩:=S.dom2 b g l0 q0
   rcases F b with ⟨e,_⟩ | ⟨cs0,cur0,ro0,e1,e2⟩
   · rw [e] at ho; cases ho
   · exact ⟨_,e2⟩
 · intro b g l q ho
   obtain ⟨l0,q0,rfl⟩:=a5U q
   cases ho
 · intro b g l b' g' l' q _ _ ho
   obtain ⟨l0,q0,rfl⟩:=a5U q
   cases ho
 · intro b g l g' l' q q'
   obtain ⟨l0,q0,rfl⟩:=a5U q
   obtain ⟨l1,q1,rfl⟩:=a5U q'
   exact ⟨rfl,(S.same b g l0 g' l1 q0 q1).2⟩
 · intro b g l cs cur ro q ho
   obtain ⟨l0,q0,rfl⟩:=a5U q
   cases ho
 · intro b cs cur ro q
   obtain ⟨rfl,ro0,q0⟩:=hcs b cs cur ro q
   obtain ⟨r1,r2,r3⟩:=S.gens b cs cur ro0 q0
   refine ⟨fun g l q=>?_,fun g hg=>let ⟨_,r⟩:=r2 g hg; ⟨_,a8q r⟩,r3⟩
   obtain ⟨l0,q0,rfl⟩:=a5U q
   exact ⟨(r1 g l0 q0).1,fun e=>by cases e⟩
 · intro b cs cur ro g l q1 q2 off v st q3 q4 q5
   obtain ⟨rfl,ro0,q0⟩:=hcs b cs cur ro q1
   obtain ⟨l0,q2',rfl⟩:=a5U q2
   obtain ⟨v',r1,r2⟩:=S.cells b cs cur ro0 g l0 q0 q2' off v st q3 q4 q5
   refine ⟨v', ?_,r2.frz⟩
   obtain ⟨o,ho,hc⟩:∃ o:Obj,w.heap[l0.blk]?=some o ∧ o.isCells=true:=by
    unfold World.cell? at r1
    cases hx:w.heap[l0.blk]? with
    | none=>simp [hx] at r1
    | some o=>
      cases o with
      | cells=>exact ⟨_,rfl,rfl⟩
      | _=>simp [hx] at r1
   rw [← r1]
   exact World.cell?_of_block (w:=w) (by dsimp only; rw [Kp.same _ _ (S.dom' b g l0 q2').2 ho (Or.inl hc),ho])
 · intro b es q
   rcases F b with ⟨_,e⟩ | ⟨cs0,cur0,ro0,e1,e2⟩
   · rw [e] at q; cases q
   · rw [e2] at q; cases q
 · intro b x pos q
   rcases F b with ⟨_,e⟩ | ⟨cs0,cur0,ro0,e1,e2⟩
   · rw [e] at q; cases q
   · rw [e2] at q; cases q
end Go.V
end
section
noncomputable section
namespace Go.V
open Go.RowKit (Below)
abbrev Log:=List (Nat × List Value)
structure YPat where
 ops:Array Oper
 n:Nat
 y:Oper
 c:Call
 z:Oper
 ty:Nat
 tz:Nat
def b5L:Op → Option Nat
 | .unOp op _ x=>match op with
   | .not=>match x with
     | .tmp t=>some t
     | _=>none
   | _=>none
 | _=>none
def b5F (n:Nat):Option Nat → Bool
 | some m=>Nat.beq m n
 | none=>false
def c0M (ops:Array Oper) (tz:Nat):Option YPat:=match a3s ops.toList (M4 ops.toList - 2) with
 | none=>none
 | some y=>match a3s ops.toList (M4 ops.toList - 1) with
   | none=>none
   | some z=>match a9W y.op with
     | none=>none
     | some c=>match y.dst with
       | none=>none
       | some ty=>match b5F ty (b5L z.op) && b5F tz z.dst && y.guard.isNone && z.guard.isNone && !(Nat.beq ty tz) && Nat.ble 2 (M4 ops.toList) with
         | true=>some ⟨ops,M4 ops.toList - 2,y,c,z,ty,tz⟩
         | false=>none
def c5k:Code → Bool
 | .ret=>true
 | _=>false
def c1R:Code → Bool
 | .skip=>true
 | _=>false
def a9u (a b:Code):Option YPat:=match a with
 | .region _ ops draw=>match draw with
   | true=>none
   | false=>match b with
     | .cond x thn els=>match c5k thn && c1R els with
       | true=>match x with
         | .tmp tz=>c0M ops tz
         | _=>none
       | false=>none
     | _=>none
 | _=>none
def b3U (T:Tab) (fr:List Value) (c:Call):Option (Nat × List Value):=match c.callee with
 | .value f=>match a2H T fr f with
   | some v=>match v with
     | .func fn first cap=>match fn with
       | .yield l=>match first.toList with
         | []=>match cap.toList with
           | []=>match a3i T fr c.args.toList with
             | some vs=>some (l,vs)
             | none=>none
           | _ :: _=>none
         | _ :: _=>none
       | _=>none
     | _=>none
   | none=>none
 | _=>none
section
variable (P:Program) (T:Tab)
def a9o (call:Nat → List Value → M Value) (p:YPat) (fr:List Value) (log:Log):M (Ex × (List Value × Log)):=
 M.bind (a6G P T call p.ops.toList (a6d p.ops.toList p.n) fr) fun fr1=>
 M.obind (b3U T fr1 p.c) fun lv=>
 M.guard (a0N (a0y 8) lv.2 && Nat.blt p.ty (M4 fr1) && Nat.blt p.tz (M4 fr1)) <|
 M.bind b9C fun _=>fList (M6 log [lv]) fun log'=>
 M.pure (.normal,(a8A (a8A fr1 p.ty (.bool true)) p.tz (.bool false),log'))
def b3b (call:Nat → List Value → M Value) (ih:Code → List Value → Log → M (Ex × (List Value × Log))) (c:Code) (fr:List Value) (log:Log):M (Ex × (List Value × Log)):=match c with
 | .skip=>M.pure (.normal,(fr,log))
 | .region _ ops draw=>M.bind (region P T call ops.toList draw fr) fun r=>M.pure (r.1,(r.2,log))
 | .seq a b=>match a9u a b with
   | some p=>a9o P T call p fr log
   | none=>M.bind (ih a fr log) fun r=>match r.1 with
     | .normal=>ih b r.2.1 r.2.2
     | .exit id=>M.pure (.exit id,r.2)
     | .ret=>M.pure (.ret,r.2)
 | .cond x a b=>M.obind (a2H T fr x) fun v=>match v with
   | .bool t=>match t with
     | true=>ih a fr log
     | false=>ih b fr log
   | _=>M.fail
 | .block id b=>M.bind (ih b fr log) fun r=>match r.1 with
   | .normal=>M.pure (.normal,r.2)
   | .exit id'=>match Nat.beq id' id with
     | true=>M.pure (.normal,r.2)
     | false=>M.pure (.exit id',r.2)
   | .ret=>M.pure (.ret,r.2)
 | .loop b=>fList fr fun fr=>M.bind (ih b fr log) fun r=>match r.1 with
   | .normal=>ih (.loop b) r.2.1 r.2.2
   | .exit id=>M.pure (.exit id,r.2)
   | .ret=>M.pure (.ret,r.2)
 | .exit id=>M.pure (.exit id,(fr,log))
 | .ret=>M.pure (.ret,(fr,log))
 | _=>M.fail
def a5u (call:Nat → List Value → M Value) (n:Nat):Code → List Value → Log → M (Ex × (List Value × Log)):=
 Nat.rec (motive:=fun _=>Code → List Value → Log → M (Ex × (List Value × Log))) (fun _ _ _=>M.fail) (fun _ ih=>b3b P T call ih) n
end
theorem c2w {ops:Array Oper} {tz:Nat} {p:YPat} (h:c0M ops tz=some p):p.ops=ops ∧ p.tz=tz ∧ ops[p.n]?=some p.y ∧ ops[p.n + 1]?=some p.z ∧ p.n + 2=ops.size ∧ p.y.op=.call p.c ∧
 p.y.guard=none ∧ p.z.guard=none ∧ p.y.dst=some p.ty ∧ p.z.dst=some p.tz ∧ (∃ t,p.z.op=.unOp .not t (.tmp p.ty)) ∧ p.ty ≠ p.tz:=by
 unfold c0M at h
 cases hy:a3s ops.toList (M4 ops.toList - 2) with
 | none=>rw [hy] at h; cases h
 | some y=>
   rw [hy] at h
   dsimp only at h
   cases hz:a3s ops.toList (M4 ops.toList - 1) with
   | none=>rw [hz] at h; cases h
   | some z=>
     rw [hz] at h
     dsimp only at h
     cases hc:a9W y.op with
     | none=>rw [hc] at h; cases h
     | some c=>
       rw [hc] at h
       dsimp only at h
       cases hd:y.dst with
       | none=>rw [hd] at h; cases h
       | some ty=>
         rw [hd] at h
         dsimp only at h
         cases hb:b5F ty (b5L z.op) && b5F tz z.dst && y.guard.isNone && z.guard.isNone && !(Nat.beq ty tz) && Nat.ble 2 (M4 ops.toList) with
         | false=>rw [hb] at h; cases h
         | true=>
           rw [hb] at h
           cases h
           simp only [Bool.and_eq_true,Bool.not_eq_true'] at hb
           obtain ⟨⟨⟨⟨⟨b1,b2⟩,b3⟩,b4⟩,b5⟩,b6⟩:=hb
           rw [a0m] at hy hz b6 ⊢
           rw [a4H,a6W] at hy hz
           simp only [Array.length_toList] at hy hz b6 ⊢
           have b6:2 ≤ ops.size:=by simpa using b6
           refine ⟨trivial,trivial,hy,by rw [show ops.size - 2 + 1=ops.size - 1 by omega]; exact hz,by omega, ?_,by simpa using b3,by simpa using b4,hd, ?_, ?_, ?_⟩
           · cases ho:y.op <;> rw [ho] at hc <;> first | (cases hc; rfl) | cases hc
           · cases q:z.dst with
             | none=>rw [q] at b2; cases b2
             | some t=>rw [q] at b2; exact congrArg some (Nat.eq_of_beq_eq_true b2)
           · cases q:b5L z.op with
             | none=>rw [q] at b1; cases b1
             | some t=>
               rw [q] at b1
               obtain rfl:t=ty:=Nat.eq_of_beq_eq_true b1
               unfold b5L at q
               split at q
               · split at q
                 · split at q
                   · cases q; rename_i e; exact ⟨_,e⟩
                   · cases q
                 · cases q
               · cases q
           · intro e
             rw [e] at b5
             simp at b5
theorem c0I {a b:Code} {p:YPat} (h:a9u a b=some p):(∃ id,a=.region id p.ops false) ∧ b=.cond (.tmp p.tz) .ret .skip ∧ p.ops[p.n]?=some p.y ∧ p.ops[p.n + 1]?=some p.z ∧ p.n + 2=p.ops.size ∧ p.y.op=.call p.c ∧
 p.y.guard=none ∧ p.z.guard=none ∧ p.y.dst=some p.ty ∧ p.z.dst=some p.tz ∧ (∃ t,p.z.op=.unOp .not t (.tmp p.ty)) ∧ p.ty ≠ p.tz:=by
 cases a with
 | region id ops draw=>
   cases draw with
   | true=>cases h
   | false=>
     cases b with
     | cond x thn els=>
       unfold a9u at h
       dsimp only at h
       cases hb:c5k thn && c1R els with
       | false=>rw [hb] at h; cases h
       | true=>
         rw [hb] at h
         simp only [Bool.and_eq_true] at hb
         have e1:thn=.ret:=by cases thn <;> first | rfl | cases hb.1
         have e2:els=.skip:=by cases els <;> first | rfl | cases hb.2
         cases x with
         | tmp tz=>
           have h:c0M ops tz=some p:=h
           obtain ⟨q1,q2,q3⟩:=c2w h
           subst q1
           subst q2
           exact ⟨⟨id,rfl⟩,by rw [e1,e2],q3⟩
         | _=>cases h
     | _=>cases h
 | _=>cases h
theorem b7B {T:Tab} {fr:List Value} {c:Call} {l:Nat} {vs:List Value} (h:b3U T fr c=some (l,vs)) :
 ∃ f,c.callee=.value f ∧ a2H T fr f=some (.func (.yield l) #[] #[]) ∧ a3i T fr c.args.toList=some vs:=by
 unfold b3U at h
 split at h
 · rename_i f hf
   split at h
   · rename_i v hv
     split at h
     · rename_i fn first cap
       split at h
       · rename_i l'
         split at h
         · rename_i hfirst
           split at h
           · rename_i hcap
             split at h
             · rename_i vs' hvs
               cases h
               refine ⟨f,hf, ?_,hvs⟩
               rw [hv]
               have e1:first=#[]:=by apply Array.ext'; simpa using hfirst
               have e2:cap=#[]:=by apply Array.ext'; simpa using hcap
               rw [e1,e2]
             · cases h
           · cases h
         · cases h
       · cases h
     · cases h
   · cases h
 · cases h
end Go.V
end
section
noncomputable section
namespace Go.V
open Go.RowKit (Below)
section
variable {P:Program} {T:Tab} {B0:Nat} {w0:Base} {w:World} {K:KM} {s s':S} {a:Act} {fr:List Value} {v:Value} {m:Nat}
def b0H (s:S):Prop:=∀ i,s.c ≤ i → s.h.get i=none
theorem b0H.free (h:b0H s) (K:KM) (s':S):a2S K s s':=fun i hi _=>h i hi
theorem b0H.next {α:Type} {f:M α} {x:α} (h:b0H s) (hf:Fr f) (e:f s=some (x,s')):b0H s':=fun i hi=>by
 obtain ⟨dr,dw,_,_,e3,_,e5,_,e7,_⟩:=hf s x s' e
 rw [e7 i (fun q=>by have:=e5 i q; omega)]
 exact h i (Nat.le_trans e3 hi)
theorem c2b {o:Oper} {next:Act → World → Prop} {Q:Exit → Act → World → Prop} (h:o.wp P a w next Q):o.wpIn Fence.wide m P a w next Q:=by
 refine ⟨fun _ _=>trivial, ?_⟩
 show o.uponIn Fence.wide m P a next Q ((o.semAt none a.eval).run P w)
 rw [Oper.semAt_none]
 unfold Oper.wp at h
 generalize (execOp a.eval o).run P w=r at h
 have hd:Fence.wide.depth.isSome=true → 1 ≤ m:=fun q=>by cases q
 cases r with
 | ok x w'=>
   cases x with
   | value v=>exact h
   | skip=>exact h
   | defer d=>exact h
   | enter f args=>exact ⟨hd,callsIn_wide.2 h⟩
   | row r args=>exact ⟨hd,fun c cs _=>let ⟨v,w',q,st⟩:=h c cs; ⟨v,w',q,stepsIn_wide.2 st⟩⟩
   | _=>exact absurd h (fun q=>q)
 | halt x w'=>
   cases x with
   | panic v=>exact h
   | _=>exact absurd h (fun q=>q)
theorem b8v (hT:TabOk P T) {call:Nat → List Value → M Value} (hC:a5Z P T B0 w0 call) (hF:∀ f vs,Fr (call f vs)) (ops:Array Oper) {Q:Exit → Act → World → Prop} {rest:List Nat} :
 ∀ (n k:Nat) (fr fr':List Value) (s s':S) (K:KM) (a:Act) (w:World),k + n ≤ ops.size → a6G P T call ops.toList ((ops.toList.drop k).take n) fr s=some (fr',s') → Sim B0 w0 K s.h w → a2S K s s' → VRL K a.tmps.toList fr → GK T K →
   (∀ a' w' K',Step B0 w0 K s' w' K' → VRL K' a'.tmps.toList fr' → a'.defers=a.defers → wpOpsIn Fence.wide m P ops Q rest a' w') → wpOpsIn Fence.wide m P ops Q (List.range' k n ++ rest) a w:=by
 intro n
 induction n with
 | zero=>
   intro k fr fr' s s' K a w hk h S F hf hg hq
   rw [List.take_zero] at h
   obtain ⟨rfl,rfl⟩:=J3 h
   exact hq a w K (Step.same S rfl) hf rfl
 | succ n ih=>
   intro k fr fr' s s' K a w hk h S F hf hg hq
   have hlt:k < ops.size:=by omega
   have hd:ops.toList.drop k=ops[k] :: ops.toList.drop (k + 1):=by
    rw [List.drop_eq_getElem_cons (by simpa using hlt)]; simp
   rw [hd,List.take_succ_cons,a9x] at h
   rw [List.range'_succ,List.cons_append]
   simp only [wpOpsIn,Array.getElem?_eq_getElem hlt]
   rw [a8G ops a.tmps hf]
   cases hw:a3r ops.toList fr ops[k] with
   | true=>
     rw [hw] at h
     simp only [if_true] at h ⊢
     obtain ⟨v,s1,h1,h2⟩:=M8 h
     have hle2:=(Fr.runOps P T hF _ _ _).le h2
     refine c2b (a9c hT hC h1 S (F.left hle2) hf hg fun v' w' K' st r=>?_)
     refine ih (k + 1) _ fr' s1 s' K' _ w' (by omega) h2 st.sim (F.right (Fr.stepOp P T hF _ _) h1) (a7W (hf.mono st.le) _ r) (hg.mono st.le) fun a2 w2 K2 st2 r2 d2=>?_
     exact hq a2 w2 K2 (st.trans st2 hle2) r2 (by rw [d2,a4D])
   | false=>
     rw [hw] at h
     simp only [Bool.false_eq_true,if_false] at h ⊢
     refine ⟨fun _ _=>trivial,ih (k + 1) _ fr' s s' K _ w (by omega) h S F (a7W hf _ (VR.undef K)) hg fun a2 w2 K2 st2 r2 d2=>?_⟩
     exact hq a2 w2 K2 st2 r2 (by rw [d2,a4D])
structure Rounds (P:Program) (R:Nat → Prop) (l m:Nat) (J Jx:List (List Value) → World → Prop) (full:List (List Value)):Prop where
 abides:∀ pre W W',J pre W → Below W.heap.size W W' → J pre W'
 round:∀ pre x W1,J pre W1 → pre ++ [x] <+: full → YieldAt Fence.wide m P l x.toArray W1 fun e W'=>
  (e=.returned (.bool true) ∧ J (pre ++ [x]) W' ∧ KeepsR R W1 W') ∨ (e=.returned (.bool false) ∧ Jx (pre ++ [x]) W')
def YAt (T:Tab) (vs:a4i) (R:Nat → Prop) (J:List (List Value) → World → Prop) (ds:List Deferred) (log:Log) (fr:List Value) (s:S) (a:Act) (w:World):Prop:=
 ∃ B0 w0 K,Sim B0 w0 K s.h w ∧ w0.R=R ∧ B0=w0.w.heap.size ∧ J (log.map (·.2)) w0.w ∧ VRL K a.tmps.toList fr ∧ GK T K ∧ a.defers=ds ∧ b0H s ∧ LaidV vs w0.w ∧ vs.length ≤ B0
def c8f:Ex → Exit → Prop
 | .normal,e=>e=.normal
 | .exit id,e=>e=.exit id
 | .ret,e=>e=.ret
theorem c6g {z:Oper} {t:TypeId} {ty:Nat} {b:Bool} (hz:z.op=.unOp .not t (.tmp ty)) (he:a.eval (.tmp ty)=.bool b):(execOp a.eval z).run P w=.ok (.value (.bool (!b))) w:=by
 unfold execOp
 rw [hz]
 simp only [he]
 rfl
theorem b2D {t:Nat} {v:Value} (h:t < a.tmps.size):(a.put (some t) v).eval (.tmp t)=v:=by
 simp [Act.put,Act.eval,h]
theorem b6s {t:Option Nat} {v:Value}:(a.put t v).tmps.size=a.tmps.size:=by
 cases t <;> simp [Act.put]
theorem LaidV.keeps {vs:a4i} {R:Nat → Prop} {w w':World} (h:LaidV vs w) (hR:∀ k,k < vs.length → R k) (hk:KeepsR R w w'):LaidV vs w':=
 ⟨Nat.le_trans h.size hk.size,fun g l hg off v hv=>by
  have hc:=h.cell g l hg off v hv
  obtain ⟨o,ho,hoc⟩:∃ o:Obj,w.heap[g]?=some o ∧ o.isCells=true:=by
   unfold World.cell? at hc
   cases hx:w.heap[g]? with
   | none=>simp [hx] at hc
   | some o=>
     cases o with
     | cells=>exact ⟨_,rfl,rfl⟩
     | _=>simp [hx] at hc
  rw [← hc]
  exact World.cell?_of_block (w:=w) (by dsimp only; rw [hk.same _ _ (hR g (List.getElem?_eq_some_iff.1 hg).1) ho (Or.inl hoc),ho]),fun g l hg hl=>by
  obtain ⟨t,fz,e⟩:=h.row g l hg hl
  exact ⟨t,fz,by rw [hk.same _ _ (hR g (List.getElem?_eq_some_iff.1 hg).1) e (Or.inl rfl)]⟩⟩
theorem b5f (hT:TabOk P T) {call:Nat → List Value → M Value} {W9:a4i} (hC:∀ B0 w0,LaidV W9 w0.w → W9.length ≤ B0 → a5Z P T B0 w0 call) (hF:∀ f vs,Fr (call f vs))
 {R:Nat → Prop} {l m:Nat} {full:List (List Value)} {J Jx:List (List Value) → World → Prop} (hR:Rounds P R l m J Jx full) (hRv:∀ k,k < W9.length → R k)
 {x y:Code} {p:YPat} (hp:a9u x y=some p) {log log':Log} {ex:Ex} {fr':List Value} {Q:Exit → Act → World → Prop} {ds:List Deferred}
 (h:a9o P T call p fr log s=some ((ex,(fr',log')),s')) (hY:YAt T W9 R J ds log fr s a w) (hl:∀ e ∈ log',e.1=l) (hN:log'.map (·.2) <+: full)
 (hq:∀ e a' w',YAt T W9 R J ds log' fr' s' a' w' → c8f ex e → Q e a' w') (hx:∀ a' w' pre,pre <+: log'.map (·.2) → Jx pre w' → a'.defers=ds → Q .ret a' w'):(Code.seq x y).wp P Q a w:=by
 obtain ⟨⟨id,rfl⟩,rfl,p1,p2,p3,p4,p5,p6,p7,p8,⟨t,p9⟩,p10⟩:=c0I hp
 obtain ⟨B0,w0,K,S,hwR,hB0,hJ,hf,hg,hds,hfr,hL0,hLB⟩:=hY
 obtain ⟨fr1,s1,h1,h2⟩:=M8 h
 obtain ⟨⟨l',vs⟩,hyo,h3⟩:=U4 h2
 obtain ⟨hgd,h4⟩:=R4 h3
 obtain ⟨u,s2,h5,h6⟩:=M8 h4
 rw [a8o,M7] at h6
 obtain ⟨e7,rfl⟩:=J3 h6
 cases e7
 simp only [Bool.and_eq_true] at hgd
 obtain ⟨⟨g1,g2⟩,g3⟩:=hgd
 obtain ⟨f,c1,c2,c3⟩:=b7B hyo
 have hll:l'=l:=hl (l',vs) (by simp)
 subst hll
 rw [a0m] at g2 g3
 have g2:p.ty < fr1.length:=by simpa using g2
 have g3:p.tz < fr1.length:=by simpa using g3
 obtain ⟨fz1,fz2⟩:=b8U h5
 have hfr1:b0H s1:=hfr.next (Fr.runOps P T hF _ _ _) h1
 have hlen:log.map (·.2) ++ [vs] <+: full:=by simpa using hN
 refine wpIn_wide (n:=m + 1).1 (wpIn_seq (wpIn_region ?_))
 have hrange:List.range p.ops.size=List.range' 0 p.n ++ [p.n,p.n + 1]:=by
  rw [← p3,List.range_eq_range', ← List.range'_append]
  simp [List.range'_succ]
 rw [hrange]
 refine b8v hT (hC B0 w0 hL0 hLB) hF p.ops p.n 0 fr fr1 s s1 K a w (by omega) (by rw [List.drop_zero, ← b0z]; exact h1) S (hfr.free _ _) hf hg fun a1 w1 K1 st r1 d1=>?_
 have hsz:a1.tmps.size=fr1.length:=by have:=r1.len; simpa using this
 have ef:a1.eval f=.func (.yield l') #[] #[]:=by
  have r:=a0C r1 (hg.mono st.le) c2
  obtain ⟨x1,y1,e,q1,q2⟩:=b3P r
  rw [e]
  have e1:x1=#[]:=by apply Array.ext'; have:=q1.len; simp at this; simpa using this
  have e2:y1=#[]:=by apply Array.ext'; have:=q2.len; simp at this; simpa using this
  rw [e1,e2]
 have ea:p.c.args.toList.map a1.eval=vs:=by
  have r:=a6E r1 (hg.mono st.le) c3
  apply List.ext_getElem?
  intro i
  by_cases hi:i < vs.length
  · have hi':i < (p.c.args.toList.map a1.eval).length:=by rw [r.len]; exact hi
    have q:=r.at_ i _ _ (List.getElem?_eq_getElem hi') (List.getElem?_eq_getElem hi)
    rw [List.getElem?_eq_getElem hi',List.getElem?_eq_getElem hi,q.eq_of_noAddr 8 ((a1a _ _).1 g1 vs[i] (List.getElem_mem hi))]
  · rw [List.getElem?_eq_none (by rw [r.len]; omega),List.getElem?_eq_none (by omega)]
 have hop:execOp a1.eval p.y=Instr.yield l' vs.toArray:=by
  unfold execOp
  rw [p4]
  show (do let d ← resolve a1.eval p.c p.y.type; invoke d.target d.args)=_
  unfold resolve
  rw [c1]
  show (do let d ← Deferred.ofValue (a1.eval f) (p.c.args.map a1.eval); invoke d.target d.args)=_
  rw [ef]
  show Instr.yield l' (#[] ++ p.c.args.map a1.eval)=_
  congr 1
  apply Array.ext'
  simpa using ea
 have hJ1:J (log.map (·.2)) w1:=hR.abides _ _ _ hJ (by rw [← hB0]; exact st.sim.below)
 obtain ⟨fn,tmps,assign,body,hrun,hround⟩:=hR.round (log.map (·.2)) vs w1 hJ1 hlen
 have hw:∀ (o:Oper) (ts:Array Value),o.guard=none → Region.wanted o (yielded p.ops ts)=true:=fun o ts h=>by unfold Region.wanted; rw [h]
 simp only [wpOpsIn,p1,p2]
 rw [hw _ _ p5,if_pos rfl]
 refine ⟨fun _ _=>trivial, ?_⟩
 show p.y.uponIn Fence.wide (m + 1) P a1 _ _ ((p.y.semAt none a1.eval).run P w1)
 rw [Oper.semAt_none,hop,hrun,Oper.uponIn_round]
 refine ⟨fun q=>(by cases q),hround.mono fun e w2 he=>?_⟩
 have tail:∀ (b:Bool) (w2:World) (Q':Exit → Act → World → Prop),Q' .normal ((a1.put (some p.ty) (.bool b)).put (some p.tz) (.bool (!b))) w2 →
  (if Region.wanted p.z (yielded p.ops (a1.put p.y.dst (.bool b)).tmps)=true then p.z.wpIn Fence.wide (m + 1) P (a1.put p.y.dst (.bool b)) w2 (fun a w=>Q' .normal a w) Q'
    else (∀ f,p.z.about P w2 (a1.put p.y.dst (.bool b)).eval=some f → Fence.wide.fn f) ∧ Q' .normal ((a1.put p.y.dst (.bool b)).put p.z.dst undef) w2):=by
  intro b w2 Q' hQ
  rw [hw _ _ p6,if_pos rfl]
  refine ⟨fun _ _=>trivial, ?_⟩
  show p.z.uponIn Fence.wide (m + 1) P _ _ _ ((p.z.semAt none _).run P w2)
  rw [Oper.semAt_none,p7,c6g (b:=b) p9 (b2D (by omega)),Oper.uponIn_value,p8]
  exact hQ
 rcases he with ⟨rfl,hJ2,hk⟩ | ⟨rfl,hJx⟩
 · have hL1:LaidV W9 w1:=hL0.below st.sim.below hLB
   have hL2:LaidV W9 w2:=hL1.keeps hRv hk
   refine tail true w2 _ ?_
   show ((Code.cond (.tmp p.tz) .ret .skip).wpIn Fence.wide (m + 1) P Q) _ w2
   refine wpIn_cond_false (b2D (by rw [b6s]; omega)) (wpIn_skip (hq _ _ _ ⟨w2.heap.size,⟨w2,R⟩,a8V K1, ?_,rfl,rfl, ?_, ?_, ?_, ?_, ?_,hL2,hL2.size⟩ rfl))
   · have:=c0c st.sim fz2 (by rw [hwR]; exact hk)
     rw [hwR] at this
     exact this
   · simpa using hJ2
   · have q1:=(r1.frz.lset p.ty (VR.plain (K:=a8V K1) (v:=.bool true) rfl)).lset p.tz (VR.plain (K:=a8V K1) (v:=.bool false) rfl)
     simpa [Act.put] using q1
   · exact (hg.mono st.le).frz
   · rw [a4D,a4D,d1,hds]
   · intro i hi
     rw [fz1] at hi
     rcases fz2 i with ⟨_,e⟩ | ⟨cs,cur,ro,e,_⟩
     · exact e
     · rw [hfr1 i hi] at e; cases e
 · refine tail false w2 _ ?_
   show ((Code.cond (.tmp p.tz) .ret .skip).wpIn Fence.wide (m + 1) P Q) _ w2
   refine wpIn_cond_true (b2D (by rw [b6s]; omega)) (wpIn_ret (hx _ _ (log.map (·.2) ++ [vs]) (by simp) hJx ?_))
   rw [a4D,a4D,d1,hds]
end
end Go.V
end
section
noncomputable section
namespace Go.V
open Go.RowKit (Below)
section
variable {P:Program} {T:Tab}
theorem b4A {call:Nat → List Value → M Value} (n:Nat):∀ c fr log s ex fr' log' s',a5u P T call n c fr log s=some ((ex,(fr',log')),s') → log <+: log':=by
 induction n with
 | zero=>intro c fr log s ex fr' log' s' h; cases h
 | succ n ih=>
   intro c fr log s ex fr' log' s' h
   have h0:b3b P T call (a5u P T call n) c fr log s=some ((ex,(fr',log')),s'):=h
   unfold b3b at h0
   split at h0
   · obtain ⟨e,_⟩:=J3 h0; cases e; exact List.prefix_rfl
   · obtain ⟨r,s1,h1,h2⟩:=M8 h0
     obtain ⟨e,_⟩:=J3 h2; cases e; exact List.prefix_rfl
   · rename_i ca cb
     cases hp:a9u ca cb with
     | some p=>
       rw [hp] at h0
       obtain ⟨fr1,s1,h1,h2⟩:=M8 h0
       obtain ⟨⟨l',vs⟩,hyo,h3⟩:=U4 h2
       obtain ⟨hgd,h4⟩:=R4 h3
       obtain ⟨u,s2,h5,h6⟩:=M8 h4
       rw [a8o,M7] at h6
       obtain ⟨e7,_⟩:=J3 h6
       cases e7
       exact List.prefix_append _ _
     | none=>
       rw [hp] at h0
       obtain ⟨⟨x1,fr1,log1⟩,s1,h1,h2⟩:=M8 h0
       have p1:=ih _ _ _ _ _ _ _ _ h1
       cases x1 with
       | normal=>exact p1.trans (ih _ _ _ _ _ _ _ _ h2)
       | exit id=>obtain ⟨e,_⟩:=J3 h2; cases e; exact p1
       | ret=>obtain ⟨e,_⟩:=J3 h2; cases e; exact p1
   · obtain ⟨u,e1,h1⟩:=U4 h0
     cases u with
     | bool t=>cases t <;> exact ih _ _ _ _ _ _ _ _ h1
     | _=>cases h1
   · rename_i bid cb
     obtain ⟨⟨x1,fr1,log1⟩,s1,h1,h2⟩:=M8 h0
     have p1:=ih _ _ _ _ _ _ _ _ h1
     cases x1 with
     | normal=>obtain ⟨e,_⟩:=J3 h2; cases e; exact p1
     | exit id'=>
       dsimp only at h2
       cases hb:Nat.beq id' bid with
       | true=>rw [hb] at h2; obtain ⟨e,_⟩:=J3 h2; cases e; exact p1
       | false=>rw [hb] at h2; obtain ⟨e,_⟩:=J3 h2; cases e; exact p1
     | ret=>obtain ⟨e,_⟩:=J3 h2; cases e; exact p1
   · rw [a8o] at h0
     obtain ⟨⟨x1,fr1,log1⟩,s1,h1,h2⟩:=M8 h0
     have p1:=ih _ _ _ _ _ _ _ _ h1
     cases x1 with
     | normal=>exact p1.trans (ih _ _ _ _ _ _ _ _ h2)
     | exit id=>obtain ⟨e,_⟩:=J3 h2; cases e; exact p1
     | ret=>obtain ⟨e,_⟩:=J3 h2; cases e; exact p1
   · obtain ⟨e,_⟩:=J3 h0; cases e; exact List.prefix_rfl
   · obtain ⟨e,_⟩:=J3 h0; cases e; exact List.prefix_rfl
   · cases h0
structure Ways (T:Tab) (W9:a4i) (R:Nat → Prop) (J Jx:List (List Value) → World → Prop) (ds:List Deferred) (ex:Ex) (fr':List Value) (log':Log) (s':S) (Q:Exit → Act → World → Prop):Prop where
 on:∀ e a' w',YAt T W9 R J ds log' fr' s' a' w' → c8f ex e → Q e a' w'
 off:∀ a' w' pre,pre <+: log'.map (·.2) → Jx pre w' → a'.defers=ds → Q .ret a' w'
theorem c2y (hT:TabOk P T) (hM:P.follows .mixedOrders=true) {call:Nat → List Value → M Value} {W9:a4i} (hC:∀ B0 w0,LaidV W9 w0.w → W9.length ≤ B0 → a5Z P T B0 w0 call) (hF:∀ f vs,Fr (call f vs))
 {R:Nat → Prop} {l m:Nat} {full:List (List Value)} {J Jx:List (List Value) → World → Prop} (hR:Rounds P R l m J Jx full) (hRv:∀ k,k < W9.length → R k) {ds:List Deferred} (n:Nat) :
 (∀ c fr log s ex fr' log' s' a w Q,a5u P T call n c fr log s=some ((ex,(fr',log')),s') → YAt T W9 R J ds log fr s a w → (∀ e ∈ log',e.1=l) → log'.map (·.2) <+: full →
   Ways T W9 R J Jx ds ex fr' log' s' Q → c.wp P Q a w) ∧
 (∀ b fr log s ex fr' log' s' a w Q,a5u P T call n (.loop b) fr log s=some ((ex,(fr',log')),s') → YAt T W9 R J ds log fr s a w → (∀ e ∈ log',e.1=l) → log'.map (·.2) <+: full →
   Ways T W9 R J Jx ds ex fr' log' s' Q → Code.rounds P b Q n a w):=by
 induction n with
 | zero=>
   constructor
   · intro c fr log s ex fr' log' s' a w Q h; cases h
   · intro b fr log s ex fr' log' s' a w Q h; cases h
 | succ n ih=>
   obtain ⟨ihA,ihB⟩:=ih
   have sub:∀ {log1 log':Log},log1 <+: log' → (∀ e ∈ log',e.1=l) → log'.map (·.2) <+: full → (∀ e ∈ log1,e.1=l) ∧ log1.map (·.2) <+: full:=
    fun hp h1 h2=>⟨fun e he=>h1 e (hp.subset he),(hp.map _).trans h2⟩
   have hB:∀ b fr log s ex fr' log' s' a w Q,a5u P T call (n + 1) (.loop b) fr log s=some ((ex,(fr',log')),s') → YAt T W9 R J ds log fr s a w → (∀ e ∈ log',e.1=l) → log'.map (·.2) <+: full →
    Ways T W9 R J Jx ds ex fr' log' s' Q → Code.rounds P b Q (n + 1) a w:=by
    intro b fr log s ex fr' log' s' a w Q h hY hl hN hW
    have h1:fList fr (fun fr=>M.bind (a5u P T call n b fr log) fun r=>match r.1 with
     | .normal=>a5u P T call n (.loop b) r.2.1 r.2.2
     | .exit id=>M.pure (.exit id,r.2)
     | .ret=>M.pure (.ret,r.2)) s=some ((ex,(fr',log')),s'):=h
    rw [a8o] at h1
    obtain ⟨⟨x1,fr1,log1⟩,s1,h2,h3⟩:=M8 h1
    show b.wp P (Exit.then (Code.rounds P b Q n) Q) a w
    cases x1 with
    | normal=>
      have h3:a5u P T call n (.loop b) fr1 log1 s1=some ((ex,(fr',log')),s'):=h3
      have hp:=b4A n _ _ _ _ _ _ _ _ h3
      obtain ⟨q1,q2⟩:=sub hp hl hN
      refine ihA b fr log s .normal fr1 log1 s1 a w _ h2 hY q1 q2 ⟨fun e a' w' y he=>?_,fun a' w' pre hpre hx hd=>?_⟩
      · have he:e=.normal:=he
        subst he
        exact ihB b fr1 log1 s1 ex fr' log' s' a' w' Q h3 y hl hN hW
      · exact hW.off a' w' pre (hpre.trans (hp.map _)) hx hd
    | exit id=>
      have h3:M.pure (Ex.exit id,(fr1,log1)) s1=some ((ex,(fr',log')),s'):=h3
      obtain ⟨e,rfl⟩:=J3 h3
      cases e
      refine ihA b fr log s _ _ _ _ a w _ h2 hY hl hN ⟨fun e a' w' y he=>?_,fun a' w' pre hpre hx hd=>hW.off a' w' pre hpre hx hd⟩
      have he':e=.exit id:=he
      subst he'
      exact hW.on _ _ _ y he
    | ret=>
      have h3:M.pure (Ex.ret,(fr1,log1)) s1=some ((ex,(fr',log')),s'):=h3
      obtain ⟨e,rfl⟩:=J3 h3
      cases e
      refine ihA b fr log s _ _ _ _ a w _ h2 hY hl hN ⟨fun e a' w' y he=>?_,fun a' w' pre hpre hx hd=>hW.off a' w' pre hpre hx hd⟩
      have he':e=.ret:=he
      subst he'
      exact hW.on _ _ _ y he
   refine ⟨fun c fr log s ex fr' log' s' a w Q h hY hl hN hW=>?_,hB⟩
   have h0:b3b P T call (a5u P T call n) c fr log s=some ((ex,(fr',log')),s'):=h
   cases c with
   | skip=>
     have h0:M.pure (Ex.normal,(fr,log)) s=some ((ex,(fr',log')),s'):=h0
     obtain ⟨e,rfl⟩:=J3 h0
     cases e
     exact wp_skip (hW.on _ _ _ hY rfl)
   | region id ops draw=>
     have h0:M.bind (region P T call ops.toList draw fr) (fun r=>M.pure (r.1,(r.2,log))) s=some ((ex,(fr',log')),s'):=h0
     obtain ⟨⟨x1,fr1⟩,s1,h1,h2⟩:=M8 h0
     obtain ⟨e,rfl⟩:=J3 h2
     cases e
     obtain ⟨B0,w0,K,S,hwR,hB0,hJ,hf,hg,hds,hfr,hL0,hLB⟩:=hY
     refine (b7c hT hM (hC B0 w0 hL0 hLB) hF 1).1 (.region id ops draw) fr s _ _ _ K a w Q h1 S (hfr.free _ _) hf hg fun e a' w' L=>?_
     obtain ⟨K',st,r,d,q⟩:=L
     refine hW.on e a' w' ⟨B0,w0,K',st.sim,hwR,hB0,hJ,r,hg.mono st.le,by rw [d,hds],hfr.next (Fr.region P T hF _ _ _) h1,hL0,hLB⟩ ?_
     cases x1 <;> exact q
   | seq x y=>
     cases hp:a9u x y with
     | some p=>
       have h0:(match a9u x y with
        | some p=>a9o P T call p fr log
        | none=>M.bind (a5u P T call n x fr log) fun r=>match r.1 with
          | .normal=>a5u P T call n y r.2.1 r.2.2
          | .exit id=>M.pure (.exit id,r.2)
          | .ret=>M.pure (.ret,r.2)) s=some ((ex,(fr',log')),s'):=h0
       rw [hp] at h0
       exact b5f hT hC hF hR hRv hp h0 hY hl hN hW.on hW.off
     | none=>
       have h0:(match a9u x y with
        | some p=>a9o P T call p fr log
        | none=>M.bind (a5u P T call n x fr log) fun r=>match r.1 with
          | .normal=>a5u P T call n y r.2.1 r.2.2
          | .exit id=>M.pure (.exit id,r.2)
          | .ret=>M.pure (.ret,r.2)) s=some ((ex,(fr',log')),s'):=h0
       rw [hp] at h0
       obtain ⟨⟨x1,fr1,log1⟩,s1,h2,h3⟩:=M8 h0
       refine wp_seq ?_
       cases x1 with
       | normal=>
         have h3:a5u P T call n y fr1 log1 s1=some ((ex,(fr',log')),s'):=h3
         have hp:=b4A n _ _ _ _ _ _ _ _ h3
         obtain ⟨q1,q2⟩:=sub hp hl hN
         refine ihA x fr log s .normal fr1 log1 s1 a w _ h2 hY q1 q2 ⟨fun e a' w' y' he=>?_,fun a' w' pre hpre hx hd=>?_⟩
         · have he:e=.normal:=he
           subst he
           exact ihA y fr1 log1 s1 ex fr' log' s' a' w' Q h3 y' hl hN hW
         · exact hW.off a' w' pre (hpre.trans (hp.map _)) hx hd
       | exit id=>
         have h3:M.pure (Ex.exit id,(fr1,log1)) s1=some ((ex,(fr',log')),s'):=h3
         obtain ⟨e,rfl⟩:=J3 h3
         cases e
         refine ihA x fr log s _ _ _ _ a w _ h2 hY hl hN ⟨fun e a' w' y he=>?_,fun a' w' pre hpre hx hd=>hW.off a' w' pre hpre hx hd⟩
         have he':e=.exit id:=he
         subst he'
         exact hW.on _ _ _ y he
       | ret=>
         have h3:M.pure (Ex.ret,(fr1,log1)) s1=some ((ex,(fr',log')),s'):=h3
         obtain ⟨e,rfl⟩:=J3 h3
         cases e
         refine ihA x fr log s _ _ _ _ a w _ h2 hY hl hN ⟨fun e a' w' y he=>?_,fun a' w' pre hpre hx hd=>hW.off a' w' pre hpre hx hd⟩
         have he':e=.ret:=he
         subst he'
         exact hW.on _ _ _ y he
   | cond x c1 c2=>
     have h0:M.obind (a2H T fr x) (fun v=>match v with
      | .bool t=>match t with
        | true=>a5u P T call n c1 fr log
        | false=>a5u P T call n c2 fr log
      | _=>M.fail) s=some ((ex,(fr',log')),s'):=h0
     obtain ⟨u,e1,h1⟩:=U4 h0
     have hY':=hY
     obtain ⟨B0,w0,K,S,hwR,hB0,hJ,hf,hg,hds,hfr,hL0,hLB⟩:=hY'
     have r:=a0C hf hg e1
     cases u with
     | bool t=>
       have hb:=b1z r
       cases t with
       | true=>exact wp_cond_true hb (ihA c1 fr log s ex fr' log' s' a w Q h1 hY hl hN hW)
       | false=>exact wp_cond_false hb (ihA c2 fr log s ex fr' log' s' a w Q h1 hY hl hN hW)
     | _=>cases h1
   | block id b=>
     have h0:M.bind (a5u P T call n b fr log) (fun r=>match r.1 with
      | .normal=>M.pure (.normal,r.2)
      | .exit id'=>match Nat.beq id' id with
        | true=>M.pure (.normal,r.2)
        | false=>M.pure (.exit id',r.2)
      | .ret=>M.pure (.ret,r.2)) s=some ((ex,(fr',log')),s'):=h0
     obtain ⟨⟨x1,fr1,log1⟩,s1,h2,h3⟩:=M8 h0
     refine wp_block ?_
     cases x1 with
     | normal=>
       have h3:M.pure (Ex.normal,(fr1,log1)) s1=some ((ex,(fr',log')),s'):=h3
       obtain ⟨e,rfl⟩:=J3 h3
       cases e
       refine ihA b fr log s _ _ _ _ a w _ h2 hY hl hN ⟨fun e a' w' y he=>?_,fun a' w' pre hpre hx hd=>hW.off a' w' pre hpre hx hd⟩
       have he':e=.normal:=he
       subst he'
       exact hW.on _ _ _ y he
     | exit id'=>
       have h3:(match Nat.beq id' id with | true=>M.pure (Ex.normal,(fr1,log1)) | false=>M.pure (Ex.exit id',(fr1,log1))) s1=some ((ex,(fr',log')),s'):=h3
       cases hb:Nat.beq id' id with
       | true=>
         rw [hb] at h3
         obtain ⟨e,rfl⟩:=J3 h3
         cases e
         refine ihA b fr log s _ _ _ _ a w _ h2 hY hl hN ⟨fun e a' w' y he=>?_,fun a' w' pre hpre hx hd=>hW.off a' w' pre hpre hx hd⟩
         have he':e=.exit id':=he
         subst he'
         show (if id'=id then Q .normal a' w' else Q (.exit id') a' w')
         rw [if_pos (Nat.eq_of_beq_eq_true hb)]
         exact hW.on _ _ _ y rfl
       | false=>
         rw [hb] at h3
         obtain ⟨e,rfl⟩:=J3 h3
         cases e
         refine ihA b fr log s _ _ _ _ a w _ h2 hY hl hN ⟨fun e a' w' y he=>?_,fun a' w' pre hpre hx hd=>hW.off a' w' pre hpre hx hd⟩
         have he':e=.exit id':=he
         subst he'
         show (if id'=id then Q .normal a' w' else Q (.exit id') a' w')
         rw [if_neg (fun q=>by subst q; simp at hb)]
         exact hW.on _ _ _ y he
     | ret=>
       have h3:M.pure (Ex.ret,(fr1,log1)) s1=some ((ex,(fr',log')),s'):=h3
       obtain ⟨e,rfl⟩:=J3 h3
       cases e
       refine ihA b fr log s _ _ _ _ a w _ h2 hY hl hN ⟨fun e a' w' y he=>?_,fun a' w' pre hpre hx hd=>hW.off a' w' pre hpre hx hd⟩
       have he':e=.ret:=he
       subst he'
       exact hW.on _ _ _ y he
   | loop b=>exact wp_loop_rounds (n + 1) (hB b fr log s ex fr' log' s' a w Q h hY hl hN hW)
   | exit id=>
     have h0:M.pure (Ex.exit id,(fr,log)) s=some ((ex,(fr',log')),s'):=h0
     obtain ⟨e,rfl⟩:=J3 h0
     cases e
     exact wp_exit (hW.on _ _ _ hY rfl)
   | ret=>
     have h0:M.pure (Ex.ret,(fr,log)) s=some ((ex,(fr',log')),s'):=h0
     obtain ⟨e,rfl⟩:=J3 h0
     cases e
     exact wp_ret (hW.on _ _ _ hY rfl)
   | _=>cases h0
end
end Go.V
end
