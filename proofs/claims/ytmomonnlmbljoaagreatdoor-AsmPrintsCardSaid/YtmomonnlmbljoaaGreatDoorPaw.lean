import Derived.Lib.IndexMore
import Derived.Lib.Join
import Derived.Lib.Repeat
import Derived.Test.YtmomonnlmbljoaaGreatDoorPar
import Derived.Test.YtmomonnlmbljoaaGreatDoorPav
section
namespace Go.Proofs.YtmomonnlmbljoaaGreatDoor
open Go.V Go.RowKit Go.Shelf Go.Proofs
attribute [local go_sem] Oper.semAt_some
set_option maxRecDepth 100000
variable {mL:Int}
theorem a8q (W:World) (v:Value) (t:TypeId):(W.alloc (.cells #[v] t)).cell? ⟨W.heap.size, 0,none⟩=some v∧(W.alloc (.cells #[v] t)).frozen? ⟨W.heap.size, 0,none⟩=false:=by
 have h:(W.alloc (.cells #[v] t)).heap[W.heap.size]?=some (.cells #[v] t (0, 0)):=World.alloc_heap_new W _
 constructor
 · unfold World.cell?; rw [h]; rfl
 · unfold World.frozen?; rw [h]; rfl
theorem a8f {W:World} {a:Addr} {v:Value} (o:Obj) (h:W.cell? a=some v):(W.alloc o).cell? a=some v:=cell_kept h (World.grownBy_alloc W o none) (fun r q=>by cases q)
theorem b5O {W:World} {a:Addr} {v:Value} (o:Obj) (h:W.cell? a=some v) (hf:W.frozen? a=false):(W.alloc o).frozen? a=false:=(frozen_kept h (World.grownBy_alloc W o none) (fun r q=>by cases q)).trans hf
theorem b8O {R:Nat→Prop} {A B C:World} (h:KeepsR R A B) (k:KeepsR R B C):KeepsR R A C:=⟨Nat.le_trans h.size k.size,fun i o hi ho hc=>k.same i o hi (h.same i o hi ho hc) hc⟩
theorem b7H {R:Nat→Prop} (W:World) (l:Nat) (o o':Obj) (h:W.heap[l]?=some o) (h1:o.isCells=false) (h2:o.isWalk=false):KeepsR R W (W.putObj l o'):=
 ⟨by simp [World.putObj],fun k ok hk hok hc=>by
  by_cases hkl:k=l
  · subst hkl
    rw [h] at hok; cases hok
    rcases hc with hc | hc
    · rw [h1] at hc; cases hc
    · rw [h2] at hc; cases hc
  · rw [World.putObj_heap_other hkl]; exact hok⟩
theorem b2D {R:Nat→Prop} (W:World):KeepsR R W W:=⟨Nat.le_refl _,fun _ _ _ h _=>h⟩
noncomputable def b0c (op:Int):ByteArray:=match a3X.find? (fun x=>(Int.ofNat x.1) == op) with
 | some x=>⟨⟨x.2⟩⟩
 | none=>ByteArray.empty
set_option maxHeartbeats 2000000 in
theorem c0Z (n:Nat) (hn:3≤n) (op:Int) (w:World) (hL:LaidV (V6 mL) w) :
 CallsIn Fence.wide n Tryz.prog 35 #[.int .i64 op] w fun e W'=>e=.returned (.string (b0c op))∧Below w.heap.size w W':=by
 have h1:1≤n:=by omega
 refine callsIn_of_wp_marks Tryz.func35 rfl trivial ?_ rfl
 simp only [Tryz.ntmps35,List.size_toArray,List.length_cons,List.length_nil,Nat.reduceAdd,Nat.reduceSub,Array.replicate_succ,Array.replicate_zero,List.push_toArray,List.append_toArray,List.nil_append,List.cons_append]
 gi_wp2
 refine ⟨trivial,(b3l (n - 1) _).mono ?_⟩
 rintro e w' ⟨rfl,rfl⟩
 gi_wp2
 have c0:=a8q w (.int .i64 op) 22
 have c1:=a8q (w.alloc (.cells #[.int .i64 op] 22)) (.string ⟨#[]⟩) 9
 simp only [World.size_alloc] at c1
 have hB0:Below w.heap.size w ((w.alloc (.cells #[.int .i64 op] 22)).alloc (.cells #[.string ⟨#[]⟩] 9)):=((Below.refl _ w).alloc (Nat.le_refl _) _).alloc (by simp) _
 refine wpIn_rangeFunc_ownF rfl h1 (gf:=120) (lb:=#[]) rfl trivial (enters_of Tryz.func120 (by kernel_rfl) rfl)
  (b2F (hL.below hB0 hL.size) (B:=w.heap.size+2) (by simp)) b8O (fun W l o o' _ h1 h2 h3=>b7H W l o o' h1 h2 h3) (Below.refl _ _) (fun _=>rfl)
  (fun pre W=>((∀ y∈pre,Int.ofNat y.1≠op)∧W.cell? ⟨w.heap.size, 0,none⟩=some (.int .i64 op)∧W.cell? ⟨w.heap.size+1, 0,none⟩=some (.string ⟨#[]⟩)∧W.frozen? ⟨w.heap.size+1, 0,none⟩=false)∧Below w.heap.size w W)
  (fun c pre W=>(c=.ret∧(∃ q y,pre=q ++ [y]∧(∀ x∈q,Int.ofNat x.1≠op)∧Int.ofNat y.1=op∧W.cell? ⟨w.heap.size+1, 0,none⟩=some (.string ⟨⟨y.2⟩⟩)))∧Below w.heap.size w W)
  (OwnFrom.and (Own.from (fun s A B row hs hg hr=>⟨hs.1,cell_kept hs.2.1 hg hr,cell_kept hs.2.2.1 hg hr,(frozen_kept hs.2.2.1 hg hr).trans hs.2.2.2⟩) _) (ownFrom_below (Nat.le_refl _) (by simp; omega)))
  (fun c=>OwnFrom.and (Own.from (fun s A B row hs hg hr=>⟨hs.1,let ⟨q,y,e1,e2,e3,e4⟩:=hs.2; ⟨q,y,e1,e2,e3,cell_kept e4 hg hr⟩⟩) _) (ownFrom_below (Nat.le_refl _) (by simp; omega)))
  ⟨⟨by simp,a8f _ c0.1,c1.1,c1.2⟩,hB0⟩
  (fun x=>{ tmps:=#[.int .i64 op,.pointer (some ⟨w.heap.size, 0,none⟩),.pointer (some ⟨w.heap.size+1, 0,none⟩),.int .i64 (Int.ofNat x.1),.string ⟨⟨x.2⟩⟩,.func (.func 120) #[] #[],.int .i64 (Int.ofNat x.1),.string ⟨⟨x.2⟩⟩,undef,undef,undef,undef],defers:=[] }) ?assign ?body ?done ?stop
 case assign=>
  intro l x W K hK
  gi_wp2
  exact hK
 case body=>
  rintro l pre x W ⟨⟨hp,hcw,hcr,hfr⟩,hB⟩ _
  gi_wp2
  · rename_i hx
    have hx':Int.ofNat x.1=op:=eq_of_beq hx
    exact ⟨KeepsOthers.setCell _ _ _,⟨rfl,pre,x,rfl,hp,hx',World.cell?_setCell_same' _ _ _ (by rw [hcr]; rfl)⟩,hB.setCell (p:=⟨w.heap.size+1, 0,none⟩) (by simp) _⟩
  · rename_i hx
    exact ⟨KeepsOthers.refl _,b2D _,⟨fun y hy=>(List.mem_append.1 hy).elim (hp y) (fun e e'=>by simp at e; subst e; subst e'; simp at hx),hcw,hcr,hfr⟩,hB⟩
 case done=>
  rintro D ys W hD rfl ⟨⟨hne,_,hcr,hfr⟩,hB⟩ hK
  gi_wp2
  have hK':=(KeepsOthers.setCell W ⟨w.heap.size+1, 0,none⟩ (.string ⟨#[]⟩)).same D _ hK rfl
  refine ⟨by simp,.inl ⟨_,_,rfl,run_takeDeferred hK', ?_⟩⟩
  have hc5:=cell_kept (World.cell?_setCell_same' W ⟨w.heap.size+1, 0,none⟩ (.string ⟨#[]⟩) (by rw [hcr]; rfl)) (grownBy_putObj' _ D (.deferred none)) (fun r e=>by cases e; exact ⟨_,hK',rfl⟩)
  refine ⟨.string ⟨#[]⟩, ?_, ?_,(hB.setCell (p:=⟨w.heap.size+1, 0,none⟩) (by simp) _).trans (belowK_b (w:=w) (Nat.le_refl _) _ D _ _ (by simp at hD; omega) hK' rfl rfl)⟩
  · simp [results,Tryz.f35,go_sem,hc5]
  · have:a3X.find? (fun x=>(Int.ofNat x.1) == op)=none:=by
     rw [List.find?_eq_none]
     intro x hx
     simpa using hne x hx
    unfold b0c
    rw [this]
    rfl
 case stop=>
  rintro D c pre W hD hpre ⟨⟨rfl,q,y,rfl,hq,hy,hcr⟩,hB⟩ hK
  gi_wp2
  refine ⟨by simp,.inl ⟨_,_,rfl,run_takeDeferred hK, ?_⟩⟩
  have hc5:=cell_kept hcr (grownBy_putObj' _ D (.deferred none)) (fun r e=>by cases e; exact ⟨_,hK,rfl⟩)
  refine ⟨.string ⟨⟨y.2⟩⟩, ?_, ?_,hB.trans (belowK_b (w:=w) (Nat.le_refl _) W D _ _ (by simp at hD; omega) hK rfl rfl)⟩
  · simp [results,Tryz.f35,go_sem,hc5]
  · have:a3X.find? (fun x=>(Int.ofNat x.1) == op)=some y:=by
     obtain ⟨t,ht⟩:=hpre
     rw [← ht,List.append_assoc,List.find?_append,List.find?_eq_none.2 (fun x hx=>by simpa using hq x hx)]
     simp
     exact Or.inl hy
    unfold b0c
    rw [this]
theorem a9F (W:World) (b c:Nat) (v:Value) (h:b≠c):(W.setCell ⟨b, 0,none⟩ v).cell? ⟨c, 0,none⟩=W.cell? ⟨c, 0,none⟩:=by
 apply World.cell?_setCell_other
 intro e
 cases e
 exact h rfl
noncomputable def b3R (s:ByteArray):Value:=match a3X.find? (fun x=>x.2 == s.toList) with
 | some x=>.tuple #[.int .i64 (Int.ofNat x.1),.bool true]
 | none=>.tuple #[.int .i64 0,.bool false]
set_option maxHeartbeats 2000000 in
theorem c8g (n:Nat) (hn:3≤n) (s:ByteArray) (w:World) (hL:LaidV (V6 mL) w) :
 CallsIn Fence.wide n Tryz.prog 109 #[.string s] w fun e W'=>e=.returned (b3R s)∧Below w.heap.size w W':=by
 have h1:1≤n:=by omega
 refine callsIn_of_wp_marks Tryz.func109 rfl trivial ?_ rfl
 simp only [Tryz.ntmps109,List.size_toArray,List.length_cons,List.length_nil,Nat.reduceAdd,Nat.reduceSub,Array.replicate_succ,Array.replicate_zero,List.push_toArray,List.append_toArray,List.nil_append,List.cons_append]
 gi_wp2
 refine ⟨trivial,(b3l (n - 1) _).mono ?_⟩
 rintro e w' ⟨rfl,rfl⟩
 gi_wp2
 have c0:=a8q w (.string s) 9
 have c1:=a8q (w.alloc (.cells #[.string s] 9)) (.int .i64 0) 22
 have c2:=a8q ((w.alloc (.cells #[.string s] 9)).alloc (.cells #[.int .i64 0] 22)) (.bool false) 4
 simp only [World.size_alloc] at c1 c2
 have hB0:Below w.heap.size w (((w.alloc (.cells #[.string s] 9)).alloc (.cells #[.int .i64 0] 22)).alloc (.cells #[.bool false] 4)):=(((Below.refl _ w).alloc (Nat.le_refl _) _).alloc (by simp) _).alloc (by simp; omega) _
 refine wpIn_rangeFunc_ownF rfl h1 (gf:=120) (lb:=#[]) rfl trivial (enters_of Tryz.func120 (by kernel_rfl) rfl)
  (b2F (hL.below hB0 hL.size) (B:=w.heap.size+3) (by simp)) b8O (fun W l o o' _ h1 h2 h3=>b7H W l o o' h1 h2 h3) (Below.refl _ _) (fun _=>rfl)
  (fun pre W=>((∀ y∈pre,y.2≠s.toList)∧W.cell? ⟨w.heap.size, 0,none⟩=some (.string s)∧(W.cell? ⟨w.heap.size+1, 0,none⟩=some (.int .i64 0)∧W.frozen? ⟨w.heap.size+1, 0,none⟩=false)∧W.cell? ⟨w.heap.size+1+1, 0,none⟩=some (.bool false)∧W.frozen? ⟨w.heap.size+1+1, 0,none⟩=false)∧Below w.heap.size w W)
  (fun c pre W=>(c=.ret∧(∃ q y,pre=q ++ [y]∧(∀ x∈q,x.2≠s.toList)∧y.2=s.toList∧W.cell? ⟨w.heap.size+1, 0,none⟩=some (.int .i64 (Int.ofNat y.1))∧W.cell? ⟨w.heap.size+1+1, 0,none⟩=some (.bool true)))∧Below w.heap.size w W)
  (OwnFrom.and (Own.from (fun s A B row hs hg hr=>⟨hs.1,cell_kept hs.2.1 hg hr,⟨cell_kept hs.2.2.1.1 hg hr,(frozen_kept hs.2.2.1.1 hg hr).trans hs.2.2.1.2⟩,cell_kept hs.2.2.2.1 hg hr,(frozen_kept hs.2.2.2.1 hg hr).trans hs.2.2.2.2⟩) _) (ownFrom_below (Nat.le_refl _) (by simp; omega)))
  (fun c=>OwnFrom.and (Own.from (fun s A B row hs hg hr=>⟨hs.1,let ⟨q,y,e1,e2,e3,e4,e5⟩:=hs.2; ⟨q,y,e1,e2,e3,cell_kept e4 hg hr,cell_kept e5 hg hr⟩⟩) _) (ownFrom_below (Nat.le_refl _) (by simp; omega)))
  ⟨⟨by simp,a8f _ (a8f _ c0.1),⟨a8f _ c1.1,b5O _ c1.1 c1.2⟩,c2.1,c2.2⟩,hB0⟩
  (fun x=>{ tmps:=#[.string s,.pointer (some ⟨w.heap.size, 0,none⟩),.pointer (some ⟨w.heap.size+1, 0,none⟩),.pointer (some ⟨w.heap.size+1+1, 0,none⟩),.int .i64 (Int.ofNat x.1),.string ⟨⟨x.2⟩⟩,.func (.func 120) #[] #[],.int .i64 (Int.ofNat x.1),.string ⟨⟨x.2⟩⟩,undef,undef,undef,undef],defers:=[] }) ?assign ?body ?done ?stop
 case assign=>
  intro l x W K hK
  gi_wp2
  exact hK
 case body=>
  rintro l pre x W ⟨⟨hp,hcw,⟨hcr,hfr⟩,hcb,hfb⟩,hB⟩ _
  gi_wp2
  · rename_i hx
    have hx':x.2=s.toList:=eq_of_beq hx
    have e1:∀ v,(W.setCell ⟨w.heap.size+1, 0,none⟩ v).cell? ⟨w.heap.size+1+1, 0,none⟩=some (.bool false):=by
     intro v; rw [a9F _ _ _ _ (by omega)]; exact hcb
    refine ⟨(KeepsOthers.setCell _ _ _).trans (KeepsOthers.setCell _ _ _),⟨rfl,pre,x,rfl,hp,hx', ?_,World.cell?_setCell_same' _ _ _ (by rw [e1]; rfl)⟩,(hB.setCell (p:=⟨w.heap.size+1, 0,none⟩) (by simp) _).setCell (p:=⟨w.heap.size+1+1, 0,none⟩) (by simp; omega) _⟩
    rw [a9F _ _ _ _ (by omega)]
    exact World.cell?_setCell_same' _ _ _ (by rw [hcr]; rfl)
  · rename_i hx
    exact ⟨KeepsOthers.refl _,b2D _,⟨fun y hy=>(List.mem_append.1 hy).elim (hp y) (fun e e'=>by simp at e; subst e; rw [e'] at hx; simp at hx),hcw,⟨hcr,hfr⟩,hcb,hfb⟩,hB⟩
 case done=>
  rintro D ys W hD rfl ⟨⟨hne,_,⟨hcr,hfr⟩,hcb,hfb⟩,hB⟩ hK
  gi_wp2
  have e1:(W.setCell ⟨w.heap.size+1, 0,none⟩ (.int .i64 0)).cell? ⟨w.heap.size+1+1, 0,none⟩=some (.bool false):=by
   rw [a9F _ _ _ _ (by omega)]; exact hcb
  have e2:=World.cell?_setCell_same' (W.setCell ⟨w.heap.size+1, 0,none⟩ (.int .i64 0)) ⟨w.heap.size+1+1, 0,none⟩ (.bool false) (by rw [e1]; rfl)
  have e3:((W.setCell ⟨w.heap.size+1, 0,none⟩ (.int .i64 0)).setCell ⟨w.heap.size+1+1, 0,none⟩ (.bool false)).cell? ⟨w.heap.size+1, 0,none⟩=some (.int .i64 0):=by
   rw [a9F _ _ _ _ (by omega)]; exact World.cell?_setCell_same' _ _ _ (by rw [hcr]; rfl)
  have hK':=((KeepsOthers.setCell W ⟨w.heap.size+1, 0,none⟩ (.int .i64 0)).trans (KeepsOthers.setCell _ ⟨w.heap.size+1+1, 0,none⟩ (.bool false))).same D _ hK rfl
  refine ⟨by simp,.inl ⟨_,_,rfl,run_takeDeferred hK', ?_⟩⟩
  have hc5:=cell_kept e2 (grownBy_putObj' _ D (.deferred none)) (fun r e=>by cases e; exact ⟨_,hK',rfl⟩)
  have hc6:=cell_kept e3 (grownBy_putObj' _ D (.deferred none)) (fun r e=>by cases e; exact ⟨_,hK',rfl⟩)
  refine ⟨.tuple #[.int .i64 0,.bool false], ?_, ?_,((hB.setCell (p:=⟨w.heap.size+1, 0,none⟩) (by simp) _).setCell (p:=⟨w.heap.size+1+1, 0,none⟩) (by simp; omega) _).trans (belowK_b (w:=w) (Nat.le_refl _) _ D _ _ (by simp at hD; omega) hK' rfl rfl)⟩
  · simp [results,Tryz.f109,go_sem,hc5,hc6]
  · have:a3X.find? (fun x=>x.2 == s.toList)=none:=by
     rw [List.find?_eq_none]
     intro x hx
     simpa using hne x hx
    unfold b3R
    rw [this]
 case stop=>
  rintro D c pre W hD hpre ⟨⟨rfl,q,y,rfl,hq,hy,hcr,hcb⟩,hB⟩ hK
  gi_wp2
  refine ⟨by simp,.inl ⟨_,_,rfl,run_takeDeferred hK, ?_⟩⟩
  have hc5:=cell_kept hcr (grownBy_putObj' _ D (.deferred none)) (fun r e=>by cases e; exact ⟨_,hK,rfl⟩)
  have hc6:=cell_kept hcb (grownBy_putObj' _ D (.deferred none)) (fun r e=>by cases e; exact ⟨_,hK,rfl⟩)
  refine ⟨.tuple #[.int .i64 (Int.ofNat y.1),.bool true], ?_, ?_,hB.trans (belowK_b (w:=w) (Nat.le_refl _) W D _ _ (by simp at hD; omega) hK rfl rfl)⟩
  · simp [results,Tryz.f109,go_sem,hc5,hc6]
  · have:a3X.find? (fun x=>x.2 == s.toList)=some y:=by
     obtain ⟨t,ht⟩:=hpre
     rw [← ht,List.append_assoc,List.find?_append,List.find?_eq_none.2 (fun x hx=>by simpa using hq x hx)]
     simp
     exact Or.inl hy
    unfold b3R
    rw [this]
end Go.Proofs.YtmomonnlmbljoaaGreatDoor
end
section
namespace Go.Proofs.YtmomonnlmbljoaaGreatDoor
open Go.V Go.RowKit Go.Shelf Go.Proofs
set_option maxRecDepth 100000
variable {mL:Int}
noncomputable def b6m (l:List (Nat×List UInt8)) (m:Nat):List UInt8:=List.rec (motive:=fun _=>List UInt8) [] (fun x _ ih=>match Nat.beq x.1 m with
 | true=>x.2
 | false=>ih) l
theorem c5C (m:Nat) (l:List (Nat×List UInt8)):(match l.find? (fun x=>(Int.ofNat x.1) == Int.ofNat m) with | some x=>(⟨⟨x.2⟩⟩:ByteArray) | none=>ByteArray.empty)=⟨⟨b6m l m⟩⟩:=by
 induction l with
 | nil=>rfl
 | cons x l ih=>
   show _=(⟨⟨match Nat.beq x.1 m with | true=>x.2 | false=>b6m l m⟩⟩:ByteArray)
   rw [List.find?_cons]
   cases hb:Nat.beq x.1 m with
   | true=>
     have:(Int.ofNat x.1 == Int.ofNat m)=true:=by simp [Nat.eq_of_beq_eq_true hb]
     rw [this]
   | false=>
     have:(Int.ofNat x.1 == Int.ofNat m)=false:=by
      have hne:x.1≠m:=fun e=>by rw [e] at hb; simp at hb
      rw [beq_eq_false_iff_ne]; intro e; exact hne (Int.ofNat.inj e)
     rw [this]
     exact ih
noncomputable def b6g (bs:List Value):Option Value:=match bs with
 | []=>none
 | v::rest=>match rest with
   | []=>match v with
     | .int k n=>match k with
       | .i64=>match n with
         | .ofNat m=>some (.string ⟨⟨b6m a3X m⟩⟩)
         | .negSucc _=>none
       | _=>none
     | _=>none
   | _::_=>none
theorem b9I {bs:List Value} {v:Value} (h:b6g bs=some v):a0o (a0e 8) bs=true∧a0e 8 v=true∧a6Z Tryz.prog (V6 mL) 35 bs v:=by
 unfold b6g at h
 split at h
 · cases h
 · split at h
   · split at h
     · split at h
       · split at h
         · rename_i m
           cases h
           refine ⟨rfl,rfl,fun w hL=>⟨a1J Tryz.func35 (by kernel_rfl) rfl, ?_⟩⟩
           refine (callsIn_wide.1 (c0Z 3 (by omega) (Int.ofNat m) w hL)).mono fun e W' hq=>?_
           obtain ⟨rfl,hb⟩:=hq
           refine ⟨?_,hb⟩
           have e:b0c (Int.ofNat m)=⟨⟨b6m a3X m⟩⟩:=c5C m a3X
           rw [e]
         · cases h
       · cases h
     · cases h
   · cases h
noncomputable def b2m (l:List (Nat×List UInt8)) (b:List UInt8):Value:=List.rec (motive:=fun _=>Value) (.tuple ⟨[.int .i64 (.ofNat 0),.bool false]⟩) (fun x _ ih=>match beqBytes x.2 b with
 | true=>.tuple ⟨[.int .i64 (.ofNat x.1),.bool true]⟩
 | false=>ih) l
noncomputable def b6p (bs:List Value):Option Value:=match bs with
 | []=>none
 | v::rest=>match rest with
   | []=>match v with
     | .string s=>some (b2m a3X s.data.toList)
     | _=>none
   | _::_=>none
theorem c5K (b:List UInt8) (l:List (Nat×List UInt8)):(match l.find? (fun x=>x.2 == b) with | some x=>Value.tuple #[.int .i64 (Int.ofNat x.1),.bool true] | none=>.tuple #[.int .i64 0,.bool false])=b2m l b:=by
 induction l with
 | nil=>rfl
 | cons x l ih=>
   show _=(match beqBytes x.2 b with | true=>Value.tuple ⟨[.int .i64 (.ofNat x.1),.bool true]⟩ | false=>b2m l b)
   rw [List.find?_cons,a5k]
   cases hb:x.2 == b with
   | true=>rfl
   | false=>exact ih
theorem b9Z (b:List UInt8) (l:List (Nat×List UInt8)):a0e 8 (b2m l b)=true:=by
 induction l with
 | nil=>rfl
 | cons x l ih=>
   show a0e 8 (match beqBytes x.2 b with | true=>Value.tuple ⟨[.int .i64 (.ofNat x.1),.bool true]⟩ | false=>b2m l b)=true
   cases beqBytes x.2 b with
   | true=>rfl
   | false=>exact ih
theorem b9O {bs:List Value} {v:Value} (h:b6p bs=some v):a0o (a0e 8) bs=true∧a0e 8 v=true∧a6Z Tryz.prog (V6 mL) 109 bs v:=by
 unfold b6p at h
 split at h
 · cases h
 · split at h
   · split at h
     · rename_i s
       cases h
       refine ⟨rfl,b9Z _ _,fun w hL=>⟨a1J Tryz.func109 (by kernel_rfl) rfl, ?_⟩⟩
       refine (callsIn_wide.1 (c8g 3 (by omega) s w hL)).mono fun e W' hq=>?_
       obtain ⟨rfl,hb⟩:=hq
       refine ⟨?_,hb⟩
       have e:b3R s=b2m a3X s.data.toList:=by rw [← c5K, ← Lib.toList_data]; rfl
       rw [e]
     · cases h
   · cases h
noncomputable def d0l:Nat→Option (List Value→M Value):=a9e (a9e c6g 35 b6g) 109 b6p
theorem c8W:a4C Tryz.prog R4 (V6 mL) d0l:=a8O (a8O c0v fun _ _ h=>b9I h) fun _ _ h=>b9O h
end Go.Proofs.YtmomonnlmbljoaaGreatDoor
end
section

end
section
noncomputable section
namespace Go.V
open Go.RowKit (Below)
def b2o (l:List UInt8):List UInt8→Bool:=
 List.rec (motive:=fun _=>List UInt8→Bool) (fun _=>true) (fun v _ ih m=>match m with
  | []=>false
  | w::m=>match Nat.beq v.toNat w.toNat with
    | true=>ih m
    | false=>false) l
def b1Q (sub s:List UInt8):Bool:=
 List.rec (motive:=fun _=>Bool) (b2o sub []) (fun c s ih=>match b2o sub (c::s) with
  | true=>true
  | false=>ih) s
theorem b7w (l:List UInt8):∀ m,b2o l m=l.isPrefixOf m:=by
 induction l with
 | nil=>intro m; cases m <;> rfl
 | cons v l ih=>
   intro m
   cases m with
   | nil=>rfl
   | cons w m=>
     show (match Nat.beq v.toNat w.toNat with | true=>b2o l m | false=>false)=(v == w && l.isPrefixOf m)
     have e:Nat.beq v.toNat w.toNat=(v == w):=by
      rw [Bool.eq_iff_iff]
      constructor
      · intro h; simp; exact UInt8.toNat_inj.1 (Nat.eq_of_beq_eq_true h)
      · intro h; simp at h; subst h; simp
     rw [e,ih]
     cases v == w <;> simp
def a3K (l:List UInt8) (n:Nat):List UInt8:=Nat.rec (motive:=fun _=>List UInt8) [] (fun _ ih=>M4 l ih) n
def a5z (sep:List UInt8) (xs:List (List UInt8)):List UInt8:=List.rec (motive:=fun _=>List UInt8) [] (fun x _ ih=>M4 sep (M4 x ih)) xs
def a5M (sep:List UInt8) (xs:List (List UInt8)):List UInt8:=match xs with
 | []=>[]
 | x::xs=>M4 x (a5z sep xs)
theorem c1F (l:List UInt8) (n:Nat):a3K l n=Lib.repeatL l n:=by
 induction n with
 | zero=>rfl
 | succ n ih=>show M4 l (a3K l n)=_; rw [N9,ih]; rfl
theorem b7r (sep:List UInt8) (xs:List (List UInt8)):a5z sep xs=Lib.joinTail sep xs:=by
 induction xs with
 | nil=>rfl
 | cons x xs ih=>show M4 sep (M4 x (a5z sep xs))=_; rw [N9,N9,ih]; simp [Lib.joinTail]
theorem b8L (sep:List UInt8) (xs:List (List UInt8)):a5M sep xs=Lib.join xs sep:=by
 cases xs with
 | nil=>rfl
 | cons x xs=>show M4 x (a5z sep xs)=_; rw [N9,b7r,Lib.join_cons]
theorem b8o (sub s:List UInt8):b1Q sub s=Lib.contains s sub:=by
 unfold Lib.contains
 induction s with
 | nil=>
   show b2o sub []=_
   rw [b7w]
   cases sub with
   | nil=>rfl
   | cons a t=>rfl
 | cons c s ih=>
   show (match b2o sub (c::s) with | true=>true | false=>b1Q sub s)=_
   rw [b7w,ih,Lib.index]
   have hge:=Lib.index_ge s sub
   cases hp:sub.isPrefixOf (c::s) with
   | true=>simp
   | false=>
     simp only [Bool.false_eq_true,if_false]
     by_cases he:Lib.index s sub=-1
     · rw [he]; rfl
     · have:(Lib.index s sub == -1)=false:=by simpa using he
       rw [this]
       simp only [Bool.false_eq_true,if_false]
       rw [Bool.eq_iff_iff]; simp; omega
def a9q (bs:List Value):Option Value:=match bs with
 | [.string s,.string sub]=>match Nat.blt (L9 s.data.toList) 4294967281 with
   | true=>some (.bool (b1Q sub.data.toList s.data.toList))
   | false=>none
 | _=>none
def a8W (bs:List Value):Option Value:=match bs with
 | [.string s,.int .i64 (.ofNat c)]=>match Nat.blt c 4294967296 && Nat.ble (L9 s.data.toList * c) 4294967296 with
   | true=>some (.string ⟨⟨a3K s.data.toList c⟩⟩)
   | false=>none
 | _=>none
def a4Z (vs:List Value):Option (List (List UInt8)):=List.rec (motive:=fun _=>Option (List (List UInt8))) (some []) (fun v _ ih=>match v with
 | .string s=>match ih with
   | some l=>some (s.data.toList::l)
   | none=>none
 | _=>none) vs
theorem c1H:∀ (vs:List Value) (l:List (List UInt8)),a4Z vs=some l→vs=l.map fun x=>.string ⟨⟨x⟩⟩:=by
 intro vs
 induction vs with
 | nil=>intro l h; cases h; rfl
 | cons v vs ih=>
   intro l h
   cases v with
   | string s=>
     have h:(match a4Z vs with | some l=>some (s.data.toList::l) | none=>none)=some l:=h
     cases hs:a4Z vs with
     | none=>rw [hs] at h; cases h
     | some l'=>rw [hs] at h; cases h; rw [ih l' hs]; rfl
   | _=>cases h
def a7L (bs:List Value):M Value:=match bs with
 | [.slice a len es,.string sep]=>match len with
   | 0=>M.pure (.string ⟨⟨[]⟩⟩)
   | n+1=>M.obind a fun a=>M.guard (Nat.beq es 1) <| M.bind (loadN a (n+1)) fun vs=>M.obind (a4Z vs) fun xs=>
     M.guard (Nat.blt n 4294967295 && Nat.blt (L9 (a5M sep.data.toList xs)) 4294967296) <| M.pure (.string ⟨⟨a5M sep.data.toList xs⟩⟩)
 | _=>M.fail
section
variable {P:Program} {T:Tab} {vs:a3J}
theorem b9w {f:Nat} (hen:∀ (aS9:Array Value) w,(callFunc f aS9).run P w=.ok (.enter f aS9) w)
 (h0:∀ (a:Option Addr) (c:Nat) (sep:ByteArray) (w:World),Calls P f #[.slice a 0 c,.string sep] w fun e w'=>e=.returned (.string ⟨#[]⟩)∧w'=w)
 (h1:∀ (bk o c:Nat) (xs:List ByteArray) (sep:ByteArray) (w:World),(∀ (j:Nat) x,xs[j]?=some x→w.cell? ⟨bk,o+j,none⟩=some (.string x))→bk<w.heap.size→xs.length≤140737488355328→xs.length≤c →
   (Lib.join (xs.map (·.data.toList)) sep.data.toList).length≤140737488355328 →
   Calls P f #[.slice (some ⟨bk,o,none⟩) xs.length c,.string sep] w fun e w'=>e=.returned (.string ⟨(Lib.join (xs.map (·.data.toList)) sep.data.toList).toArray⟩)∧Below w.heap.size w w'):Y4 P T vs f a7L:=by
 refine ⟨fun aS9=>?_, ?_⟩
 · unfold a7L
   split
   · split
     · exact Fr.pure _
     · exact Fr.obind _ fun a=>Fr.guard _ (Fr.bind (Fr.loadN _ _) fun _=>Fr.obind _ fun _=>Fr.guard _ (Fr.pure _))
   · exact Fr.fail
 · intro B0 w0 hL hB aS9 s v s' w K as' h S hG F has
   unfold a7L at h
   split at h
   · rename_i a len es sep
     obtain ⟨x',y',rfl⟩:∃ x' y',as'=[x',y']:=by
      have:=has.len
      match as',this with
      | [x',y'],_=>exact ⟨x',y',rfl⟩
     have ry:y'=.string sep:=(has.at_ 1 _ _ rfl rfl).eq_of_plain rfl
     have rx:VR K x' (.slice a len es):=has.at_ 0 _ _ rfl rfl
     subst ry
     refine Or.inr ⟨hen _ _, ?_⟩
     split at h
     · obtain ⟨rfl,rfl⟩:=J8 h
       have:∃ a' c,x'=.slice a' 0 c:=by
        generalize hz:Value.slice a 0 es=z at rx
        cases rx with
        | plain hp=>subst hz; exact ⟨_,_,rfl⟩
        | slice _ _ _ _ _ _=>cases hz; exact ⟨_,_,rfl⟩
        | _=>cases hz
       obtain ⟨a',c,rfl⟩:=this
       refine (h0 a' c sep w).mono fun e w' ⟨q1,q2⟩=>?_
       subst q2
       exact ⟨_,K,q1,Step.same S rfl,.plain rfl⟩
     · rename_i n
       obtain ⟨ad,ea,h2⟩:=U2 h
       subst ea
       obtain ⟨hes,h3⟩:=U1 h2
       obtain ⟨ws,s1,h4,h5⟩:=O7 h3
       obtain ⟨xs,hx,h6⟩:=U2 h5
       obtain ⟨hg,h7⟩:=U1 h6
       obtain ⟨rfl,rfl⟩:=J8 h7
       simp only [Bool.and_eq_true] at hg
       obtain ⟨g,cs,cur,ro,e1,e2,e3,e4,e5⟩:=a8k h4
       have es1:=Nat.eq_of_beq_eq_true hes
       subst es1
       have hsl:∃ l a' cap,x'=.slice (some a') (n+1) cap∧K ad.block g=some l∧l.lo≤ad.off∧n+1≤cap∧a'=⟨l.blk,l.at_+(ad.off - l.lo),none⟩:=by
        generalize hz:Value.slice (some ad) (n+1) 1=z at rx
        cases rx with
        | plain hp=>subst hz; simp [V.plain] at hp
        | @slice b g' off len cap es l a' hk hlo hes' hcap hsp hor=>
          cases hz
          cases e1
          have hcap0:cap≠0:=by omega
          obtain ⟨q1,q2,_⟩:=hor.resolve_left hcap0
          obtain ⟨ab,ao,asp⟩:=a'
          simp only at hsp q1 q2
          obtain hsp:=hsp.resolve_left (by omega)
          subst hsp q1 q2
          exact ⟨l,_,cap,rfl,hk,hlo,hcap,rfl⟩
        | _=>cases hz
       obtain ⟨l,a',cap,rfl,hk,hlo,hcap,rfl⟩:=hsl
       obtain ⟨ws',c1,c2,c3⟩:=a8r S hk hlo e2 e3
       have hws:=c1H ws xs hx
       have hw':ws'=ws:=by
        apply List.ext_getElem?
        intro i
        by_cases hi:i<ws.length
        · have hi':i<ws'.length:=by rw [c1.len]; exact hi
          have r:=c1.at_ i _ _ (List.getElem?_eq_getElem hi') (List.getElem?_eq_getElem hi)
          rw [List.getElem?_eq_getElem hi',List.getElem?_eq_getElem hi]
          have:plain ws[i]=true:=by
           have hm:∀ u,u∈ws→plain u=true:=fun u hu=>by
            rw [hws] at hu
            obtain ⟨y,_,hy⟩:=List.mem_map.1 hu
            rw [← hy]; rfl
           exact hm _ (List.getElem_mem hi)
          rw [r.eq_of_plain this]
        · rw [List.getElem?_eq_none (by rw [c1.len]; omega),List.getElem?_eq_none (by omega)]
       have hlen:xs.length=n+1:=by rw [← c2,hws]; simp
       have key:=h1 l.blk (l.at_+(ad.off - l.lo)) cap (xs.map fun x=>(⟨⟨x⟩⟩:ByteArray)) sep w (fun j x hj=>by
        refine c3 j (.string x) ?_
        rw [hw',hws,List.getElem?_map]
        rw [List.getElem?_map] at hj
        cases hq:xs[j]? with
        | none=>rw [hq] at hj; cases hj
        | some y=>rw [hq] at hj; cases hj; rfl) (S.dom _ _ _ hk) (by
        have:=hg.1; simp at this ⊢; omega) (by simp; omega) (by
        have hj:(xs.map fun x=>(⟨⟨x⟩⟩:ByteArray)).map (fun b=>b.data.toList)=xs:=by rw [List.map_map]; exact List.map_id'' (fun _=>rfl) xs
        rw [hj, ← b8L]
        have:=hg.2; rw [Z5] at this; simp at this; omega)
       have hj:(xs.map fun x=>(⟨⟨x⟩⟩:ByteArray)).map (fun b=>b.data.toList)=xs:=by rw [List.map_map]; exact List.map_id'' (fun _=>rfl) xs
       rw [hj, ← b8L] at key
       rw [List.length_map,hlen] at key
       refine key.mono fun e w' ⟨q1,q2⟩=>?_
       refine ⟨_,K,q1,⟨KM.le_refl K,fun _ _ _=>rfl, ?_⟩,.plain rfl⟩
       rw [e5]
       exact a6E S ⟨q2.os,q2.tape,q2.output,q2.size,q2.block⟩
   · cases h
end
end Go.V
end
section
noncomputable section
namespace Go.V
open Go.RowKit (Below)
section
variable {P:Program} {T:Tab} {vs:a3J}
theorem b7O {f:Nat} {g:List Value→Option Value}
 (hg:∀ aS9 v,g aS9=some v→a0o (a0e 8) aS9=true∧a0e 8 v=true∧∀ w,(callFunc f aS9.toArray).run P w=.ok (.value v) w):Y4 P T vs f (fun aS9=>M.lift (g aS9)):=by
 refine ⟨fun aS9=>Fr.lift _, ?_⟩
 intro B0 w0 hL hB aS9 s v s' w K as' h S hG F has
 obtain ⟨e1,rfl⟩:=a6a h
 obtain ⟨g1,g2,g3⟩:=hg aS9 v e1
 rw [a8A has g1]
 exact Or.inl ⟨v,w,K,g3 w,Step.same S rfl,a2O 8 v g2⟩
end
def b4m (bs:List Value):Option Value:=match bs with
 | [.int .u64 (.ofNat x),.int .u64 (.ofNat y),.int .u64 (.ofNat c)]=>match Nat.ble c 1 with
   | true=>some (.tuple ⟨[.int .u64 (.ofNat (Nat.mod (Nat.add (Nat.add x y) c) 18446744073709551616)),.int .u64 (.ofNat (Nat.div (Nat.add (Nat.add x y) c) 18446744073709551616))]⟩)
   | false=>none
 | _=>none
end Go.V
end
section
namespace Go.Proofs.YtmomonnlmbljoaaGreatDoor
open Go.V Go.RowKit Go.Shelf Go.Proofs
set_option maxRecDepth 100000
variable {mL:Int}
theorem b4u {bs:List Value} {v:Value} (h:a9q bs=some v):a0o (a0e 8) bs=true∧a0e 8 v=true∧a6Z Tryz.prog (V6 mL) 125 bs v:=by
 unfold a9q at h
 split at h
 · rename_i s sub
   cases hb:Nat.blt (L9 s.data.toList) 4294967281 with
   | false=>rw [hb] at h; cases h
   | true=>
     rw [hb] at h
     cases h
     refine ⟨rfl,rfl,fun w hL=>⟨a1J Tryz.func125 (by kernel_rfl) rfl, ?_⟩⟩
     have hs:s.size<4294967281:=by rw [Z5] at hb; simpa using hb
     refine (Any.strings_Contains Tryz.lContains s sub mL w hs (hL.cell 3 _ rfl 0 _ rfl)).mono fun e w' hq=>?_
     obtain ⟨rfl,rfl⟩:=hq
     exact ⟨by rw [b8o],Below.refl _ _⟩
 · cases h
theorem c4v:Builder.Extra Tryz.prog Tryz.lRepeat_ren where
 sizeBuilder:=by kernel_rfl
 liesBuilder:=by kernel_rfl
 t5:=Tryz.underlying5
 a5:=Tryz.isAgg5
 z5:=Tryz.sizeOf5
 v5:=Tryz.zeroValue5
 infoByte:=by kernel_rfl
 cellsByte:=by kernel_rfl
 sizeByte:=by kernel_rfl
 neB5:=by decide
theorem b5j:Builder.Extra Tryz.prog Tryz.lJoin_ren where
 sizeBuilder:=by kernel_rfl
 liesBuilder:=by kernel_rfl
 t5:=Tryz.underlying5
 a5:=Tryz.isAgg5
 z5:=Tryz.sizeOf5
 v5:=Tryz.zeroValue5
 infoByte:=by kernel_rfl
 cellsByte:=by kernel_rfl
 sizeByte:=by kernel_rfl
 neB5:=by decide
theorem b5U {bs:List Value} {v:Value} (h:a8W bs=some v):a0o (a0e 8) bs=true∧a0e 8 v=true∧a6Z Tryz.prog (V6 mL) 56 bs v:=by
 unfold a8W at h
 split at h
 · rename_i s c
   cases hb:Nat.blt c 4294967296 && Nat.ble (L9 s.data.toList * c) 4294967296 with
   | false=>rw [hb] at h; cases h
   | true=>
     rw [hb] at h
     cases h
     simp only [Bool.and_eq_true] at hb
     refine ⟨rfl,rfl,fun w hL=>⟨a1J Tryz.func56 (by kernel_rfl) rfl, ?_⟩⟩
     have h1:c<4294967296:=by simpa using hb.1
     have h2:s.size * c≤4294967296:=by
      have:=Nat.le_of_ble_eq_true hb.2
      rw [Z5] at this
      simpa using this
     refine (Any.strings_Repeat Tryz.lRepeat c4v s c w (by omega) (by omega)).mono fun e w' hq=>?_
     obtain ⟨rfl,hq⟩:=hq
     exact ⟨by rw [c1F],hq⟩
 · cases h
theorem c5v:Y4 Tryz.prog R4 (V6 mL) 96 a7L:=
 b9w (fun _ _=>a1J Tryz.func96 (by kernel_rfl) rfl) (fun a c sep w=>Any.strings_Join_none Tryz.lJoin b5j a c sep w)
  (fun bk o c xs sep w h1 h2 h3 h4 h5=>Any.strings_Join Tryz.lJoin b5j bk o c xs sep w h1 h2 h3 h4 h5)
theorem c4E:Y4 Tryz.prog R4 (V6 mL) 163 (fun bs=>M.lift (b4m bs)):=b7O fun bs v h=>by
 unfold b4m at h
 split at h
 · rename_i x y c
   cases hb:Nat.ble c 1 with
   | false=>rw [hb] at h; cases h
   | true=>
     rw [hb] at h
     cases h
     refine ⟨rfl,rfl,fun w=>?_⟩
     have hc:=Nat.le_of_ble_eq_true hb
     have e:(callFunc 163 #[.int .u64 (x:Int),.int .u64 (y:Int),.int .u64 (c:Int)]).run Tryz.prog w =
      .ok (.value (.tuple #[.int .u64 (((x+y+c) % 18446744073709551616:Nat):Int),.int .u64 (((x+y+c) / 18446744073709551616:Nat):Int)])) w:=by
      rw [run_callFunc_extern Tryz.func163 (by kernel_rfl) (by kernel_rfl) (by kernel_rfl) (e:=add64Entry) (by kernel_rfl),run_add64 x y c (by omega) (by omega) (by omega) (by omega)]
      simp only [Result.andThen]
      congr 5 <;> omega
     exact e
 · cases h
noncomputable def a0E:Nat→Option (List Value→M Value):=a0m (a0m (a9e (a9e d0l 125 a9q) 56 a8W) 96 a7L) 163 (fun bs=>M.lift (b4m bs))
theorem b0i:a4C Tryz.prog R4 (V6 mL) a0E:=a8L (a8L (a8O (a8O c8W fun _ _ h=>b4u h) fun _ _ h=>b5U h) c5v) c4E
end Go.Proofs.YtmomonnlmbljoaaGreatDoor
end
