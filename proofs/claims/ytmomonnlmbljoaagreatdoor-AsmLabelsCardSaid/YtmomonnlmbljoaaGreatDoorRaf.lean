import Derived.Test.YtmomonnlmbljoaaGreatDoorRae
section
namespace Go.V
open Go.RowKit (Below)
section
variable {P:Program} {T:Tab} {B0:Nat} {w0:Base} {w:World} {K:KM} {s s':S} {v:Value}
theorem VRL.two {l':List Value} {x y:Value} {l:List Value} (h:VRL K l' l) (h0:l[0]?=some x) (h1:l[1]?=some y):∃ x' y' r,l'=x'::y'::r∧VR K x' x∧VR K y' y:=by
 match l',h with
 | [],h=>have:=h.len; cases l with
   | nil=>cases h0
   | cons=>simp at this
 | [x'],h=>have:=h.len; cases l with
   | nil=>cases h0
   | cons a l=>cases l with
     | nil=>cases h1
     | cons=>simp at this
 | x'::y'::r,h=>exact ⟨x',y',r,rfl,h.at_ 0 _ _ rfl h0,h.at_ 1 _ _ rfl h1⟩
theorem b5t (hT:TabOk P T) {argTypes:Array TypeId} {ty st xt elem:TypeId} {dx:TypeDesc} {e:TI} {vs:List Value} {x0 x0' x1:Value} {s1:S} {n:Nat} {vs':List Value}
 (h0:argTypes[0]?=some st) (h1:argTypes[1]?=some xt) (hst:∀ w,(underlying st).run P w=.ok (.slice elem) w) (hxt:∀ w,(underlying xt).run P w=.ok dx w) (hdx:a5V dx=false)
 (he:T.types.get elem=some e) (hpos:0<e.size) (h:a1O e x0 vs s1=some (v,s')) (S:Sim B0 w0 K s1.h w) (F:K8 K s1 s') (r0:VR K x0' x0)
 (hn:(Builtin.lenOf x1).run P w=.ok n w) (hfc:(Builtin.firstCells e.size n x1).run P w=.ok vs'.toArray w) (hfc2:(Builtin.firstCells e.size n x1).run P w.drew=.ok vs'.toArray w.drew) (hvs:VRL K vs' vs) (hvl:vs'.length=n * e.size) :
 ∃ v' w' K',(Builtin.append_ argTypes ty #[x0',x1]).run P w=.ok v' w'∧Step B0 w0 K s' w' K'∧VR K' v' v:=by
 obtain ⟨info,g1,g2,g3,g4,g5,g6⟩:=hT.types elem e he
 cases vs with
 | nil=>
   obtain ⟨hsl,h2⟩:=A8 h
   obtain ⟨rfl,rfl⟩:=o9 h2
   have hvs0:vs'=[]:=List.eq_nil_of_length_eq_zero hvs.len
   subst hvs0
   have hn0:n=0:=by
    rcases Nat.eq_zero_or_pos n with q | q
    · exact q
    · have:=Nat.mul_pos q hpos; simp at hvl; omega
   subst hn0
   cases v with
   | slice o len es=>
     have hslice:∃ b l c,x0'=.slice b l c∧l≤c:=by
      rcases U2 r0 with ⟨_,ad',cap,_,p2,p3,_⟩ | ⟨_,_,_,p4⟩
      · exact ⟨_,_,_,p2,p3⟩
      · exact ⟨_,_,_,p4,Nat.le_refl _⟩
     obtain ⟨b,l,c,rfl,hlc⟩:=hslice
     refine ⟨.slice b l c,w,K, ?_,Step.same S rfl,r0⟩
     have:=a4l (ty:=ty) (w':=w) h0 h1 (hst w) (hxt w) hdx (L9 hT he w) hn hfc (base:=b) (len:=l) (cap:=c) (by omega) (fun _=>rfl) (fun ad _=>rfl)
     simpa using this
   | _=>cases hsl
 | cons u us=>
   cases x0 with
   | slice o len es=>
     have h2:M.guard (Nat.beq ((F4 us+1) / e.size * e.size) (F4 us+1) && L6 X7 (u::us) && Nat.blt ((len+(F4 us+1) / e.size) * 4) a2b && Nat.blt e.bytes 4096)
      (match o with
      | none=>M.guard (Nat.beq len 0) <| M.bind (M9 (u::us)) fun a=>M.pure (.slice (some a) ((F4 us+1) / e.size) e.size)
      | some a=>M.guard (Nat.beq es e.size) <| appendAt e a len (u::us) ((F4 us+1) / e.size)) s1=some (v,s'):=by
      have:=h
      simp only [a1O,Y9] at this
      exact this
     obtain ⟨hgd,h3⟩:=A8 h2
     simp only [Bool.and_eq_true,J2] at hgd
     obtain ⟨⟨⟨q1,q2⟩,q3⟩,q4⟩:=hgd
     rw [J2] at h3
     generalize hm:(us.length+1) / e.size=m at *
     have q1:=Nat.eq_of_beq_eq_true q1
     have q3:(len+m) * 4<4294967296:=by simpa [Nat.blt_eq,a2b] using q3
     have q4:e.bytes<4096:=by simpa [Nat.blt_eq] using q4
     have hvl2:vs'.length=us.length+1:=by rw [hvs.len]; rfl
     have hnm:n=m:=by
      have:n * e.size=m * e.size:=by omega
      exact Nat.eq_of_mul_eq_mul_right hpos this
     subst hnm
     have hn1:0<n:=by
      rcases Nat.eq_zero_or_pos n with q | q
      · subst q; simp at hvl; omega
      · exact q
     cases o with
     | none=>
       obtain ⟨hl0,h4⟩:=A8 h3
       obtain ⟨ad,s2,h5,h6⟩:=w9 h4
       obtain ⟨rfl,rfl⟩:=o9 h6
       rcases U2 r0 with ⟨_,_,_,p1,_⟩ | ⟨_,p2,p3,p4⟩
       · cases p1
       · subst p4 p2
         obtain ⟨nc,arr,c1,c2,c3⟩:=a2W (ty:=ty) (base:=none) (len:=0) (cap:=0) (olds:=[]) hT h0 h1 hst hxt hdx he hn hfc2 rfl (by omega) q3 q4 hpos
         obtain ⟨K',k1,k2,rfl⟩:=Z6 (w':=w.drew.alloc (.cells arr elem)) (arr:=arr) (e:=elem) (fz:=(0, 0)) (rest:=Y4 e.zero.cells.toList (nc - (0+n))) h5 S F hvs
          ((Grew.drew w).trans (Grew.alloc _ _)) (by show (w.heap.push _)[w.heap.size]?=_; simp) (by rw [c2]; simp) (fun o _=>by simp)
         refine ⟨_,_,K',c3,k1, ?_⟩
         rw [Nat.zero_add]
         refine VR.slice (off:=0) k2 (Nat.zero_le _) hpos (by omega) (Or.inr rfl) (Or.inr ⟨rfl,rfl,fun _=>?_⟩)
         dsimp only
         have hsz:arr.size=n * e.size+(nc - n) * e.size:=by
          rw [← Array.length_toList,c2]; simp [hvl,a1f,g6]
         rw [hsz, ← Nat.add_mul,Nat.zero_add,Nat.add_sub_cancel' (by omega)]
         exact Nat.le_refl _
     | some ad=>
       obtain ⟨hes,h4⟩:=A8 h3
       have hes:=Nat.eq_of_beq_eq_true hes
       subst hes
       obtain ⟨g,cs,cur,olds,z1,z2,z3,z4,z5,z6,rfl⟩:=b8v h4
       rcases U2 r0 with ⟨ad1,ad',cap,p1,rfl,p3,p4,p5,p6,p7⟩ | ⟨p1,_⟩
       · cases p1
         obtain ⟨hg1,_,hg3⟩:=S.gens _ cs cur false z2
         have hget:∀ j,(Trie.put (some (.cells (cs.take (ad.off+len * e.size)) cur false)) (ad.block+1) s1.h ad.block).get j=if j=ad.block then some (.cells (cs.take (ad.off+len * e.size)) cur false) else s1.h.get j:=
          fun j=>Trie.get_put _ _ _ _ (Nat.lt_succ_self _) j
         generalize Trie.put (some (.cells (cs.take (ad.off+len * e.size)) cur false)) (ad.block+1) s1.h ad.block=ht at hget
         have S1:=d0L S z2 hget
         have hb1:ht.get ad.block=some (.cells (cs.take (ad.off+len * e.size)) cur false):=by rw [hget,if_pos rfl]
         have hlt:(cs.take (ad.off+len * e.size)).length=ad.off+len * e.size:=by simp [z3]
         have hh':∀ j,s'.h.get j=if j=ad.block then some (.cells (cs.take (ad.off+len * e.size) ++ (u::us).map fun v=>(v,cur+1)) (cur+1) false) else ht.get j:=by
          intro j; rw [z6 j,hget j]; split <;> rfl
         by_cases hfit:len+n≤cap
         ·
           obtain ⟨g',l,y1,y2,y3,y4⟩:=a0X (p7 (by omega))
           rw [z1] at y1; cases y1
           have hown:l.own=true:=(hg1 _ _ y2).2 rfl
           obtain ⟨c,et,fz,c1,c2,c3⟩:=S.room _ _ l cs cur false y2 hown z2
           have hroom:l.at_+(ad.off - l.lo)+cap * e.size≤l.sz:=by
            generalize hv1:Value.slice (some ad') len cap=z' at p4
            generalize hv2:Value.slice (some ad) len e.size=z at p4
            cases p4 with
            | plain hp=>subst hv2; simp [V.plain] at hp
            | @slice b g2 off len' cap' es' l0 a0 k1 k2 k3 k4 k5 k6=>
              cases hv1; cases hv2
              cases z1
              rw [y2] at k1; cases k1
              rcases k6 with k6 | ⟨k6,k7,k8⟩
              · omega
              · have:=k8 hown; rw [k7] at this; exact this
            | _=>cases hv1
           have hmul:len * e.size+n * e.size≤cap * e.size:=by rw [← Nat.add_mul]; exact Nat.mul_le_mul_right _ hfit
           obtain ⟨w',u1,u2⟩:=a2y P l.blk vs' (l.at_+(ad.off - l.lo)+len * e.size) 0 w
            (fun j hj=>by
              have hidx:l.at_+(ad.off - l.lo)+len * e.size+0+j<c.size:=by omega
              have hc:w.cell? ⟨l.blk,l.at_+(ad.off - l.lo)+len * e.size+0+j,none⟩=c[l.at_+(ad.off - l.lo)+len * e.size+0+j]?:=by simp only [World.cell?,c1]; rfl
              rw [hc,Array.getElem?_eq_getElem hidx]; rfl)
            (fun j hj=>c3 _ (by omega))
            (fun x hx=>by
              obtain ⟨j,hj,rfl⟩:=List.getElem_of_mem hx
              have hj2:j<(u::us).length:=by rw [← hvs.len]; exact hj
              exact (hvs.at_ j _ _ (List.getElem?_eq_getElem hj) (List.getElem?_eq_getElem hj2)).oneCell ((K9 _ _).1 q2 _ (List.getElem_mem hj2)))
           have hrun:=a4l (ty:=ty) (w':=w') h0 h1 (hst w) (hxt w) hdx (L9 hT he w) hn hfc (base:=some ad') (len:=len) (cap:=cap) hfit (fun q=>by cases q)
            (fun ad2 q=>by cases q; rw [y4,a1p]; exact u1)
           have S2:=c5q S1 hb1 y2 (by rw [hlt]; omega) (o:=l.at_+(ad.off - l.lo)+len * e.size+0) (by rw [hlt]; omega) u2
           let l':Loc:=⟨l.blk,ad.off,l.at_+(ad.off - l.lo),l.sz,true⟩
           have S3:=c0e (l:=l') (vs:=u::us) S2 hb1 hh' rfl (by show l.blk<_; rw [u2.size]; exact S.dom _ _ _ y2) (by show B0≤l.blk; exact S.own _ _ _ y2 hown)
            (fun g2 l2 k1 k2=>by
              have:=(S.same _ _ _ _ _ y2 k1).2 k2.symm
              show l2.at_+ad.off=l.at_+(ad.off - l.lo)+l2.lo
              omega)
            (fun b2 g2 l2 hne k1=>(S.apart _ _ _ _ _ _ y2 k1 (Ne.symm hne) hown).symm)
            (by have:=u2.room ⟨c,et,fz,c1,c2,c3⟩ c1; exact this)
            (fun off x st k1 k2=>by
              show ∃ v',w'.cell? ⟨l.blk,l.at_+(ad.off - l.lo)+(off - ad.off),none⟩=some v'∧VR K v' x
              have k1:ad.off≤off:=k1
              by_cases hoff:off<ad.off+len * e.size
              · rw [List.getElem?_append_left (by rw [hlt]; exact hoff),List.getElem?_take,if_pos hoff] at k2
                obtain ⟨t1,t2⟩:=a0U _ _ _ _ z4
                obtain ⟨x2,st2,t3,t4,t5⟩:=t2 (off - ad.off) (by omega)
                rw [List.getElem?_drop,show ad.off+(off - ad.off)=off by omega,k2] at t3
                cases t3
                obtain ⟨v',r1,r2⟩:=S.cells _ cs cur false _ l z2 y2 off x st k2 t4 (by omega)
                refine ⟨v', ?_,r2⟩
                rw [u2.cell_other c1 _ (Or.inr (by dsimp only; omega)),show l.at_+(ad.off - l.lo)+(off - ad.off)=l.at_+(off - l.lo) by omega]
                exact r1
              · rw [List.getElem?_append_right (by rw [hlt]; omega),hlt,List.getElem?_map] at k2
                cases hq:(u::us)[off - (ad.off+len * e.size)]? with
                | none=>rw [hq] at k2; cases k2
                | some y=>
                  rw [hq] at k2; cases k2
                  obtain ⟨y',r1,r2⟩:=hvs.get? hq
                  refine ⟨y', ?_,r2⟩
                  have:=u2.cell_new c1 (by rw [hvl]; omega) _ _ r1
                  rw [show l.at_+(ad.off - l.lo)+(off - ad.off)=l.at_+(ad.off - l.lo)+len * e.size+0+(off - (ad.off+len * e.size)) by omega]
                  exact this)
           refine ⟨_,w',_,hrun,⟨S3.2,fun i g2 hi=>?_,S3.1⟩, ?_⟩
           · refine KM.put_other K _ (fun q=>?_)
             have hx:ad.block<s1.c:=by
              obtain ⟨o2,s2,hr,_⟩:=w9 (C9 h4).choose_spec.2
              exact (a5p hr).1
             omega
           · rw [y4]
             exact VR.slice (KM.put_same _ _ _ _) (Nat.le_refl _) hpos hfit (Or.inr rfl) (Or.inr ⟨rfl,by dsimp only [l']; omega,fun _=>hroom⟩)
         ·
           obtain ⟨l,y2,y3⟩:∃ l,K ad.block g=some l∧l.lo≤ad.off:=by
            generalize hv1:Value.slice (some ad') len cap=z' at p4
            generalize hv2:Value.slice (some ad) len e.size=z at p4
            cases p4 with
            | plain hp=>subst hv2; simp [V.plain] at hp
            | @slice b g2 off len' cap' es' l0 a0 k1 k2 k3 k4 k5 k6=>cases hv1; cases hv2; cases z1; exact ⟨l0,k1,k2⟩
            | _=>cases hv1
           obtain ⟨olds',o1,o2,o3⟩:=a1q S y2 y3 z2 z4
           have hol:olds'.length=len * e.size:=by rw [o1.len,o2]
           have hrold:(Builtin.firstCells e.size len (.slice (some ad') len cap)).run P w.drew=.ok olds'.toArray w.drew:=by
            rcases Nat.eq_zero_or_pos len with q | q
            · subst q
              have:olds'=[]:=List.eq_nil_of_length_eq_zero (by simpa using hol)
              subst this
              simp [Builtin.firstCells,loadCells,loadCellsFrom]
            · obtain ⟨g',l2,x1,x2,x3,rfl⟩:=a0X (p7 (by omega))
              rw [z1] at x1; cases x1
              rw [y2] at x2; cases x2
              have:=run_loadCells_list (P:=P) w.drew (⟨l.blk,l.at_+(ad.off - l.lo),none⟩:Addr) olds' (fun j v hj=>by rw [a1p]; exact o3 j v hj)
              rw [hol] at this
              exact this
           obtain ⟨nc,arr,c1,c2,c3⟩:=a2W (ty:=ty) (base:=some ad') (len:=len) (cap:=cap) (olds:=olds') hT h0 h1 hst hxt hdx he hn hfc2 hrold (by omega) q3 q4 hpos
           have hsz:arr.size=len * e.size+n * e.size+(nc - (len+n)) * e.size:=by
            rw [← Array.length_toList,c2]; simp [hvl,hol,a1f,g6,Nat.add_assoc]
           have G:Grew w (w.drew.alloc (.cells arr elem)):=(Grew.drew w).trans (Grew.alloc _ _)
           have hblk:(w.drew.alloc (.cells arr elem)).heap[w.heap.size]?=some (.cells arr elem (0, 0)):=by show (w.heap.push _)[w.heap.size]?=_; simp
           have S2:=a0z S1 G
           let l':Loc:=⟨w.heap.size,ad.off, 0,arr.size,true⟩
           have S3:=c0e (l:=l') (vs:=u::us) S2 hb1 hh' rfl (by show w.heap.size<(w.heap.push _).size; simp) (by show B0≤w.heap.size; exact S.base)
            (fun g2 l2 k1 k2=>by have:=S.dom _ _ _ k1; have k2:l2.blk=w.heap.size:=k2; omega)
            (fun b2 g2 l2 hne k1=>by have:=S.dom _ _ _ k1; show l2.blk≠w.heap.size; omega)
            ⟨arr,elem,(0, 0),hblk,rfl,fun o _=>by show World.frozen? _ ⟨w.heap.size,o,none⟩=false; simp only [World.frozen?,hblk]; simp⟩
            (fun off x st k1 k2=>by
              show ∃ v',(w.drew.alloc (.cells arr elem)).cell? ⟨w.heap.size, 0+(off - ad.off),none⟩=some v'∧VR K v' x
              have k1:ad.off≤off:=k1
              have hcell:∀ i y,(olds' ++ vs')[i]?=some y→(w.drew.alloc (.cells arr elem)).cell? ⟨w.heap.size, 0+i,none⟩=some y:=by
               intro i y hy
               have hi:i<(olds' ++ vs').length:=(List.getElem?_eq_some_iff.1 hy).1
               have:arr[i]?=some y:=by rw [← Array.getElem?_toList,c2,List.getElem?_append_left hi]; exact hy
               simp only [World.cell?,hblk,Nat.zero_add]
               simpa using this
              by_cases hoff:off<ad.off+len * e.size
              · rw [List.getElem?_append_left (by rw [hlt]; exact hoff),List.getElem?_take,if_pos hoff] at k2
                obtain ⟨t1,t2⟩:=a0U _ _ _ _ z4
                obtain ⟨x2,st2,t3,t4,t5⟩:=t2 (off - ad.off) (by omega)
                rw [List.getElem?_drop,show ad.off+(off - ad.off)=off by omega,k2] at t3
                cases t3
                obtain ⟨v',r1,r2⟩:=o1.get? t5
                exact ⟨v',hcell _ _ (by rw [List.getElem?_append_left (by rw [hol]; omega)]; exact r1),r2⟩
              · rw [List.getElem?_append_right (by rw [hlt]; omega),hlt,List.getElem?_map] at k2
                cases hq:(u::us)[off - (ad.off+len * e.size)]? with
                | none=>rw [hq] at k2; cases k2
                | some y=>
                  rw [hq] at k2; cases k2
                  obtain ⟨y',r1,r2⟩:=hvs.get? hq
                  refine ⟨y',hcell _ _ ?_,r2⟩
                  rw [List.getElem?_append_right (by rw [hol]; omega),hol,show off - ad.off - len * e.size=off - (ad.off+len * e.size) by omega]
                  exact r1)
           refine ⟨_,_,_,c3,⟨S3.2,fun i g2 hi=>?_,S3.1⟩, ?_⟩
           · refine KM.put_other K _ (fun q=>?_)
             have hx:ad.block<s1.c:=by
              obtain ⟨o2,s2,hr,_⟩:=w9 (C9 h4).choose_spec.2
              exact (a5p hr).1
             omega
           · refine VR.slice (KM.put_same _ _ _ _) (Nat.le_refl _) hpos c1 (Or.inr rfl) (Or.inr ⟨rfl,by dsimp only [l']; omega,fun _=>?_⟩)
             dsimp only [l']
             rw [hsz, ← Nat.add_mul, ← Nat.add_mul,Nat.add_sub_cancel' c1]; omega
       · cases p1
   | _=>exact absurd h (by intro q; cases q)
end
end Go.V
end
section
namespace Go.V
open Go.RowKit (Below)
section
variable {P:Program} {T:Tab} {B0:Nat} {w0:Base} {w:World} {K:KM} {s s':S} {a:Act} {fr:List Value} {v:Value}
theorem a0g {α:Type} (x:Array α) (i:Nat):x.toList[i]?=x[i]?:=by simp
theorem c0x (hT:TabOk P T) {ts:Array TypeId} {ty:TypeId} {vs vs':List Value} (hl:vs'.length=2) (h:appendV T ts vs s=some (v,s')) (S:Sim B0 w0 K s.h w) (F:K8 K s s') (r:VRL K vs' vs) :
 ∃ v' w' K',(Builtin.append_ ts ty vs'.toArray).run P w=.ok v' w'∧Step B0 w0 K s' w' K'∧VR K' v' v:=by
 obtain ⟨st,e1,h1⟩:=C9 h
 obtain ⟨xt,e2,h2⟩:=C9 h1
 obtain ⟨d,hd,h3⟩:=I8 h2
 obtain ⟨dx,hdx,h4⟩:=I8 h3
 rw [O7,a0g] at e1 e2
 generalize hu:d.und=u at h4
 cases u with
 | slice elem=>
   obtain ⟨x0,e3,h5⟩:=C9 h4
   obtain ⟨x1,e4,h6⟩:=C9 h5
   obtain ⟨e,he,h7⟩:=I8 h6
   obtain ⟨hgd,h8⟩:=A8 h7
   obtain ⟨us,s1,h9,h10⟩:=w9 h8
   rw [U3] at h10
   rw [O7] at e3 e4
   obtain ⟨x0',x1',rest,rfl,r0,r1⟩:=r.two e3 e4
   have hrest:rest=[]:=by
    cases rest with
    | nil=>rfl
    | cons=>simp at hl
   subst hrest
   simp only [Bool.and_eq_true,Bool.not_eq_true'] at hgd
   have hpos:0<e.size:=Nat.pos_of_ne_zero (a5r (by rw [hgd.2]; rfl))
   obtain ⟨n,us',c1,c2,c3,c4,c5,c6⟩:=a5P (P:=P) h9 hpos S r1
   have S1:Sim B0 w0 K s1.h w:=by rw [c5]; exact S
   have F1:K8 K s1 s':=by intro i hi; rw [c6] at hi; rw [c5]; exact F i hi
   exact b5t hT e1 e2 (fun w=>by rw [J3 hT hd,hu]) (fun w=>J3 hT hdx w) (by simpa using hgd.1) he hpos h10 S1 F1 r0 (c1 w) (c2 w (fun _=>rfl)) (c2 w.drew (fun _=>rfl)) c3 c4
 | _=>exact absurd h4 (by intro q; cases q)
end
end Go.V
end
section
namespace Go.V
open Go.RowKit (Below)
theorem a2v {B0:Nat} {w0:Base} {K:KM} {h h':Trie VObj} {w w':World} (S:Sim B0 w0 K h w) {b:Nat} {l:Loc} {o o':VObj} {ob:Obj}
 (hk:K b 0=some l) (hown:l.own=true) (ho:h.get b=some o) (hnc:∀ cs cur ro,o≠.cells cs cur ro) (hnc':∀ cs cur ro,o'≠.cells cs cur ro)
 (hh:∀ j,h'.get j=if j=b then some o' else h.get j) (hw:w'={ w with heap:=w.heap.setIfInBounds l.blk ob })
 (hmap:∀ es,o'=.map es→∃ es' clock,ob=.map es' clock∧MR K es'.toList es) (hiter:∀ x pos,o'=.siter x pos→l.lo=0∧l.at_=0∧ob=.stringIter x pos):Sim B0 w0 K h' w':=by
 have hb:h'.get b=some o':=by rw [hh,if_pos rfl]
 have hn:∀ j,j≠b→h'.get j=h.get j:=fun j hj=>by rw [hh,if_neg hj]
 have hother:∀ k,k≠l.blk→w'.heap[k]?=w.heap[k]?:=fun k hkk=>by
  rw [hw]; simp only [Array.getElem?_setIfInBounds]; rw [if_neg (fun q=>hkk q.symm)]
 have hsize:w'.heap.size=w.heap.size:=by rw [hw]; simp
 have hat:w'.heap[l.blk]?=some ob:=by
  rw [hw]; simp only [Array.getElem?_setIfInBounds]; rw [if_pos trivial,if_pos (S.dom _ _ _ hk)]
 have hbk:∀ b2 g l2,b2≠b→K b2 g=some l2→l2.blk≠l.blk:=fun b2 g l2 hne q=>(S.apart _ _ _ _ _ _ hk q (Ne.symm hne) hown).symm
 refine ⟨S.size0,S.below.trans ⟨by rw [hw],by rw [hw],by rw [hw],by rw [hsize]; exact Nat.le_refl _,fun k hkk=>hother k (by have:=S.own _ _ _ hk hown; omega)⟩,fun b2 g l2 q=>by rw [hsize]; exact S.dom' b2 g l2 q,fun b2 g2 l2 q=>by by_cases hx:b2=b; exact ⟨_,by rw [hx]; exact hb⟩; rw [hn b2 hx]; exact S.dom2 b2 g2 l2 q,S.own,S.apart,S.same, ?_, ?_, ?_, ?_, ?_,(fun b2 g2 l2 q hnq=>by
  by_cases hx:b2=b
  · exact S.gen0 b2 g2 l2 q (fun cs cur ro e=>by rw [hx] at e; rw [ho] at e; cases e; exact hnc _ _ _ rfl)
  · exact S.gen0 b2 g2 l2 q (fun cs cur ro e=>hnq cs cur ro (by rw [hn b2 hx]; exact e)))⟩
 · intro b2 g l2 cs cur ro q1 q2 q3
   have hne:b2≠b:=fun e=>by rw [e,hb] at q3; cases q3; exact hnc' _ _ _ rfl
   rw [hn b2 hne] at q3
   obtain ⟨c,e,fz,r1,r2,r3⟩:=S.room b2 g l2 cs cur ro q1 q2 q3
   have hx:=hother _ (hbk b2 g l2 hne q1)
   exact ⟨c,e,fz,by rw [hx]; exact r1,r2,fun o ho=>by rw [World.frozen?_of_block (w:=w) hx]; exact r3 o ho⟩
 · intro b2 cs cur ro q
   have hne:b2≠b:=fun e=>by rw [e,hb] at q; cases q; exact hnc' _ _ _ rfl
   rw [hn b2 hne] at q
   exact S.gens b2 cs cur ro q
 · intro b2 cs cur ro g l2 q1 q2 off v st q3 q4 q5
   have hne:b2≠b:=fun e=>by rw [e,hb] at q1; cases q1; exact hnc' _ _ _ rfl
   rw [hn b2 hne] at q1
   obtain ⟨v',r1,r2⟩:=S.cells b2 cs cur ro g l2 q1 q2 off v st q3 q4 q5
   have hx:=hother _ (hbk b2 g l2 hne q2)
   exact ⟨v',by rw [World.cell?_of_block (w:=w) hx]; exact r1,r2⟩
 · intro b2 es q
   by_cases hne:b2=b
   · subst hne
     rw [hb] at q; cases q
     obtain ⟨es',clock,rfl,r⟩:=hmap es rfl
     exact ⟨l,es',clock,hk,hown,hat,r⟩
   · rw [hn b2 hne] at q
     obtain ⟨l2,es',clock,r1,r2,r3,r4⟩:=S.map b2 es q
     exact ⟨l2,es',clock,r1,r2,by rw [hother _ (hbk b2 0 l2 hne r1)]; exact r3,r4⟩
 · intro b2 x pos q
   by_cases hne:b2=b
   · subst hne
     rw [hb] at q; cases q
     obtain ⟨e1,e2,rfl⟩:=hiter x pos rfl
     exact ⟨l,hk,hown,e1,e2,hat⟩
   · rw [hn b2 hne] at q
     obtain ⟨l2,r1,r2,r3,r4,r5⟩:=S.siter b2 x pos q
     exact ⟨l2,r1,r2,r3,r4,by rw [hother _ (hbk b2 0 l2 hne r1)]; exact r5⟩
theorem S9:∀ (x y:List UInt8),beqBytes x y=(x == y):=by
 intro x
 induction x with
 | nil=>intro y; cases y <;> rfl
 | cons a x ih=>
   intro y
   cases y with
   | nil=>rfl
   | cons b y=>
     show Bool.rec (motive:=fun _=>Bool) false (beqBytes x y) (Nat.beq a.toNat b.toNat)=_
     rw [ih]
     by_cases h:a=b
     · subst h; simp
     · have:a.toNat≠b.toNat:=fun e=>h (UInt8.toNat_inj.1 e)
       have h2:Nat.beq a.toNat b.toNat=false:=by
        cases q:Nat.beq a.toNat b.toNat with
        | false=>rfl
        | true=>exact absurd (Nat.eq_of_beq_eq_true q) this
       rw [h2]
       simp [h]
theorem b0w (x y:ByteArray):(x == y)=beqBytes x.data.toList y.data.toList:=by
 rw [S9]
 obtain ⟨⟨x⟩⟩:=x
 obtain ⟨⟨y⟩⟩:=y
 have:(({ data:=⟨x⟩ }:ByteArray) == { data:=⟨y⟩ })=((⟨x⟩:Array UInt8) == ⟨y⟩):=rfl
 rw [this]
 by_cases h:x=y
 · subst h; simp
 · have h1:(x == y)=false:=by simpa using h
   have h2:((⟨x⟩:Array UInt8) == ⟨y⟩)=false:=by simpa using h
   rw [h2]; exact h1.symm
section
variable {P:Program} {T:Tab} {B0:Nat} {w0:Base} {w:World} {K:KM} {s s':S} {a:Act} {fr:List Value} {v:Value}
theorem c4A {d:TypeDesc} {k x:Value} (hf:a0Y d k=true) {b:Bool} (h:P6 k x=some b):Instr.sameNow d k x=some b:=by
 cases k with
 | int k1 n1=>
   cases d with
   | int kd=>
     cases x with
     | int k2 n2=>
       have h':(match decide (k1=k2) with | true=>some (decide (n1=n2)) | false=>none)=some b:=h
       show (if k1=k2 then some (n1 == n2) else none)=some b
       by_cases hk:k1=k2
       · rw [if_pos hk]
         rw [decide_eq_true hk] at h'
         rw [← h']
         congr 1
       · rw [decide_eq_false hk] at h'; cases h'
     | _=>cases h
   | _=>cases hf
 | string s1=>
   cases d with
   | string=>
     cases x with
     | string s2=>
       have h':some (beqBytes s1.data.toList s2.data.toList)=some b:=h
       show some (s1 == s2)=some b
       rw [b0w]; exact h'
     | _=>cases h
   | _=>cases hf
 | bool b1=>
   cases d with
   | bool=>
     cases x with
     | bool b2=>exact h
     | _=>cases h
   | _=>cases hf
 | _=>cases h
theorem a4j {d:TypeDesc} {k:Value} (hf:a0Y d k=true):∀ (es:List (Value×Value)) (es':List MapEntry) (i:Nat) (r:Option Value),b1j k es=some r→MR K es' es →
 ∃ r',Instr.findNow d k es' i=some r'∧((r=none∧r'=none∧∀ e∈es,P6 k e.1=some false) ∨
   ∃ j x x',r=some x∧r'=some (i+j,x')∧VR K x' x∧j<es.length∧(∀ (m:Nat) e,m<j→es[m]?=some e→P6 k e.1=some false)∧∃ e,es[j]?=some e∧P6 k e.1=some true):=by
 intro es
 induction es with
 | nil=>
   intro es' i r h hm
   cases h
   have:es'=[]:=List.eq_nil_of_length_eq_zero hm.len
   subst this
   exact ⟨none,rfl,Or.inl ⟨rfl,rfl,by simp⟩⟩
 | cons e es ih=>
   intro es' i r h hm
   cases es' with
   | nil=>have:=hm.len; simp at this
   | cons e' es'=>
     obtain ⟨hkey,hval⟩:=hm.key 0 e' e rfl rfl
     have hmt:MR K es' es:=⟨by have:=hm.len; simpa using this,fun j x y q q'=>hm.key (j+1) x y (by simpa using q) (by simpa using q')⟩
     have h':(match P6 k e.1 with | none=>none | some true=>some (some e.2) | some false=>b1j k es)=some r:=h
     cases hs:P6 k e.1 with
     | none=>rw [hs] at h'; cases h'
     | some b=>
       rw [hs] at h'
       have hn:=c4A hf hs
       cases b with
       | true=>
         cases h'
         refine ⟨some (i,e'.val), ?_,Or.inr ⟨0,e.2,e'.val,rfl,rfl,hval,by simp,fun m x hm _=>by omega,e,rfl,hs⟩⟩
         simp [Instr.findNow,hkey,hn]
       | false=>
         obtain ⟨r',h1,h2⟩:=ih es' (i+1) r h' hmt
         refine ⟨r',by simp [Instr.findNow,hkey,hn,h1], ?_⟩
         rcases h2 with ⟨e1,e2,e3⟩ | ⟨j,x,x',e1,e2,e3,e4,e5,e6⟩
         · exact Or.inl ⟨e1,e2,fun y hy=>by rcases List.mem_cons.1 hy with rfl | hy; exact hs; exact e3 y hy⟩
         · refine Or.inr ⟨j+1,x,x',e1,by rw [e2]; congr 2; omega,e3,by simpa using e4,fun m y hm hy=>?_,by simpa using e6⟩
           cases m with
           | zero=>simp at hy; subst hy; exact hs
           | succ m=>exact e5 m y (by omega) (by simpa using hy)
theorem a3A (hT:TabOk P T) {key:TypeId} {kd:TI} {k:Value} (hk:T.types.get key=some kd) (hf:a0Y kd.und k=true) (empty:Bool) (n:Nat) (w:World):(Instr.checkKey empty (n+1) key k).run P w=.ok () w:=by
 unfold Instr.checkKey
 simp only [Sem.run_bind,J3 hT hk,Result.andThen_ok]
 cases hu:kd.und <;> cases k <;> first | rfl | (rw [hu] at hf; cases hf)
theorem a2a {x x':Value} {es:List (Value×Value)} {s1:S} (h:a3Z x s=some (es,s1)) (S:Sim B0 w0 K s.h w) (r:VR K x' x) :
 s1.h=s.h∧s1.c=s.c∧((x'=.map none∧es=[])∨∃ b l es' clock,x=.map (some b)∧x'=.map (some l.blk)∧K b 0=some l∧l.own=true∧s.h.get b=some (.map es)∧w.heap[l.blk]?=some (.map es' clock)∧MR K es'.toList es):=by
 cases x with
 | map o=>
   cases o with
   | none=>
     obtain ⟨rfl,rfl⟩:=o9 h
     exact ⟨rfl,rfl,Or.inl ⟨r.eq_of_plain rfl,rfl⟩⟩
   | some b=>
     have h':M.bind (rd b) (fun o=>c3Q o M.pure) s=some (es,s1):=h
     obtain ⟨ob,s2,h1,h2⟩:=w9 h'
     obtain ⟨q1,q2,q3,q4⟩:=a5p h1
     cases ob with
     | map es2=>
       obtain ⟨rfl,rfl⟩:=o9 h2
       obtain ⟨l,es',clock,r1,r2,r3,r4⟩:=S.map b _ q2
       refine ⟨q4,q3,Or.inr ⟨b,l,es',clock,rfl, ?_,r1,r2,q2,r3,r4⟩⟩
       generalize hv:Value.map (some b)=z at r
       cases r with
       | plain hp=>subst hv; simp [V.plain] at hp
       | map hk=>cases hv; rw [r1] at hk; cases hk; rfl
       | _=>cases hv
     | _=>exact absurd h2 (by intro q; cases q)
 | _=>exact absurd h (by intro q; cases q)
theorem a0i {r:Nat} {o:Obj} (h:w.heap[r]?=some o) (hn:∀ c e f,o≠.cells c e f):(getObj r).run P w=.ok o w:=by
 cases o with
 | cells c e f=>exact absurd rfl (hn c e f)
 | _=>simp only [getObj,Sem.run,h]
theorem c6p (hT:TabOk P T) {t key elem:TypeId} {d kd ed:TI} {X Y:Value} {ok:Bool} {es':Array MapEntry} {r':Option (Nat×Value)} (hd:T.types.get t=some d) (hu:d.und=.map key elem)
 (hk:T.types.get key=some kd) (he:T.types.get elem=some ed) (hfit:a0Y kd.und Y=true)
 (hx:(X=.map none∧es'=#[])∨∃ r clock,X=.map (some r)∧w.heap[r]?=some (.map es' clock)) (hn:Instr.findNow kd.und Y es'.toList 0=some r') :
 (Instr.lookup t X Y ok).run P w=.ok (a2u ok (match r' with | some x=>x.2 | none=>ed.zero) r'.isSome) w:=by
 have hfk:(Instr.findKey key Y es'.toList).run P w=.ok r' w:=by
  unfold Instr.findKey
  simp only [Sem.run_bind,J3 hT hk,Result.andThen_ok,hn,Sem.run_pure]
 have hck:=a3A (P:=P) hT hk hfit es'.isEmpty 9999 w
 unfold Instr.lookup
 simp only [Sem.run_bind,J3 hT hd,hu,Result.andThen_ok]
 rcases hx with ⟨rfl,rfl⟩ | ⟨r,clock,rfl,hr⟩
 · simp only [Sem.run_bind,Sem.run_pure,Result.andThen_ok,hck,hfk]
   cases r' with
   | none=>simp only [Sem.run_bind,a1F hT he,Sem.run_pure,Result.andThen_ok]; cases ok <;> rfl
   | some x=>simp only []; cases ok <;> rfl
 · simp only [Sem.run_bind,a0i hr (by intro c e f q; cases q),Sem.run_pure,Result.andThen_ok,hck,hfk]
   cases r' with
   | none=>simp only [Sem.run_bind,a1F hT he,Sem.run_pure,Result.andThen_ok]; cases ok <;> rfl
   | some x=>simp only []; cases ok <;> rfl
theorem VR.withOk {z' z:Value} (ok b:Bool) (q:VR K z' z):VR K (a2u ok z' b) (a2u ok z b):=by
 cases ok with
 | true=>exact .tuple rfl (by
  intro i x' x e e'
  match i with
  | 0=>simp at e e'; subst e e'; exact q
  | 1=>simp at e e'; subst e e'; exact .plain rfl
  | i+2=>simp at e)
 | false=>exact q
theorem a2L {d:TypeDesc} {k:Value} (h:a0Y d k=true):plain k=true:=by
 cases d <;> cases k <;> first | rfl | cases h
theorem c8I (hT:TabOk P T) {t:TypeId} {x y:Operand} {ok:Bool} (h:a1K T fr t x y ok s=some (v,s')) (S:Sim B0 w0 K s.h w) (hf:VRL K a.tmps.toList fr) (hg:GK T K) :
 F9 P B0 w0 K s' (do pure (Next.value (← Instr.lookup t (a.eval x) (a.eval y) ok))) w v:=by
 obtain ⟨vx,e1,h1⟩:=K3 h
 obtain ⟨vy,e2,h2⟩:=K3 h1
 obtain ⟨d,hd,h3⟩:=I8 h2
 generalize hu:d.und=u at h3
 cases u with
 | map key elem=>
   obtain ⟨kd,hk,h4⟩:=I8 h3
   obtain ⟨ed,he,h5⟩:=I8 h4
   obtain ⟨hfit,h6⟩:=A8 h5
   obtain ⟨es,s1,h7,h8⟩:=w9 h6
   obtain ⟨o,ho,h9⟩:=C9 h8
   have ey:a.eval y=vy:=(F5 hf hg e2).eq_of_plain (a2L hfit)
   obtain ⟨c1,c2,c3⟩:=a2a h7 S (F5 hf hg e1)
   obtain ⟨es',m1,m2⟩:∃ es':Array MapEntry,MR K es'.toList es∧((a.eval x=.map none∧es'=#[])∨∃ r clock,a.eval x=.map (some r)∧w.heap[r]?=some (.map es' clock)):=by
    rcases c3 with ⟨q1,rfl⟩ | ⟨b,l,es',clock,_,q2,q3,q4,q5,q6,q7⟩
    · exact ⟨#[],⟨rfl,fun i e' e q=>by simp at q⟩,Or.inl ⟨q1,rfl⟩⟩
    · exact ⟨es',q7,Or.inr ⟨_,clock,q2,q6⟩⟩
   obtain ⟨r',n1,n2⟩:=a4j (K:=K) hfit es es'.toList 0 o ho m1
   have hrun:=c6p (ok:=ok) (X:=a.eval x) (Y:=a.eval y) hT hd hu hk he (by rw [ey]; exact hfit) m2 (by rw [ey]; exact n1)
   cases o with
   | some z=>
     obtain ⟨rfl,rfl⟩:=o9 h9
     rcases n2 with ⟨q,_⟩ | ⟨j,z1,z1',q1,q2,q3,_⟩
     · cases q
     · cases q1
       subst q2
       exact F9.quiet S c1 hrun (q3.withOk ok true)
   | none=>
     obtain ⟨hz,h10⟩:=A8 h9
     obtain ⟨rfl,rfl⟩:=o9 h10
     rcases n2 with ⟨_,q2,_⟩ | ⟨j,z1,z1',q1,_⟩
     · subst q2
       exact F9.quiet S c1 hrun ((L8 (K:=K) _ _ hz).withOk ok false)
     · cases q1
 | _=>exact absurd h3 (by intro q; cases q)
end
end Go.V
end
