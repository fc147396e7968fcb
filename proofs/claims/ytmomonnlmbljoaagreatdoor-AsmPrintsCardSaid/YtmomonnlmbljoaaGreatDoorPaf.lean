import Derived.Lib.IndexBytes
import Derived.Test.YtmomonnlmbljoaaGreatDoorPae
section
namespace Go.V
open Go.RowKit (Below)
section
variable {P:Program} {T:Tab} {B0:Nat} {w0:Base} {w:World} {K:KM} {s s':S} {a:Act} {fr:List Value} {v:Value}
theorem b1J {x:Value} {n y:Nat} (h:a8g x=some n) (hn:n≤y) (code:BoundsCode) (w:World):(Instr.sliceBound x y code).run P w=.ok n w:=by
 obtain ⟨k,rfl⟩:=a7t h
 simp [Instr.sliceBound,asIntOf,hn]
theorem a8R {lo hi:Option Value} {l hh len cap:Nat} (isS:Bool) (h1:a5Q 0 lo=some l) (h2:a5Q len hi=some hh) (hl:l≤hh) (hle:hh≤len) (hc:len≤cap) (w:World) :
 (Instr.sliceBounds isS len cap lo hi none).run P w=.ok (l,hh,cap) w:=by
 unfold Instr.sliceBounds
 simp only [Sem.run_bind,Sem.run_pure,Result.andThen_ok]
 cases hi with
 | none=>
   cases h2
   simp only [Sem.run_bind,Sem.run_pure,Result.andThen_ok]
   cases lo with
   | none=>cases h1; rfl
   | some x=>simp only [Sem.run_bind,b1J h1 hl,Result.andThen_ok,Sem.run_pure]
 | some y=>
   simp only [Sem.run_bind,b1J h2 (Nat.le_trans hle hc),Result.andThen_ok]
   cases lo with
   | none=>cases h1; rfl
   | some x=>simp only [Sem.run_bind,b1J h1 hl,Result.andThen_ok,Sem.run_pure]
theorem c0i {o:Option Operand} {vs:List Value} (hf:VRL K a.tmps.toList fr) (hg:GK T K) (h:a2Q T fr o.toList=some vs) :
 (o=none∧a3b vs 0=none)∨∃ x y,o=some x∧a3b vs 0=some y∧VR K (a.eval x) y:=by
 cases o with
 | none=>cases h; exact Or.inl ⟨rfl,rfl⟩
 | some x=>
   have h':(match a2o T fr x with | none=>none | some v=>some [v])=some vs:=h
   split at h'
   · cases h'
   · rename_i y hy; cases h'; exact Or.inr ⟨x,y,rfl,rfl,a0k hf hg hy⟩
theorem a5B {o:Option Operand} {vs:List Value} {d n:Nat} (hf:VRL K a.tmps.toList fr) (hg:GK T K) (h:a2Q T fr o.toList=some vs) (hn:a5Q d (a3b vs 0)=some n) :
 a5Q d (o.map a.eval)=some n:=by
 rcases c0i hf hg h with ⟨rfl,e⟩ | ⟨x,y,rfl,e,r⟩
 · rw [e] at hn; exact hn
 · rw [e] at hn
   obtain ⟨k,rfl⟩:=a7t hn
   have:=r.eq_of_plain rfl
   show a8g (a.eval x)=some n
   rw [this]; rfl
theorem c0Y {ad:Addr} {len elem:Nat} {lo hi:Option Value} (h:cut T ad len elem lo hi s=some (v,s')) :
 ∃ e l hh,T.types.get elem=some e∧a5Q 0 lo=some l∧a5Q len hi=some hh∧l≤hh∧hh≤len∧e.size≠0∧v=.slice (some (fwd ad (l * e.size))) (hh - l) e.size∧s'=s:=by
 obtain ⟨e,he,h1⟩:=a1H h
 obtain ⟨l,hl,h2⟩:=U2 h1
 obtain ⟨hh,hhh,h3⟩:=U2 h2
 obtain ⟨hgd,h4⟩:=U1 h3
 obtain ⟨rfl,rfl⟩:=J8 h4
 simp only [Bool.and_eq_true] at hgd
 exact ⟨e,l,hh,he,hl,hhh,Nat.le_of_ble_eq_true hgd.1.1,Nat.le_of_ble_eq_true hgd.1.2,b3F hgd.2,rfl,rfl⟩
theorem b3Q (x:ByteArray) (l h:Nat):x.extract l h=⟨⟨(x.data.toList.drop l).take (h - l)⟩⟩:=by
 have:=Lib.extract_data x l h
 cases e:x.extract l h with
 | mk d=>
   rw [e] at this
   congr 1
   exact Array.ext' this
theorem c5o (hT:TabOk P T) {t:TypeId} {x:Operand} {lo hi mx:Option Operand} (h:b0g T fr t x lo hi mx s=some (v,s')) (S:Sim B0 w0 K s.h w) (hf:VRL K a.tmps.toList fr) (hg:GK T K) :
 a0x P B0 w0 K s' (do pure (Next.value (← Instr.sliceAt t (a.eval x) (lo.map a.eval) (hi.map a.eval) (mx.map a.eval)))) w v:=by
 obtain ⟨vlo,e1,h1⟩:=a6Q h
 obtain ⟨vhi,e2,h2⟩:=a6Q h1
 obtain ⟨vmx,e3,h3⟩:=a6Q h2
 obtain ⟨vx,e4,h4⟩:=a2r h3
 obtain ⟨d,hd,h5⟩:=a1H h4
 obtain ⟨hgd,h6⟩:=U1 h5
 have hmx:mx.map a.eval=none:=by
  rcases c0i hf hg e3 with ⟨rfl,_⟩ | ⟨y,z,rfl,q,_⟩
  · rfl
  · rw [q] at hgd; cases hgd
 rw [hmx]
 have rx:=a0k hf hg e4
 generalize hu:d.und=u at h6
 cases u with
 | string=>
   cases vx with
   | string b=>
     obtain ⟨l,hl,h7⟩:=U2 h6
     obtain ⟨hh,hhh,h8⟩:=U2 h7
     obtain ⟨hg2,h9⟩:=U1 h8
     rw [a2R] at h9
     obtain ⟨rfl,rfl⟩:=J8 h9
     simp only [Bool.and_eq_true,Z5,Array.length_toList] at hg2 hhh
     have q1:=Nat.le_of_ble_eq_true hg2.1
     have q2:hh≤b.size:=Nat.le_of_ble_eq_true hg2.2
     have ex:=rx.eq_of_plain rfl
     refine a0x.quiet S rfl (v':=.string (b.extract l hh)) ?_ ?_
     · rw [ex]
       have hb:=a8R (P:=P) false (a5B hf hg e1 hl) (a5B hf hg e2 hhh) q1 q2 (Nat.le_refl b.size) w
       have hb':(Instr.sliceBounds false b.size b.size (lo.map a.eval) (hi.map a.eval) none).run P w=.ok (l,hh,b.size) w:=hb
       simp [Instr.sliceAt,Instr.slice,a2f hT hd,hu,hb']
     · rw [b3Q,b0B,a5I]; exact .plain rfl
   | _=>exact absurd h6 (by intro q; cases q)
 | slice elem=>
   cases vx with
   | slice o len es=>
     obtain ⟨e0,he0,h7⟩:=a1H h6
     cases o with
     | some ad=>
       obtain ⟨hes,h8⟩:=U1 h7
       obtain ⟨e,l,hh,he,hl,hhh,q1,q2,q3,rfl,rfl⟩:=c0Y h8
       rw [he0] at he; cases he
       have hes:=Nat.eq_of_beq_eq_true hes
       subst hes
       rcases a5s rx with ⟨ad1,ad',cap,p1,p2,p3,p4,p5,p6,p7⟩ | ⟨p1,_⟩
       · cases p1
         have hb:=a8R (P:=P) true (a5B hf hg e1 hl) (a5B hf hg e2 hhh) q1 q2 p3 w
         have hrun:(Instr.sliceAt t (a.eval x) (lo.map a.eval) (hi.map a.eval) none).run P w=.ok (.slice (if cap=l then some ad' else some (ad'.add (l * e0.size))) (hh - l) (cap - l)) w:=by
          rw [p2]
          simp only [Instr.sliceAt,Instr.slice,Sem.run_bind,a2f hT hd,hu,Result.andThen_ok,hb,a2P hT he0,Sem.run_pure]
          simp
         by_cases hc:cap=l
         · refine a0x.quiet S rfl hrun ?_
           rw [if_pos hc]
           generalize hv1:Value.slice (some ad') len cap=z' at p4
           generalize hv2:Value.slice (some ad) len e0.size=z at p4
           cases p4 with
           | plain hp=>subst hv2; simp [V.plain] at hp
           | slice k1 k2 k3 k4 k5 k6=>
             cases hv1; cases hv2
             exact VR.slice k1 (Nat.le_trans k2 (Nat.le_add_right _ _)) k3 (by omega) (Or.inl (by omega)) (Or.inl (by omega))
           | _=>cases hv1
         · refine a0x.quiet S rfl hrun ?_
           rw [if_neg hc]
           generalize hv1:Value.slice (some ad') len cap=z' at p4
           generalize hv2:Value.slice (some ad) len e0.size=z at p4
           cases p4 with
           | plain hp=>subst hv2; simp [V.plain] at hp
           | @slice b g off len' cap' es' l0 a0 k1 k2 k3 k4 k5 k6=>
             cases hv1; cases hv2
             rcases k6 with k6 | ⟨k6,k7,k8⟩
             · omega
             · obtain ⟨ab,ao,asp⟩:=ad'
               simp only at k5 k6 k7 k8
               obtain k5:=k5.resolve_left (by omega)
               subst k5 k6 k7
               rw [a8o]
               refine VR.slice k1 (Nat.le_trans k2 (Nat.le_add_right _ _)) k3 (by omega) (Or.inr rfl) (Or.inr ⟨rfl, ?_,fun ho=>?_⟩)
               · dsimp only; omega
               · have:=k8 ho
                 dsimp only
                 have e1:l * e0.size+(cap - l) * e0.size=cap * e0.size:=by rw [← Nat.add_mul]; congr 1; omega
                 omega
           | _=>cases hv1
       · cases p1
     | none=>
       obtain ⟨hl0,h7⟩:=U1 h7
       obtain ⟨l,hl,h8⟩:=U2 h7
       obtain ⟨hh,hhh,h9⟩:=U2 h8
       obtain ⟨hg2,h10⟩:=U1 h9
       obtain ⟨rfl,rfl⟩:=J8 h10
       simp only [Bool.and_eq_true] at hg2
       have q1:=Nat.eq_of_beq_eq_true hg2.1
       have q2:=Nat.eq_of_beq_eq_true hg2.2
       subst q1 q2
       rcases a5s rx with ⟨_,_,_,p1,_⟩ | ⟨_,p2,p3,p4⟩
       · cases p1
       · have hb:=a8R (P:=P) true (a5B hf hg e1 hl) (a5B hf hg e2 hhh) (Nat.le_refl 0) (Nat.le_refl 0) (Nat.le_refl 0) w
         refine a0x.quiet S rfl (v':=.slice none 0 0) ?_ (.plain rfl)
         rw [p4]
         simp only [Instr.sliceAt,Instr.slice,Sem.run_bind,a2f hT hd,hu,Result.andThen_ok,hb,a2P hT he0,Sem.run_pure]
         simp
   | _=>exact absurd h6 (by intro q; cases q)
 | array n elem=>
   obtain ⟨ad,rfl,h7⟩:=a6N h6
   obtain ⟨e0,he0,h8⟩:=a1H h7
   obtain ⟨us,s1,h9,h10⟩:=O7 h8
   obtain ⟨e,l,hh,he,hl,hhh,q1,q2,q3,rfl,rfl⟩:=c0Y h10
   rw [he0] at he; cases he
   obtain ⟨ad',p1,r⟩:=a8w rx
   obtain ⟨us',r1,r2,r3,r4,r5⟩:=b1Z (P:=P) h9 S r
   have hb:=a8R (P:=P) false (a5B hf hg e1 hl) (a5B hf hg e2 hhh) q1 q2 (Nat.le_refl n) w
   have hrun:(Instr.sliceAt t (a.eval x) (lo.map a.eval) (hi.map a.eval) none).run P w=.ok (.slice (some (if n=l then ad' else ad'.add (l * e0.size))) (hh - l) (n - l)) w:=by
    rw [p1]
    simp only [Instr.sliceAt,Sem.run_bind,a2f hT hd,hu,Result.andThen_ok,Instr.sureAddr,hb,a2P hT he0,Sem.run_pure]
   refine a0x.quiet S r5 hrun ?_
   obtain ⟨g,cs,cur,ro,z1,z2,z3,z4,z5⟩:=a8k h9
   obtain ⟨g',l0,y1,y2,y3,rfl⟩:=a7U r
   rw [z1] at y1; cases y1
   obtain ⟨vs2,x1,x2,x3⟩:=a8r S y2 y3 z2 z3
   obtain ⟨ab,ao,asp⟩:=ad
   cases z1
   by_cases hc:n=l
   · rw [if_pos hc]
     exact VR.slice y2 (Nat.le_trans y3 (Nat.le_add_right _ _)) (by omega) (by omega) (Or.inr rfl) (Or.inl (by omega))
   · rw [if_neg hc,a8o]
     refine VR.slice y2 (Nat.le_trans y3 (Nat.le_add_right _ _)) (by omega) (by omega) (Or.inr rfl) (Or.inr ⟨rfl, ?_,fun ho=>?_⟩)
     · dsimp only at y3 ⊢; omega
     · obtain ⟨c,et,fz,c1,c2,c3⟩:=S.room _ _ l0 cs cur ro y2 ho z2
       have hpos:0<n * e0.size:=Nat.mul_pos (by omega) (by omega)
       have hlen:vs2.length=n * e0.size:=by rw [x1.len,x2]
       have hlast:=x3 (n * e0.size - 1) _ (List.getElem?_eq_getElem (by omega))
       simp only [World.cell?,c1] at hlast
       have:=(Array.getElem?_eq_some_iff.1 (by simpa using hlast)).1
       have e1:l * e0.size+(n - l) * e0.size=n * e0.size:=by rw [← Nat.add_mul]; congr 1; omega
       dsimp only at *
       omega
 | _=>exact absurd h6 (by intro q; cases q)
end
end Go.V
end
section
namespace Go.V
open Go.RowKit (Below)
section
variable {P:Program} {T:Tab} {B0:Nat} {w0:Base} {w:World} {K:KM} {s s':S} {v:Value}
theorem c3y (b:ByteArray):(b.extract 0 b.size).data.map (fun x=>Value.int .u8 x.toNat)=(b.data.toList.map a7D).toArray:=by
 rw [b3Q]
 apply Array.ext'
 rw [Array.toList_map]
 have:b.data.toList.length≤b.size:=Nat.le_refl _
 simp only [List.drop_zero,Nat.sub_zero,List.take_of_length_le this]
 rfl
theorem c3b {ad:Addr} {n:Nat} {s1:S} {vs:List Value} (h:loadN ad n s=some (vs,s1)) (S:Sim B0 w0 K s.h w)
 {a':Addr} (r:VR K (.pointer (some a')) (.pointer (some ad))) :
 ∃ vs':List Value,(∀ w2:World,(∀ x,w2.cell? x=w.cell? x)→(loadCells a' n).run P w2=.ok vs'.toArray w2)∧VRL K vs' vs∧vs'.length=n∧s1.c=s.c∧s1.h=s.h:=by
 obtain ⟨g,cs,cur,ro,e1,e2,e3,e4,e5⟩:=a8k h
 obtain ⟨g',l,f1,f2,f3,rfl⟩:=a7U r
 rw [e1] at f1; cases f1
 obtain ⟨vs',c1,c2,c3⟩:=a8r S f2 f3 e2 e3
 have hn:vs'.length=n:=by rw [c1.len,c2]
 refine ⟨vs',fun w2 hw=>?_,c1,hn,e4,e5⟩
 have:=run_loadCells_list (P:=P) w2 (⟨l.blk,l.at_+(ad.off - l.lo),none⟩:Addr) vs' (fun j v hj=>by rw [a8o,hw]; exact c3 j v hj)
 rw [hn] at this
 exact this
theorem b3k {size:Nat} {x x':Value} {vs:List Value} {s1:S} (h:a9h size x s=some (vs,s1)) (hpos:0<size) (S:Sim B0 w0 K s.h w) (r:VR K x' x) :
 ∃ n vs',(∀ w2:World,(Builtin.lenOf x').run P w2=.ok n w2)∧(∀ w2:World,(∀ x,w2.cell? x=w.cell? x)→(Builtin.firstCells size n x').run P w2=.ok vs'.toArray w2)∧VRL K vs' vs∧vs'.length=n * size∧s1.h=s.h∧s1.c=s.c:=by
 cases x with
 | slice o len es=>
   cases o with
   | none=>
     obtain ⟨hl,h1⟩:=U1 h
     obtain ⟨rfl,rfl⟩:=J8 h1
     rcases a5s r with ⟨_,_,_,p1,_⟩ | ⟨_,p2,p3,p4⟩
     · cases p1
     · exact ⟨0, [],by rw [p4]; intro _; rfl,by rw [p4]; intro _ _; rfl,VRL.nil K,by simp,rfl,rfl⟩
   | some ad=>
     rcases a5s r with ⟨ad1,ad',cap,p1,p2,p3,p4,p5,p6,p7⟩ | ⟨p1,_⟩
     · cases p1
       cases len with
       | zero=>
         have h1:M.pure [] s=some (vs,s1):=h
         obtain ⟨rfl,rfl⟩:=J8 h1
         exact ⟨0, [],by rw [p2]; intro _; rfl,by rw [p2]; intro _ _; simp [Builtin.firstCells,loadCells,loadCellsFrom],VRL.nil K,by simp,rfl,rfl⟩
       | succ len=>
         have h1:M.guard (Nat.beq es size) (loadN ad ((len+1) * size)) s=some (vs,s1):=h
         obtain ⟨he,h2⟩:=U1 h1
         obtain ⟨vs',r1,r2,r3,r4,r5⟩:=c3b (P:=P) h2 S (p7 (by omega))
         exact ⟨len+1,vs',by rw [p2]; intro _; rfl,by rw [p2]; exact r1,r2,r3,r5,r4⟩
     · cases p1
 | string b=>
   obtain ⟨hl,h1⟩:=U1 h
   obtain ⟨rfl,rfl⟩:=J8 h1
   have hs:=Nat.eq_of_beq_eq_true hl
   subst hs
   have ex:=r.eq_of_plain rfl
   refine ⟨b.size,b.data.toList.map a7D,by rw [ex]; intro _; rfl,by rw [ex]; intro _ _; simp only [Builtin.firstCells]; rw [c3y]; rfl, ?_,by show (b.data.toList.map a7D).length=b.data.size * 1; simp,rfl,rfl⟩
   rw [a3I]
   exact VRL.refl_plain _ (fun y hy=>by obtain ⟨z,_,rfl⟩:=List.mem_map.1 hy; rfl)
 | _=>exact absurd h (by intro q; cases q)
theorem b5h (newLen:Nat):∀ (n c:Nat),c≤2 * newLen+192→c<newLen∨True→Builtin.growBy newLen n c≤2 * newLen+192
 | 0,c,h,_=>h
 | n+1,c,h,_=>by
   unfold Builtin.growBy
   split
   · exact h
   · exact b5h newLen n _ (by omega) (Or.inr trivial)
theorem c1O (need cap:Nat) (h:cap<need):Builtin.nextslicecap need cap≤2 * need+192:=by
 unfold Builtin.nextslicecap
 split
 · omega
 · split
   · omega
   · exact b5h need 4 cap (by omega) (Or.inr trivial)
theorem b2H {argTypes:Array TypeId} {ty st xt elem:TypeId} {dx:TypeDesc} {size n:Nat} {base:Option Addr} {len cap:Nat} {x':Value} {vs':List Value} {w':World}
 (h0:argTypes[0]?=some st) (h1:argTypes[1]?=some xt) (hst:(underlying st).run P w=.ok (.slice elem) w) (hxt:(underlying xt).run P w=.ok dx w) (hdx:b3p dx=false)
 (hsz:(sizeOf elem).run P w=.ok size w) (hn:(Builtin.lenOf x').run P w=.ok n w) (hfc:(Builtin.firstCells size n x').run P w=.ok vs'.toArray w) (hle:len+n≤cap)
 (hnone:base=none→w'=w) (hsome:∀ ad,base=some ad→(storeCells (ad.add (len * size)) vs').run P w=.ok () w') :
 (Builtin.append_ argTypes ty #[.slice base len cap,x']).run P w=.ok (.slice base (len+n) cap) w':=by
 unfold Builtin.append_
 simp only [h0,h1]
 simp only [List.getElem?_toArray,List.getElem?_cons_zero,List.getElem?_cons_succ]
 simp only [Sem.run_bind,hst,Result.andThen_ok,hsz,hxt,Sem.run_pure]
 cases dx with
 | int k=>cases hdx
 | _=>
   simp only [Bool.false_eq_true,if_false,Bool.not_false,if_true,Sem.run_bind,hn,Result.andThen_ok,hle,hfc]
   cases base with
   | none=>rw [hnone rfl]; rfl
   | some ad=>simp only [Sem.run_bind,hsome ad rfl,Result.andThen_ok,Sem.run_pure]
theorem b1D {argTypes:Array TypeId} {ty st xt elem:TypeId} {dx:TypeDesc} {n:Nat} {e:TI} {base:Option Addr} {len cap:Nat} {x':Value} {vs' olds:List Value}
 (hT:TabOk P T) (h0:argTypes[0]?=some st) (h1:argTypes[1]?=some xt) (hst:∀ w,(underlying st).run P w=.ok (.slice elem) w) (hxt:∀ w,(underlying xt).run P w=.ok dx w) (hdx:b3p dx=false)
 (he:T.types.get elem=some e) (hn:(Builtin.lenOf x').run P w=.ok n w) (hfc:(Builtin.firstCells e.size n x').run P w.drew=.ok vs'.toArray w.drew)
 (hold:(Builtin.firstCells e.size len (.slice base len cap)).run P w.drew=.ok olds.toArray w.drew) (hlt:cap<len+n) (hsmall:(len+n) * 4<4294967296) (hb:e.bytes<4096) (hpos:0<e.size) :
 ∃ nc arr,len+n≤nc∧arr.toList=olds ++ vs' ++ a5T e.zero.cells.toList (nc - (len+n)) ∧
   (Builtin.append_ argTypes ty #[.slice base len cap,x']).run P w=.ok (.slice (some ⟨w.heap.size, 0,none⟩) (len+n) nc) (w.drew.alloc (.cells arr elem)):=by
 obtain ⟨info,g1,g2,g3,g4,g5,g6⟩:=hT.types elem e he
 let nc:=(Question.appendCap (len+n) cap elem).cut (w.tape w.drawn (Question.appendCap (len+n) cap elem))
 have hnc:len+n≤nc:=by
  show len+n≤(len+n)+_ % _
  exact Nat.le_add_right _ _
 refine ⟨nc,olds.toArray ++ vs'.toArray ++ Builtin.zeroCells e.zero.cells (nc - (len+n)),hnc, ?_, ?_⟩
 · have hz:=b2X e.zero.cells (nc - (len+n)) (by rw [g6]; exact hpos)
   simp only [Array.toList_append]
   rw [← hz]
   rfl
 · have hnb:¬ (Builtin.nextslicecap (len+n) cap * e.bytes > 2 ^ 48):=by
    have h1:=c1O (len+n) cap hlt
    have h2:Builtin.nextslicecap (len+n) cap * e.bytes≤(2 * (len+n)+192) * 4096:=Nat.mul_le_mul h1 (by omega)
    have:(2:Nat) ^ 48=281474976710656:=rfl
    omega
   have hni:¬ (((len+n:Nat):Int) > IntKind.i64.max):=by
    have:IntKind.i64.max=9223372036854775807:=rfl
    rw [this]; omega
   have hnle:¬ (len+n≤cap):=by omega
   unfold Builtin.append_
   simp only [h0,h1]
   simp only [List.getElem?_toArray,List.getElem?_cons_zero,List.getElem?_cons_succ]
   simp only [Sem.run_bind,hst,Result.andThen_ok,a2P hT he,hxt,Sem.run_pure]
   cases dx with
   | int k=>cases hdx
   | _=>
     simp only [Bool.false_eq_true,if_false,Bool.not_false,if_true,Sem.run_bind,hn,Result.andThen_ok,hnle,typeInfo,run_program,g1,Sem.run_pure,hni,false_and,g4,hnb]
     simp only [run_choose,Question.forced,Bool.false_eq_true,if_false,Result.andThen_ok,run_askRoom]
     have hd:({ w with drawn:=w.drawn+1 }:World)=w.drew:=rfl
     simp only [hd,hold,Result.andThen_ok,hfc,a9d hT he,newRow,Sem.run_bind,run_newObj,Sem.run_pure]
     rfl
theorem VRL.two {l':List Value} {x y:Value} {l:List Value} (h:VRL K l' l) (h0:l[0]?=some x) (h1:l[1]?=some y):∃ x' y' r,l'=x'::y'::r∧VR K x' x∧VR K y' y:=by
 match l',h with
 | [],h=>have:=h.len; cases l with
   | nil=>cases h0
   | cons=>simp at this
 | [x'],h=>have:=h.len; cases l with
   | nil=>cases h0
   | cons a l=>cases l with
     | nil=>cases h1
     | cons=>simp at this
 | x'::y'::r,h=>exact ⟨x',y',r,rfl,h.at_ 0 _ _ rfl h0,h.at_ 1 _ _ rfl h1⟩
theorem b7W (hT:TabOk P T) {argTypes:Array TypeId} {ty st xt elem:TypeId} {dx:TypeDesc} {e:TI} {vs:List Value} {x0 x0' x1:Value} {s1:S} {n:Nat} {vs':List Value}
 (h0:argTypes[0]?=some st) (h1:argTypes[1]?=some xt) (hst:∀ w,(underlying st).run P w=.ok (.slice elem) w) (hxt:∀ w,(underlying xt).run P w=.ok dx w) (hdx:b3p dx=false)
 (he:T.types.get elem=some e) (hpos:0<e.size) (h:a4q e x0 vs s1=some (v,s')) (S:Sim B0 w0 K s1.h w) (F:a2C K s1 s') (r0:VR K x0' x0)
 (hn:(Builtin.lenOf x1).run P w=.ok n w) (hfc:(Builtin.firstCells e.size n x1).run P w=.ok vs'.toArray w) (hfc2:(Builtin.firstCells e.size n x1).run P w.drew=.ok vs'.toArray w.drew) (hvs:VRL K vs' vs) (hvl:vs'.length=n * e.size) :
 ∃ v' w' K',(Builtin.append_ argTypes ty #[x0',x1]).run P w=.ok v' w'∧Step B0 w0 K s' w' K'∧VR K' v' v:=by
 obtain ⟨info,g1,g2,g3,g4,g5,g6⟩:=hT.types elem e he
 cases vs with
 | nil=>
   obtain ⟨hsl,h2⟩:=U1 h
   obtain ⟨rfl,rfl⟩:=J8 h2
   have hvs0:vs'=[]:=List.eq_nil_of_length_eq_zero hvs.len
   subst hvs0
   have hn0:n=0:=by
    rcases Nat.eq_zero_or_pos n with q | q
    · exact q
    · have:=Nat.mul_pos q hpos; simp at hvl; omega
   subst hn0
   cases v with
   | slice o len es=>
     have hslice:∃ b l c,x0'=.slice b l c∧l≤c:=by
      rcases a5s r0 with ⟨_,ad',cap,_,p2,p3,_⟩ | ⟨_,_,_,p4⟩
      · exact ⟨_,_,_,p2,p3⟩
      · exact ⟨_,_,_,p4,Nat.le_refl _⟩
     obtain ⟨b,l,c,rfl,hlc⟩:=hslice
     refine ⟨.slice b l c,w,K, ?_,Step.same S rfl,r0⟩
     have:=b2H (ty:=ty) (w':=w) h0 h1 (hst w) (hxt w) hdx (a2P hT he w) hn hfc (base:=b) (len:=l) (cap:=c) (by omega) (fun _=>rfl) (fun ad _=>rfl)
     simpa using this
   | _=>cases hsl
 | cons u us=>
   cases x0 with
   | slice o len es=>
     have h2:M.guard (Nat.beq ((L9 us+1) / e.size * e.size) (L9 us+1) && a0o a0I (u::us) && Nat.blt ((len+(L9 us+1) / e.size) * 4) a6r && Nat.blt e.bytes 4096)
      (match o with
      | none=>M.guard (Nat.beq len 0) <| M.bind (a1U (u::us)) fun a=>M.pure (.slice (some a) ((L9 us+1) / e.size) e.size)
      | some a=>M.guard (Nat.beq es e.size) <| appendAt e a len (u::us) ((L9 us+1) / e.size)) s1=some (v,s'):=by
      have:=h
      simp only [a4q,a5m] at this
      exact this
     obtain ⟨hgd,h3⟩:=U1 h2
     simp only [Bool.and_eq_true,Z5] at hgd
     obtain ⟨⟨⟨q1,q2⟩,q3⟩,q4⟩:=hgd
     rw [Z5] at h3
     generalize hm:(us.length+1) / e.size=m at *
     have q1:=Nat.eq_of_beq_eq_true q1
     have q3:(len+m) * 4<4294967296:=by simpa [Nat.blt_eq,a6r] using q3
     have q4:e.bytes<4096:=by simpa [Nat.blt_eq] using q4
     have hvl2:vs'.length=us.length+1:=by rw [hvs.len]; rfl
     have hnm:n=m:=by
      have:n * e.size=m * e.size:=by omega
      exact Nat.eq_of_mul_eq_mul_right hpos this
     subst hnm
     have hn1:0<n:=by
      rcases Nat.eq_zero_or_pos n with q | q
      · subst q; simp at hvl; omega
      · exact q
     cases o with
     | none=>
       obtain ⟨hl0,h4⟩:=U1 h3
       obtain ⟨ad,s2,h5,h6⟩:=O7 h4
       obtain ⟨rfl,rfl⟩:=J8 h6
       rcases a5s r0 with ⟨_,_,_,p1,_⟩ | ⟨_,p2,p3,p4⟩
       · cases p1
       · subst p4 p2
         obtain ⟨nc,arr,c1,c2,c3⟩:=b1D (ty:=ty) (base:=none) (len:=0) (cap:=0) (olds:=[]) hT h0 h1 hst hxt hdx he hn hfc2 rfl (by omega) q3 q4 hpos
         obtain ⟨K',k1,k2,rfl⟩:=a6A (w':=w.drew.alloc (.cells arr elem)) (arr:=arr) (e:=elem) (fz:=(0, 0)) (rest:=a5T e.zero.cells.toList (nc - (0+n))) h5 S F hvs
          ((Grew.drew w).trans (Grew.alloc _ _)) (by show (w.heap.push _)[w.heap.size]?=_; simp) (by rw [c2]; simp) (fun o _=>by simp)
         refine ⟨_,_,K',c3,k1, ?_⟩
         rw [Nat.zero_add]
         refine VR.slice (off:=0) k2 (Nat.zero_le _) hpos (by omega) (Or.inr rfl) (Or.inr ⟨rfl,rfl,fun _=>?_⟩)
         dsimp only
         have hsz:arr.size=n * e.size+(nc - n) * e.size:=by
          rw [← Array.length_toList,c2]; simp [hvl,a8e,g6]
         rw [hsz, ← Nat.add_mul,Nat.zero_add,Nat.add_sub_cancel' (by omega)]
         exact Nat.le_refl _
     | some ad=>
       obtain ⟨hes,h4⟩:=U1 h3
       have hes:=Nat.eq_of_beq_eq_true hes
       subst hes
       obtain ⟨g,cs,cur,olds,z1,z2,z3,z4,z5,z6,rfl⟩:=b6V h4
       rcases a5s r0 with ⟨ad1,ad',cap,p1,rfl,p3,p4,p5,p6,p7⟩ | ⟨p1,_⟩
       · cases p1
         obtain ⟨hg1,_,hg3⟩:=S.gens _ cs cur false z2
         have hget:∀ j,(Trie.put (some (.cells (cs.take (ad.off+len * e.size)) cur false)) (ad.block+1) s1.h ad.block).get j=if j=ad.block then some (.cells (cs.take (ad.off+len * e.size)) cur false) else s1.h.get j:=
          fun j=>Trie.get_put _ _ _ _ (Nat.lt_succ_self _) j
         generalize Trie.put (some (.cells (cs.take (ad.off+len * e.size)) cur false)) (ad.block+1) s1.h ad.block=ht at hget
         have S1:=c3B S z2 hget
         have hb1:ht.get ad.block=some (.cells (cs.take (ad.off+len * e.size)) cur false):=by rw [hget,if_pos rfl]
         have hlt:(cs.take (ad.off+len * e.size)).length=ad.off+len * e.size:=by simp [z3]
         have hh':∀ j,s'.h.get j=if j=ad.block then some (.cells (cs.take (ad.off+len * e.size) ++ (u::us).map fun v=>(v,cur+1)) (cur+1) false) else ht.get j:=by
          intro j; rw [z6 j,hget j]; split <;> rfl
         by_cases hfit:len+n≤cap
         ·
           obtain ⟨g',l,y1,y2,y3,y4⟩:=a7U (p7 (by omega))
           rw [z1] at y1; cases y1
           have hown:l.own=true:=(hg1 _ _ y2).2 rfl
           obtain ⟨c,et,fz,c1,c2,c3⟩:=S.room _ _ l cs cur false y2 hown z2
           have hroom:l.at_+(ad.off - l.lo)+cap * e.size≤l.sz:=by
            generalize hv1:Value.slice (some ad') len cap=z' at p4
            generalize hv2:Value.slice (some ad) len e.size=z at p4
            cases p4 with
            | plain hp=>subst hv2; simp [V.plain] at hp
            | @slice b g2 off len' cap' es' l0 a0 k1 k2 k3 k4 k5 k6=>
              cases hv1; cases hv2
              cases z1
              rw [y2] at k1; cases k1
              rcases k6 with k6 | ⟨k6,k7,k8⟩
              · omega
              · have:=k8 hown; rw [k7] at this; exact this
            | _=>cases hv1
           have hmul:len * e.size+n * e.size≤cap * e.size:=by rw [← Nat.add_mul]; exact Nat.mul_le_mul_right _ hfit
           obtain ⟨w',u1,u2⟩:=b0X P l.blk vs' (l.at_+(ad.off - l.lo)+len * e.size) 0 w
            (fun j hj=>by
              have hidx:l.at_+(ad.off - l.lo)+len * e.size+0+j<c.size:=by omega
              have hc:w.cell? ⟨l.blk,l.at_+(ad.off - l.lo)+len * e.size+0+j,none⟩=c[l.at_+(ad.off - l.lo)+len * e.size+0+j]?:=by simp only [World.cell?,c1]; rfl
              rw [hc,Array.getElem?_eq_getElem hidx]; rfl)
            (fun j hj=>c3 _ (by omega))
            (fun x hx=>by
              obtain ⟨j,hj,rfl⟩:=List.getElem_of_mem hx
              have hj2:j<(u::us).length:=by rw [← hvs.len]; exact hj
              exact (hvs.at_ j _ _ (List.getElem?_eq_getElem hj) (List.getElem?_eq_getElem hj2)).oneCell ((a0y _ _).1 q2 _ (List.getElem_mem hj2)))
           have hrun:=b2H (ty:=ty) (w':=w') h0 h1 (hst w) (hxt w) hdx (a2P hT he w) hn hfc (base:=some ad') (len:=len) (cap:=cap) hfit (fun q=>by cases q)
            (fun ad2 q=>by cases q; rw [y4,a8o]; exact u1)
           have S2:=c2b S1 hb1 y2 (by rw [hlt]; omega) (o:=l.at_+(ad.off - l.lo)+len * e.size+0) (by rw [hlt]; omega) u2
           let l':Loc:=⟨l.blk,ad.off,l.at_+(ad.off - l.lo),l.sz,true⟩
           have S3:=c0l (l:=l') (vs:=u::us) S2 hb1 hh' rfl (by show l.blk<_; rw [u2.size]; exact S.dom _ _ _ y2) (by show B0≤l.blk; exact S.own _ _ _ y2 hown)
            (fun g2 l2 k1 k2=>by
              have:=(S.same _ _ _ _ _ y2 k1).2 k2.symm
              show l2.at_+ad.off=l.at_+(ad.off - l.lo)+l2.lo
              omega)
            (fun b2 g2 l2 hne k1=>(S.apart _ _ _ _ _ _ y2 k1 (Ne.symm hne) hown).symm)
            (by have:=u2.room ⟨c,et,fz,c1,c2,c3⟩ c1; exact this)
            (fun off x st k1 k2=>by
              show ∃ v',w'.cell? ⟨l.blk,l.at_+(ad.off - l.lo)+(off - ad.off),none⟩=some v'∧VR K v' x
              have k1:ad.off≤off:=k1
              by_cases hoff:off<ad.off+len * e.size
              · rw [List.getElem?_append_left (by rw [hlt]; exact hoff),List.getElem?_take,if_pos hoff] at k2
                obtain ⟨t1,t2⟩:=a6O _ _ _ _ z4
                obtain ⟨x2,st2,t3,t4,t5⟩:=t2 (off - ad.off) (by omega)
                rw [List.getElem?_drop,show ad.off+(off - ad.off)=off by omega,k2] at t3
                cases t3
                obtain ⟨v',r1,r2⟩:=S.cells _ cs cur false _ l z2 y2 off x st k2 t4 (by omega)
                refine ⟨v', ?_,r2⟩
                rw [u2.cell_other c1 _ (Or.inr (by dsimp only; omega)),show l.at_+(ad.off - l.lo)+(off - ad.off)=l.at_+(off - l.lo) by omega]
                exact r1
              · rw [List.getElem?_append_right (by rw [hlt]; omega),hlt,List.getElem?_map] at k2
                cases hq:(u::us)[off - (ad.off+len * e.size)]? with
                | none=>rw [hq] at k2; cases k2
                | some y=>
                  rw [hq] at k2; cases k2
                  obtain ⟨y',r1,r2⟩:=hvs.get? hq
                  refine ⟨y', ?_,r2⟩
                  have:=u2.cell_new c1 (by rw [hvl]; omega) _ _ r1
                  rw [show l.at_+(ad.off - l.lo)+(off - ad.off)=l.at_+(ad.off - l.lo)+len * e.size+0+(off - (ad.off+len * e.size)) by omega]
                  exact this)
           refine ⟨_,w',_,hrun,⟨S3.2,fun i g2 hi=>?_,S3.1⟩, ?_⟩
           · refine KM.put_other K _ (fun q=>?_)
             have hx:ad.block<s1.c:=by
              obtain ⟨o2,s2,hr,_⟩:=O7 (U2 h4).choose_spec.2
              exact (b1o hr).1
             omega
           · rw [y4]
             exact VR.slice (KM.put_same _ _ _ _) (Nat.le_refl _) hpos hfit (Or.inr rfl) (Or.inr ⟨rfl,by dsimp only [l']; omega,fun _=>hroom⟩)
         ·
           obtain ⟨l,y2,y3⟩:∃ l,K ad.block g=some l∧l.lo≤ad.off:=by
            generalize hv1:Value.slice (some ad') len cap=z' at p4
            generalize hv2:Value.slice (some ad) len e.size=z at p4
            cases p4 with
            | plain hp=>subst hv2; simp [V.plain] at hp
            | @slice b g2 off len' cap' es' l0 a0 k1 k2 k3 k4 k5 k6=>cases hv1; cases hv2; cases z1; exact ⟨l0,k1,k2⟩
            | _=>cases hv1
           obtain ⟨olds',o1,o2,o3⟩:=a8r S y2 y3 z2 z4
           have hol:olds'.length=len * e.size:=by rw [o1.len,o2]
           have hrold:(Builtin.firstCells e.size len (.slice (some ad') len cap)).run P w.drew=.ok olds'.toArray w.drew:=by
            rcases Nat.eq_zero_or_pos len with q | q
            · subst q
              have:olds'=[]:=List.eq_nil_of_length_eq_zero (by simpa using hol)
              subst this
              simp [Builtin.firstCells,loadCells,loadCellsFrom]
            · obtain ⟨g',l2,x1,x2,x3,rfl⟩:=a7U (p7 (by omega))
              rw [z1] at x1; cases x1
              rw [y2] at x2; cases x2
              have:=run_loadCells_list (P:=P) w.drew (⟨l.blk,l.at_+(ad.off - l.lo),none⟩:Addr) olds' (fun j v hj=>by rw [a8o]; exact o3 j v hj)
              rw [hol] at this
              exact this
           obtain ⟨nc,arr,c1,c2,c3⟩:=b1D (ty:=ty) (base:=some ad') (len:=len) (cap:=cap) (olds:=olds') hT h0 h1 hst hxt hdx he hn hfc2 hrold (by omega) q3 q4 hpos
           have hsz:arr.size=len * e.size+n * e.size+(nc - (len+n)) * e.size:=by
            rw [← Array.length_toList,c2]; simp [hvl,hol,a8e,g6,Nat.add_assoc]
           have G:Grew w (w.drew.alloc (.cells arr elem)):=(Grew.drew w).trans (Grew.alloc _ _)
           have hblk:(w.drew.alloc (.cells arr elem)).heap[w.heap.size]?=some (.cells arr elem (0, 0)):=by show (w.heap.push _)[w.heap.size]?=_; simp
           have S2:=a6E S1 G
           let l':Loc:=⟨w.heap.size,ad.off, 0,arr.size,true⟩
           have S3:=c0l (l:=l') (vs:=u::us) S2 hb1 hh' rfl (by show w.heap.size<(w.heap.push _).size; simp) (by show B0≤w.heap.size; exact S.base)
            (fun g2 l2 k1 k2=>by have:=S.dom _ _ _ k1; have k2:l2.blk=w.heap.size:=k2; omega)
            (fun b2 g2 l2 hne k1=>by have:=S.dom _ _ _ k1; show l2.blk≠w.heap.size; omega)
            ⟨arr,elem,(0, 0),hblk,rfl,fun o _=>by show World.frozen? _ ⟨w.heap.size,o,none⟩=false; simp only [World.frozen?,hblk]; simp⟩
            (fun off x st k1 k2=>by
              show ∃ v',(w.drew.alloc (.cells arr elem)).cell? ⟨w.heap.size, 0+(off - ad.off),none⟩=some v'∧VR K v' x
              have k1:ad.off≤off:=k1
              have hcell:∀ i y,(olds' ++ vs')[i]?=some y→(w.drew.alloc (.cells arr elem)).cell? ⟨w.heap.size, 0+i,none⟩=some y:=by
               intro i y hy
               have hi:i<(olds' ++ vs').length:=(List.getElem?_eq_some_iff.1 hy).1
               have:arr[i]?=some y:=by rw [← Array.getElem?_toList,c2,List.getElem?_append_left hi]; exact hy
               simp only [World.cell?,hblk,Nat.zero_add]
               simpa using this
              by_cases hoff:off<ad.off+len * e.size
              · rw [List.getElem?_append_left (by rw [hlt]; exact hoff),List.getElem?_take,if_pos hoff] at k2
                obtain ⟨t1,t2⟩:=a6O _ _ _ _ z4
                obtain ⟨x2,st2,t3,t4,t5⟩:=t2 (off - ad.off) (by omega)
                rw [List.getElem?_drop,show ad.off+(off - ad.off)=off by omega,k2] at t3
                cases t3
                obtain ⟨v',r1,r2⟩:=o1.get? t5
                exact ⟨v',hcell _ _ (by rw [List.getElem?_append_left (by rw [hol]; omega)]; exact r1),r2⟩
              · rw [List.getElem?_append_right (by rw [hlt]; omega),hlt,List.getElem?_map] at k2
                cases hq:(u::us)[off - (ad.off+len * e.size)]? with
                | none=>rw [hq] at k2; cases k2
                | some y=>
                  rw [hq] at k2; cases k2
                  obtain ⟨y',r1,r2⟩:=hvs.get? hq
                  refine ⟨y',hcell _ _ ?_,r2⟩
                  rw [List.getElem?_append_right (by rw [hol]; omega),hol,show off - ad.off - len * e.size=off - (ad.off+len * e.size) by omega]
                  exact r1)
           refine ⟨_,_,_,c3,⟨S3.2,fun i g2 hi=>?_,S3.1⟩, ?_⟩
           · refine KM.put_other K _ (fun q=>?_)
             have hx:ad.block<s1.c:=by
              obtain ⟨o2,s2,hr,_⟩:=O7 (U2 h4).choose_spec.2
              exact (b1o hr).1
             omega
           · refine VR.slice (KM.put_same _ _ _ _) (Nat.le_refl _) hpos c1 (Or.inr rfl) (Or.inr ⟨rfl,by dsimp only [l']; omega,fun _=>?_⟩)
             dsimp only [l']
             rw [hsz, ← Nat.add_mul, ← Nat.add_mul,Nat.add_sub_cancel' c1]; omega
       · cases p1
   | _=>exact absurd h (by intro q; cases q)
end
end Go.V
end
section
namespace Go.V
open Go.RowKit (Below)
section
variable {P:Program} {T:Tab} {B0:Nat} {w0:Base} {w:World} {K:KM} {s s':S} {a:Act} {fr:List Value} {v:Value}
theorem a6R {α:Type} (x:Array α) (i:Nat):x.toList[i]?=x[i]?:=by simp
theorem c1U (hT:TabOk P T) {ts:Array TypeId} {ty:TypeId} {vs vs':List Value} (hl:vs'.length=2) (h:appendV T ts vs s=some (v,s')) (S:Sim B0 w0 K s.h w) (F:a2C K s s') (r:VRL K vs' vs) :
 ∃ v' w' K',(Builtin.append_ ts ty vs'.toArray).run P w=.ok v' w'∧Step B0 w0 K s' w' K'∧VR K' v' v:=by
 obtain ⟨st,e1,h1⟩:=U2 h
 obtain ⟨xt,e2,h2⟩:=U2 h1
 obtain ⟨d,hd,h3⟩:=a1H h2
 obtain ⟨dx,hdx,h4⟩:=a1H h3
 rw [a4v,a6R] at e1 e2
 generalize hu:d.und=u at h4
 cases u with
 | slice elem=>
   obtain ⟨x0,e3,h5⟩:=U2 h4
   obtain ⟨x1,e4,h6⟩:=U2 h5
   obtain ⟨e,he,h7⟩:=a1H h6
   obtain ⟨hgd,h8⟩:=U1 h7
   obtain ⟨us,s1,h9,h10⟩:=O7 h8
   rw [a2R] at h10
   rw [a4v] at e3 e4
   obtain ⟨x0',x1',rest,rfl,r0,r1⟩:=r.two e3 e4
   have hrest:rest=[]:=by
    cases rest with
    | nil=>rfl
    | cons=>simp at hl
   subst hrest
   simp only [Bool.and_eq_true,Bool.not_eq_true'] at hgd
   have hpos:0<e.size:=Nat.pos_of_ne_zero (b3F (by rw [hgd.2]; rfl))
   obtain ⟨n,us',c1,c2,c3,c4,c5,c6⟩:=b3k (P:=P) h9 hpos S r1
   have S1:Sim B0 w0 K s1.h w:=by rw [c5]; exact S
   have F1:a2C K s1 s':=by intro i hi; rw [c6] at hi; rw [c5]; exact F i hi
   exact b7W hT e1 e2 (fun w=>by rw [a2f hT hd,hu]) (fun w=>a2f hT hdx w) (by simpa using hgd.1) he hpos h10 S1 F1 r0 (c1 w) (c2 w (fun _=>rfl)) (c2 w.drew (fun _=>rfl)) c3 c4
 | _=>exact absurd h4 (by intro q; cases q)
end
end Go.V
end
