/- AsmPrints: for every list of instructions the law returns true, and the list reads as before: the row, and its tied card. Conditions: those of the given row alone (the listed package variables hold what the program's text lays). The folder's other texts: an evaluator of the model's code, proved sound; the functions' plain forms; their contracts. Made short by a program (names, blanks). -/
import Derived.OpenShut
import Derived.Handed
import Derived.HandedShaped
import Derived.Test.YtmomonnlmbljoaaGreatDoorTie
import Derived.Test.YtmomonnlmbljoaaGreatDoorCards
import Derived.LaidLaws
import Derived.Lay
import Derived.JoinedOf
import Derived.SevenTiedAt
import Derived.Test.YtmomonnlmbljoaaGreatDoorPbp
section
namespace Go.Proofs.YtmomonnlmbljoaaGreatDoor
open Go.ChangeShapes Go.WideShapes Go.ChangeAt Go.RowKit Go.V
set_option maxRecDepth 100000
abbrev YR:Type:=Ins×Value×Value
structure HandI (W:World) (a:Addr) (i:Nat) (y:YR):Prop where
 cells:∀ (j:Nat) (x:Value),(a5P y)[j]?=some x→W.cell? ⟨a.block,a.off+(i * 9+j),none⟩=some x
 N:y.1.N<18446744073709551616
 t:b0z W y.2.1 y.1.types
 l:b0z W y.2.2 y.1.labels
def a6C (Ys:List YR):List IR:=Ys.mapIdx fun i y=>(y.1,b1r (8+2 * i) y.2.1,b1r (8+2 * i+1) y.2.2)
def a8h (Ys:List YR):a3J:=(Ys.mapIdx fun i y=>[(fun (_:Nat) (y:YR)=>P6 y.1.types) (0+i) y,(fun (_:Nat) (y:YR)=>P6 y.1.labels) (0+i) y]).flatten
def a8P (Ys:List YR):List (Nat×Nat):=(Ys.mapIdx fun i y=>[(fun (_:Nat) (y:YR)=>pOf y.2.1) (0+i) y,(fun (_:Nat) (y:YR)=>pOf y.2.2) (0+i) y]).flatten
noncomputable def a7A (mL:Int) (Ys:List YR):a3J:=V6 mL ++ ((a6C Ys).flatMap a5P::a8h Ys)
def a9n (p:Nat×Nat) (Ys:List YR):List (Nat×Nat):=[(0, 0),(1, 0),(2, 0),(3, 0),(4, 0),(5, 0),(6, 0)] ++ (p::a8P Ys)
theorem b9p {Ys:List YR} {i:Nat} {y:YR} (h:Ys[i]?=some y):(a6C Ys)[i]?=some (y.1,b1r (8+2 * i) y.2.1,b1r (8+2 * i+1) y.2.2):=by
 unfold a6C
 rw [List.getElem?_mapIdx,h]
 rfl
theorem c4s (Ys:List YR):(a6C Ys).length=Ys.length:=by unfold a6C; rw [List.length_mapIdx]
theorem b7t (mL:Int) (Ys:List YR):(a7A mL Ys)[7]?=some ((a6C Ys).flatMap a5P):=rfl
theorem c3p (p:Nat×Nat) (Ys:List YR):(a9n p Ys)[7]?=some p:=rfl
theorem b8i (mL:Int) (Ys:List YR) (k:Nat):(a7A mL Ys)[8+k]?=(a8h Ys)[k]?:=by
 show (V6 mL ++ ((a6C Ys).flatMap a5P::a8h Ys))[8+k]?=_
 rw [List.getElem?_append_right (by show 7≤_; omega),show 8+k - (V6 mL).length=k+1 by show 8+k - 7=_; omega,List.getElem?_cons_succ]
theorem b4v (p:Nat×Nat) (Ys:List YR) (k:Nat):(a9n p Ys)[8+k]?=(a8P Ys)[k]?:=by
 show ([(0, 0),(1, 0),(2, 0),(3, 0),(4, 0),(5, 0),(6, 0)] ++ (p::a8P Ys))[8+k]?=_
 rw [List.getElem?_append_right (by show 7≤_; omega),show 8+k - ([(0, 0),(1, 0),(2, 0),(3, 0),(4, 0),(5, 0),(6, 0)]:List (Nat×Nat)).length=k+1 by show 8+k - 7=_; omega,List.getElem?_cons_succ]
theorem b0p (Ys:List YR) (i:Nat):(a8h Ys)[2 * i]?=(Ys[i]?).map (fun y=>P6 y.1.types)∧(a8h Ys)[2 * i+1]?=(Ys[i]?).map fun y=>P6 y.1.labels:=
 b5e (fun (_:Nat) (y:YR)=>P6 y.1.types) (fun (_:Nat) (y:YR)=>P6 y.1.labels) Ys 0 i
theorem a8s (Ys:List YR) (i:Nat):(a8P Ys)[2 * i]?=(Ys[i]?).map (fun y=>pOf y.2.1)∧(a8P Ys)[2 * i+1]?=(Ys[i]?).map fun y=>pOf y.2.2:=
 b5e (fun (_:Nat) (y:YR)=>pOf y.2.1) (fun (_:Nat) (y:YR)=>pOf y.2.2) Ys 0 i
theorem c4N (k:Nat):k=2 * (k / 2)∨k=2 * (k / 2)+1:=by omega
theorem c6u (Ys:List YR):(a8P Ys).length=(a8h Ys).length:=by
 have h:∀ k:Nat,((a8P Ys)[k]?).isSome=((a8h Ys)[k]?).isSome:=by
  intro k
  rcases c4N k with q | q
  · rw [q,(a8s Ys (k / 2)).1,(b0p Ys (k / 2)).1]; cases Ys[k / 2]? <;> rfl
  · rw [q,(a8s Ys (k / 2)).2,(b0p Ys (k / 2)).2]; cases Ys[k / 2]? <;> rfl
 rcases Nat.lt_trichotomy (a8P Ys).length (a8h Ys).length with q | q | q
 · have:=h (a8P Ys).length
   rw [List.getElem?_eq_none (Nat.le_refl _),List.getElem?_eq_getElem q] at this
   cases this
 · exact q
 · have:=h (a8h Ys).length
   rw [List.getElem?_eq_none (l:=a8h Ys) (Nat.le_refl _),List.getElem?_eq_getElem q] at this
   cases this
theorem c1P (mL:Int) (W:World) (a:Addr) (Ys:List YR) (hY:∀ i y,Ys[i]?=some y→HandI W a i y) (v:Value) (hv:v=.slice (some ⟨7, 0,some 0⟩) Ys.length 9∨(Ys=[]∧∃ o e,v=.slice o 0 e)) :
 InsL (Go.V.a4P (a7A mL Ys)).c (Go.V.a4P (a7A mL Ys)).h v (a6C Ys):=by
 refine ⟨?_,fun x hx=>?_⟩
 · rcases hv with rfl | ⟨rfl,o,e,rfl⟩
   · refine ⟨_, 9,by rw [c4s],Or.inr ⟨7, 0, 0,((a6C Ys).flatMap a5P).map fun x=>(x, 0), 0,true,rfl,rfl, ?_, ?_,fun i x hx=>?_⟩⟩
     · show 7<L9 (a7A mL Ys)
       rw [Z5]; exact (List.getElem?_eq_some_iff.1 (b7t mL Ys)).1
     · rw [a3r,b7t]
     · have hi:i<(a6C Ys).length:=(List.getElem?_eq_some_iff.1 hx).1
       have hn:=b7u (a6C Ys)
       rw [Nat.zero_add,a5I, ← List.map_drop,c7S _ _ (by rw [List.length_drop]; omega)]
       congr 1
       refine List.ext_getElem? fun j=>?_
       rcases Nat.lt_or_ge j 9 with q | q
       · rw [List.getElem?_take,if_pos q,List.getElem?_drop]
         exact b9s _ i j x hx q
       · rw [List.getElem?_eq_none (by rw [List.length_take]; omega),List.getElem?_eq_none (by show 9≤j; exact q)]
   · exact ⟨o,e,rfl,Or.inl rfl⟩
 · obtain ⟨i,hi⟩:=List.mem_iff_getElem?.1 hx
   cases q:Ys[i]? with
   | none=>
     have:(a6C Ys)[i]?=none:=by unfold a6C; rw [List.getElem?_mapIdx,q]; rfl
     rw [this] at hi; cases hi
   | some y=>
     rw [b9p q] at hi
     cases hi
     have h1:(a7A mL Ys)[8+2 * i]?=some (P6 y.1.types):=by rw [b8i,(b0p Ys i).1,q]; rfl
     have h2:(a7A mL Ys)[8+2 * i+1]?=some (P6 y.1.labels):=by rw [Nat.add_assoc,b8i,(b0p Ys i).2,q]; rfl
     exact ⟨b5p (hY i y q).t h1,b5p (hY i y q).l h2⟩
theorem b9P {H:Type} {enc:TypeId×Value→H} {W:World} {fuel:Nat} {v:Value} {x:DataW H×List MemPlace} (h:DataW.trod enc Tryz.prog W 0 (fun _=>true) true fuel 32 [v]=some x) :
 (v=.slice none 0 0)∨∃ (a:Addr) (cap:Nat) (Ys:List YR),v=.slice (some a) Ys.length cap∧Ys.length≤cap∧∀ i y,Ys[i]?=some y→HandI W a i y:=by
 have k30:Tryz.prog.cellsOf 30=9:=by kernel_rfl
 rcases Go.Deep.open_slice Tryz.underlying32 h with ⟨e0,_⟩ | ⟨a,len,cap,m,n,D,Pl,e0,_,hle,_,hm,_,hi⟩
 · exact Or.inl (by simpa using e0)
 · have hm':m=cap:=by rw [hm]; rfl
   subst hm'
   have e0':v=.slice (some a) len m:=by simpa using e0
   rw [k30] at hi
   have key:∀ i,i<len→∃ y:YR,HandI W a i y:=by
    intro i hil
    obtain ⟨cs',h1,h2⟩:=hi i (by omega)
    obtain ⟨op,A,B,N,k,v1,i1,tv,lv,n',x1,x2,rfl,wN,_,t1,t2⟩:=c2T h2
    obtain ⟨N,rfl,hN⟩:=d0G wN
    obtain ⟨lt,Ht⟩:=b3A Tryz.underlying27 Tryz.underlying24 (by kernel_rfl) t1
    obtain ⟨ll,Hl⟩:=b3A Tryz.underlying28 Tryz.underlying3 (by kernel_rfl) t2
    refine ⟨(⟨op,A,B,N,k,v1,i1,lt,ll⟩,tv,lv),⟨fun j x hj=>?_,hN,Ht,Hl⟩⟩
    have hj9:j<9:=(List.getElem?_eq_some_iff.1 hj).1
    unfold World.cells? at h1
    rw [if_pos (Nat.zero_le _)] at h1
    have hx:=mapM_some_get h1 j j (by simp [hj9])
    have hs:a.spot=none∨a.spot≠none:=by cases a.spot <;> simp
    have c0:=mapM_some_get h1 0 0 (by simp)
    have hx':W.cell? ((a.add (i * 9)).add j)=some x:=hx.trans hj
    rw [Go.Deep.add_add] at hx'
    have hsp:=World.cell?_spot hx'
    have e:a.add (i * 9+j)=⟨a.block,a.off+(i * 9+j),none⟩:=by
     obtain ⟨ab,ao,asp⟩:=a
     unfold Addr.add at hsp ⊢
     by_cases q:i * 9+j=0
     · rw [if_pos q] at hsp ⊢
       simp only at hsp
       rw [hsp,q]; rfl
     · rw [if_neg q]
    rw [e] at hx'
    exact hx'
   obtain ⟨Ys,hlen,hY⟩:=c8u len key
   exact Or.inr ⟨a,m,Ys,by rw [hlen]; exact e0',by omega,hY⟩
theorem c4I {W:World} {a:Addr} {p:Nat×Nat} {Ys:List YR} {i:Nat} {y:YR} (hy:Ys[i]?=some y) (HI:HandI W a i y) (j:Nat) (x:Value) (hx:(a5P (y.1,b1r (8+2 * i) y.2.1,b1r (8+2 * i+1) y.2.2))[j]?=some x) :
 ∃ x',(a5P y)[j]?=some x'∧VR (a7g (a9n p Ys)) x' x:=by
 have g1:(a9n p Ys)[8+2 * i]?=some (pOf y.2.1):=by rw [b4v,(a8s Ys i).1,hy]; rfl
 have g2:(a9n p Ys)[8+2 * i+1]?=some (pOf y.2.2):=by rw [Nat.add_assoc,b4v,(a8s Ys i).2,hy]; rfl
 rcases j with _ | _ | _ | _ | _ | _ | _ | _ | _ | j
 · cases hx; exact ⟨_,rfl,VR.plain rfl⟩
 · cases hx; exact ⟨_,rfl,VR.plain rfl⟩
 · cases hx; exact ⟨_,rfl,VR.plain rfl⟩
 · cases hx; exact ⟨_,rfl,VR.plain rfl⟩
 · cases hx; exact ⟨_,rfl,VR.plain rfl⟩
 · cases hx; exact ⟨_,rfl,VR.plain rfl⟩
 · cases hx; exact ⟨_,rfl,VR.plain rfl⟩
 · cases hx; exact ⟨_,rfl,b9f HI.t g1⟩
 · cases hx; exact ⟨_,rfl,b9f HI.l g2⟩
 · cases hx
theorem b5D {W:World} {mL:Int} (hL:LaidV (V6 mL) W) (a:Addr) (ha:a.block<W.heap.size) (Ys:List YR) (hY:∀ i y,Ys[i]?=some y→HandI W a i y) (v0 v:Value) (hv:v=.slice (some ⟨7, 0,some 0⟩) Ys.length 9∨(Ys=[]∧∃ o e,v=.slice o 0 e)) (hr:VR (a7g (a9n (a.block,a.off) Ys)) v0 v) :
 Calls Tryz.prog 4 #[v0] W fun e W'=>e=.returned (.bool true)∧Below W.heap.size W W':=by
 have hsz:0<W.heap.size:=Nat.lt_of_lt_of_le (show 0<(V6 mL).length from by show 0<7; decide) hL.size
 have hb:∀ j,j<7→j<W.heap.size:=fun j hj=>Nat.lt_of_lt_of_le hj (show 7≤W.heap.size from hL.size)
 obtain ⟨x,s,hrun,hx⟩:=c3d (a6C Ys) v (fun x hx=>by
  obtain ⟨i,hi⟩:=List.mem_iff_getElem?.1 hx
  cases q:Ys[i]? with
  | none=>
    have:(a6C Ys)[i]?=none:=by unfold a6C; rw [List.getElem?_mapIdx,q]; rfl
    rw [this] at hi; cases hi
  | some y=>rw [b9p q] at hi; cases hi; exact (hY i y q).N) _ _ (c1P mL W a Ys hY v hv) [] []
 subst hx
 have hrun':K4 s8 3 4 [v] (Go.V.a4P (a7A mL Ys))=some (.ret (.bool true),s):=hrun
 refine b4G (vs:=V6 mL) (rows:=a7A mL Ys) (args':=[v0]) a2m a0w (a9n (a.block,a.off) Ys) ?_ ?_ ?_ ?_ hL (L8 (mL:=mL)).e (L8 (mL:=mL)).s Tryz.func4 (by kernel_rfl) rfl (VRL.cons hr (VRL.nil _)) rfl hrun'
 · have h7:(V6 mL).length=7:=rfl
   unfold a9n a7A
   simp only [List.length_append,List.length_cons,List.length_nil,c6u,h7]
 · intro p hp
   obtain ⟨k,hk⟩:=List.mem_iff_getElem?.1 hp
   rcases Nat.lt_or_ge k 8 with q | q
   · rcases k with _ | _ | _ | _ | _ | _ | _ | _ | k
     · cases hk; exact hb 0 (by decide)
     · cases hk; exact hb 1 (by decide)
     · cases hk; exact hb 2 (by decide)
     · cases hk; exact hb 3 (by decide)
     · cases hk; exact hb 4 (by decide)
     · cases hk; exact hb 5 (by decide)
     · cases hk; exact hb 6 (by decide)
     · cases hk; exact ha
     · omega
   · obtain ⟨k,rfl⟩:∃ m,k=8+m:=⟨k - 8,by omega⟩
     rw [b4v] at hk
     rcases c4N k with e | e
     · rw [e,(a8s Ys (k / 2)).1] at hk
       cases q2:Ys[k / 2]? with
       | none=>rw [q2] at hk; cases hk
       | some y=>rw [q2] at hk; cases hk; exact c0S hsz (hY _ y q2).t
     · rw [e,(a8s Ys (k / 2)).2] at hk
       cases q2:Ys[k / 2]? with
       | none=>rw [q2] at hk; cases hk
       | some y=>rw [q2] at hk; cases hk; exact c0S hsz (hY _ y q2).l
 · intro b p l hp hl off x hx
   rcases Nat.lt_or_ge b 7 with q | q
   · have hv':∀ g l,(V6 mL)[g]?=some l→∀ off x,l[off]?=some x→W.cell? ⟨g, 0+off,none⟩=some x∧plain x=true:=fun g l hl off x hx=>⟨by rw [Nat.zero_add]; exact hL.cell g l hl off x hx,a5U l (List.mem_of_getElem? hl) x (List.mem_of_getElem? hx)⟩
     have hl':(V6 mL)[b]?=some l:=by
      have:(a7A mL Ys)[b]?=(V6 mL)[b]?:=List.getElem?_append_left (by show b<7; exact q)
      rw [← this]; exact hl
     have hp':p=(b, 0):=by
      rcases b with _ | _ | _ | _ | _ | _ | _ | b
      all_goals first | (cases hp; rfl) | omega
     subst hp'
     obtain ⟨e1,e2⟩:=hv' b l hl' off x hx
     exact ⟨x,e1,VR.plain e2⟩
   · rcases Nat.eq_or_lt_of_le q with q | q
     · obtain rfl:=q.symm
       rw [c3p] at hp
       rw [b7t] at hl
       cases hp
       cases hl
       have ho:off=off / 9 * 9+off % 9:=by omega
       have hi:off / 9<(a6C Ys).length:=by
        have:=(List.getElem?_eq_some_iff.1 hx).1
        rw [b7u] at this
        omega
       cases q2:Ys[off / 9]? with
       | none=>rw [c4s] at hi; rw [List.getElem?_eq_getElem hi] at q2; cases q2
       | some y=>
         rw [ho,b9s _ _ _ _ (b9p q2) (by omega)] at hx
         obtain ⟨x',e1,e2⟩:=c4I (p:=(a.block,a.off)) q2 (hY _ y q2) _ x hx
         refine ⟨x', ?_,e2⟩
         have:=(hY _ y q2).cells _ x' e1
         rw [← ho] at this
         exact this
     · obtain ⟨k,rfl⟩:∃ m,b=8+m:=⟨b - 8,by omega⟩
       rw [b4v] at hp
       rw [b8i] at hl
       rcases c4N k with e | e
       · rw [e,(a8s Ys (k / 2)).1] at hp
         rw [e,(b0p Ys (k / 2)).1] at hl
         cases q2:Ys[k / 2]? with
         | none=>rw [q2] at hp; cases hp
         | some y=>
           rw [q2] at hp hl
           cases hp
           cases hl
           obtain ⟨e1,e2⟩:=b3r (hY _ y q2).t off x hx
           exact ⟨x,e1,VR.plain e2⟩
       · rw [e,(a8s Ys (k / 2)).2] at hp
         rw [e,(b0p Ys (k / 2)).2] at hl
         cases q2:Ys[k / 2]? with
         | none=>rw [q2] at hp; cases hp
         | some y=>
           rw [q2] at hp hl
           cases hp
           cases hl
           obtain ⟨e1,e2⟩:=b3r (hY _ y q2).l off x hx
           exact ⟨x,e1,VR.plain e2⟩
 · intro g hg
   have hg':g<7:=hg
   rcases g with _ | _ | _ | _ | _ | _ | _ | g
   all_goals first | rfl | omega
theorem b7k {H:Type} {enc:TypeId×Value→H} {W:World} {base:Nat} {v0:Value} {d0:DataW H} {p0:List MemPlace} {mL:Int} (hL:LaidV (V6 mL) W) (hv0:Value.okWide Tryz.prog W .any base 32 v0)
 (h0:DataW.Trod enc Tryz.prog W 0 (fun _=>true) true 32 v0 d0 p0) :
 Calls Tryz.prog 4 #[v0] W fun e W'=>e=.returned (.bool true)∧Below W.heap.size W W':=by
 have hsz:0<W.heap.size:=Nat.lt_of_lt_of_le (show 0<(V6 mL).length from by show 0<7; decide) hL.size
 obtain ⟨f0,hf0⟩:=h0
 rcases c5Z Tryz.underlying32 hv0 with rfl | ⟨a,len,cap,rfl,hs,hb⟩
 · exact b5D hL ⟨0, 0,none⟩ hsz [] (fun i y h=>by cases h) _ (.slice none 0 0) (Or.inr ⟨rfl,_,_,rfl⟩) (VR.plain rfl)
 · have hf:DataW.trod enc Tryz.prog W 0 (fun _=>true) true f0 32 [.slice (some a) len cap]=some (d0,p0):=hf0
   rcases b9P hf with e | ⟨a',cap',Ys,e,hle,hY⟩
   · cases e
   · cases e
     refine b5D hL a hb Ys hY _ (.slice (some ⟨7, 0,some 0⟩) Ys.length 9) (Or.inl rfl) ?_
     exact VR.slice (a9l (c3p _ _)) (Nat.le_refl _) (by decide) hle (Or.inr hs) (Or.inr ⟨rfl,by simp,fun h=>(by cases h)⟩)
end Go.Proofs.YtmomonnlmbljoaaGreatDoor
end
section
namespace Go.Proofs.YtmomonnlmbljoaaGreatDoor
open Go.V Go.RowKit
set_option maxRecDepth 100000
theorem c4O {H:Type} {enc:TypeId×Value→H} {P:Program} {w:World} {b:Nat} {sp:Nat→Bool} {held:Bool} {n:Nat} {t e:TypeId} {k:IntKind} {fuel:Nat} {cs:List Value} {zs:List Int} {p:List MemPlace} (ht:P.underlying t=some (.array n e)) (he:P.underlying e=some (.int k)) (hc:P.cellsOf e=1) (hct:P.cellsOf t=n)
 (h:DataW.trod enc P w b sp held fuel t cs=some (.agg (zs.map fun z=>.lit (.int k z)),p)):cs=zs.map fun z=>.int k z:=by
 obtain ⟨xs,m,_,hx,hl,hlen,hf⟩:=DataW.trod_array ht h
 have hx1:zs.map (fun z=>(DataW.lit (.int k z):DataW H))=xs.map (·.1):=by
  have:=congrArg Prod.fst hx
  simpa using this
 have hzs:zs.length=n:=by have:=congrArg List.length hx1; simpa [hlen] using this
 rw [hct] at hl
 refine List.ext_getElem? fun i=>?_
 by_cases hi:i<n
 · have h1:=hf i hi
   rw [hc,Nat.mul_one,List.getElem?_eq_getElem (by omega)] at h1
   obtain ⟨z,e1,e2,_⟩:=DataW.trod_int he h1
   have e3:(xs.map (·.1))[i]?=some (DataW.lit (.int k z)):=by rw [List.getElem?_map,List.getElem?_eq_getElem (by omega),Option.map_some,e2]
   rw [← hx1,List.getElem?_map,List.getElem?_eq_getElem (by omega),Option.map_some] at e3
   have e4:zs[i]=z:=by simpa using e3
   have e5:(cs.drop i)[0]?=some (.int k z):=by
    have:=congrArg (fun l=>l[0]?) e1
    simpa [List.getElem?_take] using this
   rw [List.getElem?_drop,Nat.add_zero] at e5
   rw [e5,List.getElem?_map,List.getElem?_eq_getElem (by omega),e4]
   rfl
 · rw [List.getElem?_eq_none (by omega),List.getElem?_eq_none (by simp; omega)]
theorem b0I {W:World} {name:String} {G:Nat} {T e:TypeId} {n:Nat} {k:IntKind} {zs:List Int} (hG:Tryz.prog.globalNamed name=some G) (hT:(Tryz.prog.globals[G]?).map (·.type)=some T) (ht:Tryz.prog.underlying T=some (.array n e)) (he:Tryz.prog.underlying e=some (.int k)) (hc:Tryz.prog.cellsOf e=1) (hct:Tryz.prog.cellsOf T=n)
 {g:Nat} {t:TypeId} {cs:Array Value} {fuel:Nat} {p:List MemPlace} (h1:Tryz.prog.globalNamed name=some g) (h2:(Tryz.prog.globals[g]?).map (·.type)=some t) (h3:W.var? Tryz.prog name=some cs)
 (h4:DataW.trod (fun _=>()) Tryz.prog W 0 (fun _=>true) false fuel t cs.toList=some (.agg (zs.map fun z=>.lit (.int k z)),p)):∃ ty fz,W.heap[G]?=some (.cells ⟨zs.map fun z=>.int k z⟩ ty fz):=by
 obtain rfl:G=g:=Option.some.inj (hG.symm.trans h1)
 obtain rfl:T=t:=Option.some.inj (hT.symm.trans h2)
 have hcs:=c4O ht he hc hct h4
 have ecs:cs=⟨zs.map fun z=>.int k z⟩:=by obtain ⟨l⟩:=cs; exact congrArg Array.mk hcs
 subst ecs
 unfold World.var? at h3
 rw [hG,Option.bind_some] at h3
 split at h3
 · rename_i cs' ty fz hh
   cases h3
   exact ⟨_,_,hh⟩
 · cases h3
theorem c4p {W:World} (h:laidMet Tryz.prog Rows.asmLinesRow.laid W):(∃ ty fz,W.heap[5]?=some (.cells ⟨b1L⟩ ty fz))∧(∃ ty fz,W.heap[4]?=some (.cells ⟨b1V⟩ ty fz))∧(∃ ty fz,W.heap[2]?=some (.cells ⟨a8Y⟩ ty fz))∧∃ ty fz,W.heap[0]?=some (.cells ⟨a5l⟩ ty fz):=by
 obtain ⟨ps,hV,_⟩:=h
 obtain ⟨g1,t1,cs1,f1,p1,q1,a1,b1,c1,d1,hV,_⟩:=hV
 obtain ⟨g2,t2,cs2,f2,p2,q2,a2,b2,c2,d2,hV,_⟩:=hV
 obtain ⟨g3,t3,cs3,f3,p3,q3,a3,b3,c3,d3,hV,_⟩:=hV
 obtain ⟨g4,t4,cs4,f4,p4,q4,a4,b4,c4,d4,hV,_⟩:=hV
 obtain ⟨g5,t5,cs5,f5,p5,q5,a5,b5,c5,d5,hV,_⟩:=hV
 have x1:(Rows.laid_math_bits_deBruijn32tab:DataW Unit)=.agg ((b1L.map intOf).map fun z=>.lit (.int .u8 z)):=by kernel_rfl
 have x2:(Rows.laid_math_bits_deBruijn64tab:DataW Unit)=.agg ((b1V.map intOf).map fun z=>.lit (.int .u8 z)):=by kernel_rfl
 have x3:(Rows.laid_internal_strconv_uint64pow10:DataW Unit)=.agg ((a8Y.map intOf).map fun z=>.lit (.int .u64 z)):=by kernel_rfl
 have x5:(Rows.laid_strings_asciiSpace:DataW Unit)=.agg ((a5l.map intOf).map fun z=>.lit (.int .u8 z)):=by kernel_rfl
 have y1:(b1L.map intOf).map (fun z=>Value.int .u8 z)=b1L:=by kernel_rfl
 have y2:(b1V.map intOf).map (fun z=>Value.int .u8 z)=b1V:=by kernel_rfl
 have y3:(a8Y.map intOf).map (fun z=>Value.int .u64 z)=a8Y:=by kernel_rfl
 have y5:(a5l.map intOf).map (fun z=>Value.int .u8 z)=a5l:=by kernel_rfl
 rw [x1] at d1
 rw [x2] at d2
 rw [x3] at d3
 rw [x5] at d5
 have z1:=b0I (G:=5) (T:=271) (by kernel_rfl) (by kernel_rfl) Tryz.underlying271 Tryz.underlying5 (by kernel_rfl) (by kernel_rfl) a1 b1 c1 d1
 have z2:=b0I (G:=4) (T:=253) (by kernel_rfl) (by kernel_rfl) Tryz.underlying253 Tryz.underlying5 (by kernel_rfl) (by kernel_rfl) a2 b2 c2 d2
 have z3:=b0I (G:=2) (T:=250) (by kernel_rfl) (by kernel_rfl) Tryz.underlying250 Tryz.underlying23 (by kernel_rfl) (by kernel_rfl) a3 b3 c3 d3
 have z5:=b0I (G:=0) (T:=219) (by kernel_rfl) (by kernel_rfl) Tryz.underlying219 Tryz.underlying5 (by kernel_rfl) (by kernel_rfl) a5 b5 c5 d5
 rw [y1] at z1
 rw [y2] at z2
 rw [y3] at z3
 rw [y5] at z5
 exact ⟨z1,z2,z3,z5⟩
theorem d4K:((begin Tryz.prog (fun _ _=>0) default).world.heap[3]?).bind Obj.row?=some (#[.int .i64 0], 3):=by kernel_rfl
theorem d6V:(((begin Tryz.prog (fun _ _=>0) default).world.heap[6]?).bind Obj.row?).isSome=true:=by kernel_rfl
theorem c4T {W:World} (h:laidMet Tryz.prog Rows.asmLinesRow.laid W) (hS:W.ShapedOpen Tryz.prog):∃ mL,LaidV (V6 mL) W:=by
 obtain ⟨⟨t5,z5,h5⟩,⟨t4,z4,h4⟩,⟨t2,z2,h2⟩,⟨t0,z0,h0⟩⟩:=c4p h
 have hg:Tryz.prog.globals.size=7:=by kernel_rfl
 obtain ⟨cs,e3,hsz,hrow⟩:=hS.1 3 _ _ (by rw [hg]; decide) d4K
 obtain ⟨⟨zero6,ty6⟩,e6⟩:=Option.isSome_iff_exists.1 d6V
 obtain ⟨cs6,e6',_,_⟩:=hS.1 6 _ _ (by rw [hg]; decide) e6
 obtain ⟨ts,hts,_,hc⟩:=hrow (by kernel_rfl)
 have ets:ts=[3]:=(Option.some.inj ((show Tryz.prog.cellTypes Tryz.prog.depth 3=some [3] by kernel_rfl).symm.trans hts)).symm
 subst ets
 obtain ⟨l⟩:=cs
 have hl:l.length=1:=hsz
 obtain ⟨x,rfl⟩:∃ x,l=[x]:=by
  match l,hl with
  | [x],_=>exact ⟨x,rfl⟩
 obtain ⟨u,hu,hk⟩:=hc 0 x rfl
 cases hu
 unfold Cell.ok at hk
 rw [Tryz.underlying3] at hk
 obtain ⟨m,rfl⟩:∃ m,x=.int .i64 m:=by
  cases x with
  | int k n=>obtain ⟨rfl,_⟩:=hk; exact ⟨n,rfl⟩
  | _=>exact (hk:False).elim
 have hrows:∀ (g:Nat) (l:List Value),(V6 m)[g]?=some l→l≠[]→∃ t fz,W.heap[g]?=some (.cells ⟨l⟩ t fz):=by
  intro g l hl hne
  rcases g with _ | _ | _ | _ | _ | _ | _ | g
  · cases hl; exact ⟨_,_,h0⟩
  · cases hl; exact absurd rfl hne
  · cases hl; exact ⟨_,_,h2⟩
  · cases hl; exact ⟨_,_,e3⟩
  · cases hl; exact ⟨_,_,h4⟩
  · cases hl; exact ⟨_,_,h5⟩
  · cases hl; exact absurd rfl hne
  · cases hl
 refine ⟨m, ?_,fun g l hl off v hv=>?_,hrows⟩
 · rcases Nat.lt_or_ge 6 W.heap.size with q | q
   · exact q
   · rw [Array.getElem?_eq_none q] at e6'; cases e6'
 · obtain ⟨t,fz,hh⟩:=hrows g l hl (fun e=>by rw [e] at hv; cases hv)
   simp only [World.cell?,hh]
   simpa using hv
end Go.Proofs.YtmomonnlmbljoaaGreatDoor
end
section
namespace Go
open Go.ChangeShapes
section
variable {H:Type} {enc:TypeId×Value→H}
theorem a7M {a:Assume} {C:Checked} {os:Os} {f:FuncId} {fn:Func} {s:ChangeSpec} {conds:List PathCond} {apart fresh handsOn again:Bool} {X:World→Array Value→Prop}
 (hX:∀ (w w':World) (args:Array Value),w.heap=w'.heap→X w args→X w' args)
 (own:ownKnob C.prog.godebug=none) (started:os.Started) (noInit:C.prog.inits.idxOf? f=none) (hfn:C.prog.funcs[f]?=some fn)
 (witness:∃ (w:World) (tape:Tape) (i:Input),w.os=os∧(w.forCall tape i).Shaped C.prog∧i.vars=[]∧Input.okWide C.prog (w.forCall tape i) .any w.heap.size f i ∧
   ((s.pre enc C.prog fn conds apart (w.forCall tape i).memory i.args∧X (w.forCall tape i).memory i.args)∧sizedMet enc C.prog fn (OpenSpec.ofChange s) apart (w.forCall tape i).memory i.args)∧a.holds C.prog (lone (Frame.enter C.prog f i.args .normal) [] (w.forCall tape i)))
 (contract:∀ (W:World) (base:Nat) (args:Array Value) (ds gs:List (DataW H)) (before:List MemPlace),
   (∀ (j:Nat) t v,fn.params[j]?=some t→args[j]?=some v→Value.okWide C.prog W .any base t v) →
   DataW.Whole enc C.prog fn.params.toList s.vars apart W args.toList ds gs before→X W args→W.ShapedOpen C.prog →
   Calls C.prog f args W fun e W'=>∃ v,e=.returned v∧s.post enc C.prog fn apart fresh handsOn again W args v W') :
 ReturnsInHanded a C os f .any (fun w args=>(s.pre enc C.prog fn conds apart w args∧X w args)∧sizedMet enc C.prog fn (OpenSpec.ofChange s) apart w args) (s.post enc C.prog fn apart fresh handsOn again):=by
 refine returnsInHanded_of_calls own started noInit witness ?_
 intro w tape i _ hsh _ hok hpre hholds
 obtain ⟨_,_,_,fn',hfn',_,_,_,_,hval⟩:=hok
 have e:fn'=fn:=Option.some.inj (hfn'.symm.trans hfn)
 subst e
 obtain ⟨⟨⟨ds,gs,before,hw,hc⟩,hx⟩,hz⟩:=hpre
 have hw':=DataW.Whole.of_heap (w':=w.forCall tape i) (by rfl) hw
 refine (contract (w.forCall tape i) w.heap.size i.args ds gs before hval hw' (hX _ _ _ (by rfl) hx) hsh).mono fun e W' ⟨v,he,hp⟩=>?_
 subst he
 exact ChangeSpec.post_blind hp
end
end Go
end
section
namespace Go.Proofs.YtmomonnlmbljoaaGreatDoor
open Go.V Go.RowKit Go.ChangeShapes Go.WideShapes Go.ChangeAt
set_option maxRecDepth 100000
theorem Tryz.ownP:ownKnob Tryz.prog.godebug=none:=by kernel_rfl
theorem Tryz.laidOutP:laidOutB Tryz.prog=true:=by kernel_rfl
noncomputable def c7Y:Array Value:=#[.slice none 0 0]
theorem b8I (os:Os) (args:Array Value):laidMet Tryz.prog Rows.asmPrintsRow.laid ((World.laidAll Tryz.prog os Rows.asmPrintsRow.laid).forCall (fun _ _=>0) ⟨#[],args, []⟩).memory:=
 laidMet_laidAll args (by kernel_rfl) (by kernel_rfl)
theorem b3Z (os:Os) (args:Array Value):((World.laidAll Tryz.prog os Rows.asmPrintsRow.laid).forCall (fun _ _=>0) ⟨#[],args, []⟩).Shaped Tryz.prog:=
 World.shaped_of_ZipB (by kernel_rfl) (by kernel_rfl)
theorem b9J {H:Type} {enc:TypeId×Value→H} {W:World} {base:Nat} {args:Array Value} {ds gs:List (DataW H)} {before:List MemPlace}
 (hval0:∀ (j:Nat) t v,Tryz.f4.params[j]?=some t→args[j]?=some v→Value.okWide Tryz.prog W .any base t v)
 (hW:DataW.Whole enc Tryz.prog Tryz.f4.params.toList Rows.asmPrintsSpec.vars false W args.toList ds gs before) (hX:laidMet Tryz.prog Rows.asmPrintsRow.laid W) (hS:W.ShapedOpen Tryz.prog) :
 Calls Tryz.prog 4 args W fun e W'=>∃ v,e=.returned v∧Rows.asmPrintsSpec.post enc Tryz.prog Tryz.f4 false true false false W args v W':=by
 have hval:=hval0
 have hW':=hW
 obtain ⟨p,q,hA0,hV,rfl,hfz,hnd⟩:=hW
 have hA:DataW.TrodAll enc Tryz.prog W 0 (fun _=>true) true Tryz.f4.params.toList args.toList ds p:=hA0
 rw [Tryz.params4] at hA hval
 obtain ⟨v0,d0,rfl,rfl,h0⟩:=trodAll_one hA
 obtain ⟨rfl,rfl⟩:=trodVars_none hV
 obtain ⟨mL,hL⟩:=c4T hX hS
 refine (b7k hL (hval 0 32 v0 rfl rfl) h0).mono fun e W' ⟨he,hb⟩=>?_
 subst he
 have hlt:∀ x∈p,x.block<W.heap.size:=fun x hx=>by simpa using hW'.lt x (by simpa using hx)
 refine ⟨_,rfl,_,_,_, [],p, [],hW', ?_, ?_, ?_,hb.frame _,fun h=>by cases h⟩
 · exact trodAll_mk1 (shut_bool Tryz.underlying4 true)
 · exact trodAll_mk1 (Below.trod Tryz.laidOutP (by kernel_rfl) (of_decide_eq_true (by kernel_rfl)) h0 hb hlt)
 · rfl
theorem b5L (os:Os) (started:os.Started) (H:Type) (enc:TypeId×Value→H) :
 ReturnsInHanded {} Tryz.checked os 4 .any (fun w args=>(Rows.asmPrintsSpec.pre enc Tryz.prog Tryz.f4 [] false w args∧laidMet Tryz.prog Rows.asmPrintsRow.laid w)∧sizedMet enc Tryz.prog Tryz.f4 (OpenSpec.ofChange Rows.asmPrintsSpec) false w args)
  (Rows.asmPrintsSpec.post enc Tryz.prog Tryz.f4 false true false false):=by
 refine a7M (C:=Tryz.checked) (X:=fun w _=>laidMet Tryz.prog Rows.asmPrintsRow.laid w) (fun _ _ _ hh h=>h.of_heap hh) Tryz.ownP started (by kernel_rfl) Tryz.func4
  (ChangeSpec.witness_shaped (enc:=enc) (C:=Tryz.checked) (os:=os) (X:=fun w _=>laidMet Tryz.prog Rows.asmPrintsRow.laid w) false (World.laidAll Tryz.prog os Rows.asmPrintsRow.laid) c7Y 8 (World.laidAll_os _ _ _) (b3Z os _) (by kernel_rfl) (by kernel_rfl) (by kernel_rfl) (b8I os _)) ?_
 intro W base args ds gs before hval hW hX hS
 exact b9J hval hW hX hS
theorem b9A:Rows.AsmPrintsSaid:=
 OpenClaim.holds_of_wide 4 Tryz.f4 rfl rfl rfl rfl rfl rfl rfl ⟨rfl,rfl,rfl,rfl,rfl⟩ rfl rfl rfl rfl rfl (by kernel_rfl) Tryz.func4 (by kernel_rfl)
  (of_decide_eq_true (by kernel_rfl)) (by unfold Func.isWrapper; rw [if_neg (of_decide_eq_false (by kernel_rfl))]; exact ⟨rfl,rfl⟩)
  (fun os started H enc _=>b5L os started H enc)
theorem asmPrints_holds:Rows.AsmPrintsCardSaid:=
 Claim7.holds_tied_plain_at .later [] [.data,.data,.data,.listed,.data] true (true, "43c62acaed52c2d1c7c766b14af42ec8a2d4ae97c4011508ed185cefeb6592bb") false
  b9A (fun _ h=>by cases h) (by kernel_rfl) (fun _ h=>by cases h) asmPrints_row_tie rfl ⟨rfl,rfl⟩ (by kernel_rfl) rfl
  (fun f fn hf hfn=>by
    obtain rfl:f=4:=Option.some.inj ((show Tryz.prog.funcNamed Rows.asmPrintsRow.func=some 4 by kernel_rfl).symm.trans hf) |>.symm
    obtain rfl:fn=Tryz.f4:=(Option.some.inj (Tryz.func4.symm.trans hfn)).symm
    exact ⟨by kernel_rfl,fun j t ht=>by
     rw [Tryz.params4] at ht
     have h3:t=32:=by
      rcases j with _ | j
      · simpa using ht.symm
      · simp at ht
     subst h3
     exact (show Tryz.prog.wantsStandIn 32=false by kernel_rfl)⟩)
  (by kernel_rfl)
end Go.Proofs.YtmomonnlmbljoaaGreatDoor
end
